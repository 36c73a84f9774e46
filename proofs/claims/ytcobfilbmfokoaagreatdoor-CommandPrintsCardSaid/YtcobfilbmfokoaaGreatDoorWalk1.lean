/- YtcobfilbmfokoaaGreatDoorWalk1. Texts of the proof of a law about recordings: a layer of abstract values above the worlds, the types, the walks of the functions that the law reaches, the law and its card. Own work of an AI agent. -/
import Derived.Test.YtcobfilbmfokoaaGreatDoorWalk0
import Derived.Test.YtcobfilbmfokoaaGreatDoorCore1
import Derived.Shelf.Strconv.ToError
import Derived.Test.YtcobfilbmfokoaaGreatDoorShelf
import Derived.Shelf.Strings.OnBuilder
import Derived.Shelf.Strings.Search1
import Derived.Shelf.Strconv.Atoi
import Derived.Shelf.Strings.SlTrimAscii
import Derived.Lib.AtoiErrMem
set_option linter.all false
set_option linter.unusedVariables false
set_option linter.unusedSimpArgs false
namespace Go.Proofs.YtcobfilbmfokoaaGreatDoor
open Go Go.Fen
set_option linter.unusedSimpArgs false
set_option linter.unusedVariables false
attribute [local irreducible] RunX WP ACall AnyP OpA ProtL
set_option maxRecDepth 8000
def okc (c : Nat) : Bool := decide (32 ≤ c) && !(decide (127 ≤ c) && decide (c ≤ 159))
theorem textS_U (l : List Nat) : textS l = (textU l).map UInt8.ofNat := by
  unfold textS textU putS
  induction l with
  | nil => rfl
  | cons c l ih => rw [List.flatMap_cons, List.flatMap_cons, List.map_append, ih]
theorem textU_byte (l : List Nat) : ∀ x ∈ textU l, x < 256 := by
  intro x hx
  obtain ⟨c, _, hc⟩ := List.mem_flatMap.1 hx
  exact putU_byte c x hc
theorem ofNat_inj {l : List Nat} {s : List UInt8} (hl : ∀ x ∈ l, x < 256) : l.map UInt8.ofNat = s ↔ l = s.map UInt8.toNat := by
  constructor
  · rintro rfl
    rw [List.map_map]
    have : ∀ x ∈ l, (UInt8.toNat ∘ UInt8.ofNat) x = x := by
      intro x hx
      have := hl x hx
      simp only [Function.comp, UInt8.toNat_ofNat']
      omega
    exact (List.map_id'' (f := UInt8.toNat ∘ UInt8.ofNat) (l := l) · |>.symm) |> fun h => by
      rw [List.map_congr_left this]; simp
  · rintro rfl
    rw [List.map_map]
    have : (UInt8.ofNat ∘ UInt8.toNat) = id := by funext x; simp
    rw [this]; simp
theorem nameB_eq (s : List UInt8) : nameB s = ((codesB s).all okc && decide (textS (codesB s) = s)) := by
  unfold nameB nameU
  have e : (textU (codesU (s.map UInt8.toNat)) = s.map UInt8.toNat) = (textS (codesB s) = s) := by
    rw [textS_U, ofNat_inj (textU_byte _)]
    rfl
  simp only [e]
  rfl
set_option maxHeartbeats 4000000 in
theorem cName (w0 : World) (S : List Blk) (s : List UInt8) (hs : s.length ≤ 10000000) (R : AOut → List Blk → Prop) (h : R (.ret (.bool (nameB s))) S) : ACall Tryz.prog w0 43 [.str s] S R := by
  rw [nameB_eq] at h
  have hco := fun S' => uCodes w0 S' s (by omega)
  have hcl := codesB_lt s
  have hte := fun S' => uText w0 S' (codesB s) (fun c hc => by have := hcl.1 c hc; omega) (by omega)
  have hll : (codesB s).length ≤ 100000000 := by omega
  generalize codesB s = l at h hco hte hll
  have Hte := Lib.hid hte
  clear hcl hte
  refine enter Tryz.func43 rfl (by decide +kernel) (by rw [Tryz.ntmps43]; simp) (by rw [Tryz.ntmps43]; decide) (fun hO => ?_); rw [Tryz.ntmps43]
  repeat' first | apply x_seq | apply x_block | apply x_ops_nil | (apply x_region; simp only [List.toList_toArray]) | (apply x_step0; (· rfl); (· simp only [go_sem, *]; try rfl); (· rfl); simp only [putA]) | (apply x_callA []; (· simp only [go_sem, *]; try rfl); (· rfl); (· simp only [go_sem, *]; try rfl); (· rfl); (iterate 2 (· simp only [go_sem, *]; try rfl)); (first | apply hco); simp only [afterCall, putA]) | fail
  refine x_ind (fun (k : Nat) env S' => k ≤ l.length ∧ (∀ j c, j < k → l[j]? = some c → okc c = true) ∧ env 1000000 = .dfr [] ∧ env 0 = .str s ∧ env 3 = .sval false (l.map Co) ∧ env 8 = .sval false (l.map Co) ∧ env 9 = .int .i64 l.length ∧ env 10 = .int .i64 (k : Int) ∧ S' = S) (fun k => l.length - k) 0 ?_ ?_
  · exact ⟨Nat.zero_le _, fun j c hj => absurd hj (by omega), by (simp only [go_sem, *]; try rfl), by (simp only [go_sem, *]; try rfl), by (simp only [go_sem, *]; try rfl), by (simp only [go_sem, *]; try rfl), by (simp only [go_sem, *]; try rfl), by (simp only [go_sem, *]; try rfl), rfl⟩
  · rintro k env S' ⟨hk, hall, e0, f0, e3, e8, e9, e10, rfl⟩ IH
    have HI := Lib.hid IH
    have Hall := Lib.hid hall
    have H := Lib.hid h
    clear IH hall h hco
    by_cases hlt : k < l.length
    · obtain ⟨c, hx⟩ : ∃ c, l[k]? = some c := ⟨_, List.getElem?_eq_getElem hlt⟩
      have h1 : decide ((k : Int) < (l.length : Int)) = true := by simpa using hlt
      have hw : IntKind.i64.wrap ((k : Int) + 1) = (k : Int) + 1 := IntWalk.i64_in _ (by omega)
      have bad : okc c = false → R (.ret (.bool false)) S' := fun hc => by
        have e : l.all okc = false := by
          rw [List.all_eq_false]
          exact ⟨c, List.mem_of_getElem? hx, by simp [hc]⟩
        have := H.out
        rw [e, Bool.false_and] at this
        exact this
      have good : okc c = true → ∀ j d, j < k + 1 → l[j]? = some d → okc d = true := fun hc j d hj hd => by
        by_cases e : j = k
        · rw [e, hx] at hd; cases hd; exact hc
        · exact Hall.out j d (by omega) hd
      have Bad := Lib.hid bad
      have Good := Lib.hid good
      have Hlt := Lib.hid hlt
      clear bad good hlt hk hll
      by_cases q1 : c < 32
      · have d1 : decide ((c : Int) < 32) = true := by simp; omega
        have hc : okc c = false := by unfold okc; rw [decide_eq_false (by omega)]; rfl
        have hb := Bad.out hc
        clear q1 hc
        repeat' first | apply x_seq | apply x_skip | apply x_block | apply x_ret | apply x_ops_nil | apply p_ret_it | apply p_ret_blk | apply p_end | (apply x_region; simp only [List.toList_toArray]) | (apply x_step0; (· rfl); (· simp only [go_sem, *, Co]; try rfl); (· rfl); simp only [putA]) | (apply x_unwanted; (· simp only [go_sem, *, Co]; try rfl); (· rfl); simp only [putA]) | (apply x_condT; (· simp only [go_sem, *, Co]; try rfl)) | fail
        (apply f_ret; iterate 7 (· simp only [go_sem, *, Tryz.results43]; try rfl))
        exact hb
      have d1 : decide ((c : Int) < 32) = false := by simp; omega
      by_cases q2 : 127 ≤ c
      · have d2 : decide ((127 : Int) ≤ (c : Int)) = true := by simp; omega
        by_cases q3 : c ≤ 159
        · have d3 : decide ((c : Int) ≤ 159) = true := by simp; omega
          have hc : okc c = false := by unfold okc; rw [decide_eq_true q2, decide_eq_true q3]; simp
          have hb := Bad.out hc
          clear q1 q2 q3 hc
          repeat' first | apply x_seq | apply x_skip | apply x_block | apply x_ret | apply x_ops_nil | apply p_ret_it | apply p_ret_blk | apply p_end | (apply x_region; simp only [List.toList_toArray]) | (apply x_step0; (· rfl); (· simp only [go_sem, *, Co]; try rfl); (· rfl); simp only [putA]) | (apply x_step; (iterate 2 (· simp only [go_sem, *, Co]; try rfl)); (· rfl); simp only [putA]) | (apply x_condT; (· simp only [go_sem, *, Co]; try rfl)) | fail
          (apply f_ret; iterate 7 (· simp only [go_sem, *, Tryz.results43]; try rfl))
          exact hb
        · have d3 : decide ((c : Int) ≤ 159) = false := by simp; omega
          have hc : okc c = true := by unfold okc; rw [decide_eq_false q3, decide_eq_true (by omega)]; simp
          clear q1 q2 q3
          repeat' first | apply x_seq | apply x_skip | apply x_block | apply x_ops_nil | apply p_blk | (apply x_region; simp only [List.toList_toArray]) | (apply x_step0; (· rfl); (· simp only [go_sem, *, Co]; try rfl); (· rfl); simp only [putA]) | (apply x_step; (iterate 2 (· simp only [go_sem, *, Co]; try rfl)); (· rfl); simp only [putA]) | (apply x_condT; (· simp only [go_sem, *, Co]; try rfl)) | (apply x_condF; (· simp only [go_sem, *, Co]; try rfl)) | fail
          refine HI.out (k + 1) _ _ (by have := Hlt.out; omega) ⟨Hlt.out, Good.out hc, ?_, ?_, ?_, ?_, ?_, ?_, rfl⟩
          all_goals (simp only [go_sem, *]; try rfl)
      · have d2 : decide ((127 : Int) ≤ (c : Int)) = false := by simp; omega
        have hc : okc c = true := by unfold okc; rw [decide_eq_false q2, decide_eq_true (by omega)]; rfl
        clear q1 q2
        repeat' first | apply x_seq | apply x_skip | apply x_block | apply x_ops_nil | apply p_blk | (apply x_region; simp only [List.toList_toArray]) | (apply x_step0; (· rfl); (· simp only [go_sem, *, Co]; try rfl); (· rfl); simp only [putA]) | (apply x_step; (iterate 2 (· simp only [go_sem, *, Co]; try rfl)); (· rfl); simp only [putA]) | (apply x_unwanted; (· simp only [go_sem, *, Co]; try rfl); (· rfl); simp only [putA]) | (apply x_condT; (· simp only [go_sem, *, Co]; try rfl)) | (apply x_condF; (· simp only [go_sem, *, Co]; try rfl)) | fail
        refine HI.out (k + 1) _ _ (by have := Hlt.out; omega) ⟨Hlt.out, Good.out hc, ?_, ?_, ?_, ?_, ?_, ?_, rfl⟩
        all_goals (simp only [go_sem, *]; try rfl)
    · have h1 : decide ((k : Int) < (l.length : Int)) = false := by simpa using hlt
      have e : l.all okc = true := by
        rw [List.all_eq_true]
        intro c hc
        obtain ⟨j, hj⟩ := List.getElem?_of_mem hc
        exact Hall.out j c (by have := (List.getElem?_eq_some_iff.1 hj).1; omega) hj
      have hh := H.out
      rw [e, Bool.true_and] at hh
      have ht := Hte.out
      clear hlt hk e Hall HI hll
      repeat' first | apply x_seq | apply x_exit | apply x_ret | apply x_ops_nil | apply p_exit_it | apply p_exit_hit | apply p_end | (apply x_region; simp only [List.toList_toArray]) | (apply x_step0; (· rfl); (· simp only [go_sem, *]; try rfl); (· rfl); simp only [putA]) | (apply x_callA []; (· simp only [go_sem, *]; try rfl); (· rfl); (· simp only [go_sem, *]; try rfl); (· rfl); (iterate 2 (· simp only [go_sem, *]; try rfl)); (first | apply ht); simp only [afterCall, putA]) | (apply x_condF; (· simp only [go_sem, *]; try rfl)) | fail
      (apply f_ret; iterate 7 (· simp only [go_sem, *, Tryz.results43]; try rfl))
      rw [show (textS l == s) = decide (textS l = s) by rw [Bool.eq_iff_iff]; simp]
      exact hh
end Go.Proofs.YtcobfilbmfokoaaGreatDoor
namespace Go.Proofs.YtcobfilbmfokoaaGreatDoor
open Go Go.Fen
set_option linter.unusedSimpArgs false
set_option linter.unusedVariables false
attribute [local irreducible] RunX WP ACall AnyP OpA ProtL
set_option maxRecDepth 8000
set_option maxHeartbeats 4000000 in
theorem rName (w0 : World) (S : List Blk) (s : List UInt8) (hs : s.length ≤ 10000000) (R : AOut → List Blk → Prop) (h : R (.ret (.bool (decide (s.length ≤ 40) && nameB s))) S) : ACall Tryz.prog w0 41 [.str s] S R := by
  rw [nameB_eq] at h
  by_cases h40 : s.length ≤ 40
  case neg =>
    rw [decide_eq_false h40, Bool.false_and] at h
    have d0 : decide ((40 : Int) < (s.length : Int)) = true := by simp; omega
    clear h40 hs
    refine enter Tryz.func41 rfl (by decide +kernel) (by rw [Tryz.ntmps41]; simp) (by rw [Tryz.ntmps41]; decide) (fun hO => ?_); rw [Tryz.ntmps41]
    repeat' first | apply x_seq | apply x_ret | apply x_ops_nil | apply p_ret_it | apply p_end | (apply x_region; simp only [List.toList_toArray]) | (apply x_step0; (· rfl); (· simp only [go_sem, *]; try rfl); (· rfl); simp only [putA]) | (apply x_condT; (· simp only [go_sem, *]; try rfl)) | fail
    (apply f_ret; iterate 7 (· simp only [go_sem, *, Tryz.results41]; try rfl))
    exact h
  rw [decide_eq_true h40, Bool.true_and] at h
  have d0 : decide ((40 : Int) < (s.length : Int)) = false := by simp; omega
  have hco := fun S' => rCodes w0 S' s (by omega)
  have hcl := codesB_lt s
  have hte := fun S' => rText w0 S' (codesB s) (fun c hc => by have := hcl.1 c hc; omega) (by omega)
  have hll : (codesB s).length ≤ 100000000 := by omega
  generalize codesB s = l at h hco hte hll
  have Hte := Lib.hid hte
  clear hcl hte h40 hs
  refine enter Tryz.func41 rfl (by decide +kernel) (by rw [Tryz.ntmps41]; simp) (by rw [Tryz.ntmps41]; decide) (fun hO => ?_); rw [Tryz.ntmps41]
  repeat' first | apply x_seq | apply x_skip | apply x_block | apply x_ops_nil | (apply x_region; simp only [List.toList_toArray]) | (apply x_step0; (· rfl); (· simp only [go_sem, *]; try rfl); (· rfl); simp only [putA]) | (apply x_callA []; (· simp only [go_sem, *]; try rfl); (· rfl); (· simp only [go_sem, *]; try rfl); (· rfl); (iterate 2 (· simp only [go_sem, *]; try rfl)); (first | apply hco); simp only [afterCall, putA]) | (apply x_condF; (· simp only [go_sem, *]; try rfl)) | fail
  refine x_ind (fun (k : Nat) env S' => k ≤ l.length ∧ (∀ j c, j < k → l[j]? = some c → okc c = true) ∧ env 1000000 = .dfr [] ∧ env 0 = .str s ∧ env 3 = .sval false (l.map Co) ∧ env 4 = .int .i64 (k : Int) ∧ S' = S) (fun k => l.length - k) 0 ?_ ?_
  · exact ⟨Nat.zero_le _, fun j c hj => absurd hj (by omega), by (simp only [go_sem, *]; try rfl), by (simp only [go_sem, *]; try rfl), by (simp only [go_sem, *]; try rfl), by (simp only [go_sem, *]; try rfl), rfl⟩
  · rintro k env S' ⟨hk, hall, e0, f0, e3, e4, rfl⟩ IH
    have HI := Lib.hid IH
    have Hall := Lib.hid hall
    have H := Lib.hid h
    clear IH hall h hco
    by_cases hlt : k < l.length
    · obtain ⟨c, hx⟩ : ∃ c, l[k]? = some c := ⟨_, List.getElem?_eq_getElem hlt⟩
      have h1 : decide ((k : Int) < (l.length : Int)) = true := by simpa using hlt
      have hw : IntKind.i64.wrap ((k : Int) + 1) = (k : Int) + 1 := IntWalk.i64_in _ (by omega)
      have bad : okc c = false → R (.ret (.bool false)) S' := fun hc => by
        have e : l.all okc = false := by
          rw [List.all_eq_false]
          exact ⟨c, List.mem_of_getElem? hx, by simp [hc]⟩
        have := H.out
        rw [e, Bool.false_and] at this
        exact this
      have good : okc c = true → ∀ j d, j < k + 1 → l[j]? = some d → okc d = true := fun hc j d hj hd => by
        by_cases e : j = k
        · rw [e, hx] at hd; cases hd; exact hc
        · exact Hall.out j d (by omega) hd
      have Bad := Lib.hid bad
      have Good := Lib.hid good
      have Hlt := Lib.hid hlt
      clear bad good hlt hk hll
      by_cases q1 : c < 32
      · have d1 : decide ((c : Int) < 32) = true := by simp; omega
        have hc : okc c = false := by unfold okc; rw [decide_eq_false (by omega)]; rfl
        have hb := Bad.out hc
        clear q1 hc
        repeat' first | apply x_seq | apply x_skip | apply x_block | apply x_ret | apply x_ops_nil | apply p_ret_it | apply p_ret_blk | apply p_end | (apply x_region; simp only [List.toList_toArray]) | (apply x_step0; (· rfl); (· simp only [go_sem, *, Co]; try rfl); (· rfl); simp only [putA]) | (apply x_unwanted; (· simp only [go_sem, *, Co]; try rfl); (· rfl); simp only [putA]) | (apply x_condT; (· simp only [go_sem, *, Co]; try rfl)) | fail
        (apply f_ret; iterate 7 (· simp only [go_sem, *, Tryz.results41]; try rfl))
        exact hb
      have d1 : decide ((c : Int) < 32) = false := by simp; omega
      by_cases q2 : 127 ≤ c
      · have d2 : decide ((127 : Int) ≤ (c : Int)) = true := by simp; omega
        by_cases q3 : c ≤ 159
        · have d3 : decide ((c : Int) ≤ 159) = true := by simp; omega
          have hc : okc c = false := by unfold okc; rw [decide_eq_true q2, decide_eq_true q3]; simp
          have hb := Bad.out hc
          clear q1 q2 q3 hc
          repeat' first | apply x_seq | apply x_skip | apply x_block | apply x_ret | apply x_ops_nil | apply p_ret_it | apply p_ret_blk | apply p_end | (apply x_region; simp only [List.toList_toArray]) | (apply x_step0; (· rfl); (· simp only [go_sem, *, Co]; try rfl); (· rfl); simp only [putA]) | (apply x_step; (iterate 2 (· simp only [go_sem, *, Co]; try rfl)); (· rfl); simp only [putA]) | (apply x_condT; (· simp only [go_sem, *, Co]; try rfl)) | fail
          (apply f_ret; iterate 7 (· simp only [go_sem, *, Tryz.results41]; try rfl))
          exact hb
        · have d3 : decide ((c : Int) ≤ 159) = false := by simp; omega
          have hc : okc c = true := by unfold okc; rw [decide_eq_false q3, decide_eq_true (by omega)]; simp
          clear q1 q2 q3
          repeat' first | apply x_seq | apply x_skip | apply x_block | apply x_ops_nil | apply p_blk | (apply x_region; simp only [List.toList_toArray]) | (apply x_step0; (· rfl); (· simp only [go_sem, *, Co]; try rfl); (· rfl); simp only [putA]) | (apply x_step; (iterate 2 (· simp only [go_sem, *, Co]; try rfl)); (· rfl); simp only [putA]) | (apply x_condT; (· simp only [go_sem, *, Co]; try rfl)) | (apply x_condF; (· simp only [go_sem, *, Co]; try rfl)) | fail
          refine HI.out (k + 1) _ _ (by have := Hlt.out; omega) ⟨Hlt.out, Good.out hc, ?_, ?_, ?_, ?_, rfl⟩
          all_goals (simp only [go_sem, *]; try rfl)
      · have d2 : decide ((127 : Int) ≤ (c : Int)) = false := by simp; omega
        have hc : okc c = true := by unfold okc; rw [decide_eq_false q2, decide_eq_true (by omega)]; rfl
        clear q1 q2
        repeat' first | apply x_seq | apply x_skip | apply x_block | apply x_ops_nil | apply p_blk | (apply x_region; simp only [List.toList_toArray]) | (apply x_step0; (· rfl); (· simp only [go_sem, *, Co]; try rfl); (· rfl); simp only [putA]) | (apply x_step; (iterate 2 (· simp only [go_sem, *, Co]; try rfl)); (· rfl); simp only [putA]) | (apply x_unwanted; (· simp only [go_sem, *, Co]; try rfl); (· rfl); simp only [putA]) | (apply x_condT; (· simp only [go_sem, *, Co]; try rfl)) | (apply x_condF; (· simp only [go_sem, *, Co]; try rfl)) | fail
        refine HI.out (k + 1) _ _ (by have := Hlt.out; omega) ⟨Hlt.out, Good.out hc, ?_, ?_, ?_, ?_, rfl⟩
        all_goals (simp only [go_sem, *]; try rfl)
    · have h1 : decide ((k : Int) < (l.length : Int)) = false := by simpa using hlt
      have e : l.all okc = true := by
        rw [List.all_eq_true]
        intro c hc
        obtain ⟨j, hj⟩ := List.getElem?_of_mem hc
        exact Hall.out j c (by have := (List.getElem?_eq_some_iff.1 hj).1; omega) hj
      have hh := H.out
      rw [e, Bool.true_and] at hh
      have ht := Hte.out
      clear hlt hk e Hall HI hll
      repeat' first | apply x_seq | apply x_exit | apply x_ret | apply x_ops_nil | apply p_exit_it | apply p_exit_hit | apply p_end | (apply x_region; simp only [List.toList_toArray]) | (apply x_step0; (· rfl); (· simp only [go_sem, *]; try rfl); (· rfl); simp only [putA]) | (apply x_callA []; (· simp only [go_sem, *]; try rfl); (· rfl); (· simp only [go_sem, *]; try rfl); (· rfl); (iterate 2 (· simp only [go_sem, *]; try rfl)); (first | apply ht); simp only [afterCall, putA]) | (apply x_condF; (· simp only [go_sem, *]; try rfl)) | fail
      (apply f_ret; iterate 7 (· simp only [go_sem, *, Tryz.results41]; try rfl))
      rw [show (textS l == s) = decide (textS l = s) by rw [Bool.eq_iff_iff]; simp]
      exact hh
end Go.Proofs.YtcobfilbmfokoaaGreatDoor
namespace Go.Proofs.YtcobfilbmfokoaaGreatDoor
open Go Go.Fen
set_option linter.unusedSimpArgs false
set_option linter.unusedVariables false
attribute [local irreducible] RunX WP ACall AnyP OpA ProtL
set_option maxRecDepth 8000
def Cm.av (c : Cm) : AV := .agg [.int .i64 c.kind, .int .i64 c.n, .int .i64 c.m, .str c.text]
def Fm.av (f : Fm) : AV := .agg [.str f.kw, .sval false (f.words.map AV.str), .bool f.number, .bool f.index, .bool f.text, .int .i64 f.lo, .int .i64 f.hi, .int .i64 f.mx, .bool f.name]
def formsAV : List (AV × AV) := formsL.map fun e => (.int .i64 e.1, e.2.av)
set_option maxHeartbeats 4000000 in
theorem forms (w0 : World) (S : List Blk) (R : AOut → List Blk → Prop) (h : R (.ret (.mval formsAV)) S) : ACall Tryz.prog w0 22 [] S R := by
  refine enter Tryz.func22 rfl (by decide +kernel) (by rw [Tryz.ntmps22]; simp) (by rw [Tryz.ntmps22]; decide) (fun hO => ?_); rw [Tryz.ntmps22]
  repeat' first | apply x_seq | apply x_ret | apply x_ops_nil | apply p_end | (apply x_region; simp only [List.toList_toArray]) | (apply x_step0; (· rfl); (· simp only [go_sem, *]; try rfl); (· rfl); simp only [putA]) | fail
  (apply f_ret; iterate 7 (· simp only [go_sem, *, Tryz.results22]; try rfl))
  exact h
end Go.Proofs.YtcobfilbmfokoaaGreatDoor
namespace Go.Proofs.YtcobfilbmfokoaaGreatDoor
open Go Go.Fen
set_option linter.unusedSimpArgs false
set_option linter.unusedVariables false
attribute [local irreducible] RunX WP ACall AnyP OpA ProtL
set_option maxRecDepth 8000
theorem rIn (w0 : World) (S : List Blk) (n a b : Int) (R : AOut → List Blk → Prop) (h : R (.ret (.bool (decide (a ≤ n) && decide (n ≤ b)))) S) : ACall Tryz.prog w0 40 [.int .i64 n, .int .i64 a, .int .i64 b] S R := by
  by_cases c1 : a ≤ n
  · have d1 : decide (a ≤ n) = true := decide_eq_true c1
    rw [d1, Bool.true_and] at h
    clear c1
    refine enter Tryz.func40 rfl (by decide +kernel) (by rw [Tryz.ntmps40]; simp) (by rw [Tryz.ntmps40]; decide) (fun hO => ?_); rw [Tryz.ntmps40]
    repeat' first | apply x_seq | apply x_ret | apply x_ops_nil | apply p_end | (apply x_region; simp only [List.toList_toArray]) | (apply x_step0; (· rfl); (· simp only [go_sem, *]; try rfl); (· rfl); simp only [putA]) | (apply x_step; (iterate 2 (· simp only [go_sem, *]; try rfl)); (· rfl); simp only [putA]) | fail
    (apply f_ret; iterate 7 (· simp only [go_sem, *, Tryz.results40]; try rfl))
    exact h
  · have d1 : decide (a ≤ n) = false := decide_eq_false c1
    rw [d1, Bool.false_and] at h
    clear c1
    refine enter Tryz.func40 rfl (by decide +kernel) (by rw [Tryz.ntmps40]; simp) (by rw [Tryz.ntmps40]; decide) (fun hO => ?_); rw [Tryz.ntmps40]
    repeat' first | apply x_seq | apply x_ret | apply x_ops_nil | apply p_end | (apply x_region; simp only [List.toList_toArray]) | (apply x_step0; (· rfl); (· simp only [go_sem, *]; try rfl); (· rfl); simp only [putA]) | (apply x_unwanted; (· simp only [go_sem, *]; try rfl); (· rfl); simp only [putA]) | fail
    (apply f_ret; iterate 7 (· simp only [go_sem, *, Tryz.results40]; try rfl))
    exact h
set_option maxHeartbeats 8000000 in
theorem rValid (w0 : World) (S : List Blk) (c : Cm) (hs : c.text.length ≤ 10000000) (R : AOut → List Blk → Prop) (h : R (.ret (.bool (checkC c))) S) : ACall Tryz.prog w0 21 [c.av] S R := by
  have hnm := fun S' => rName w0 S' c.text hs
  have hin := rIn w0
  obtain ⟨k, n, m, t⟩ := c
  unfold Cm.av
  simp only at hnm hs ⊢
  have H := Lib.hid h
  clear h hs
  have hk : (k = 1 ∨ k = 2 ∨ k = 3 ∨ k = 4 ∨ k = 5 ∨ k = 6 ∨ k = 7 ∨ k = 8 ∨ k = 9 ∨ k = 10 ∨ k = 11 ∨ k = 12 ∨ k = 13 ∨ k = 14 ∨ k = 15 ∨ k = 16) ∨ (¬ (1 ≤ k ∧ k ≤ 16)) := by omega
  rcases hk with hk | hk
  · rcases hk with rfl | rfl | rfl | rfl | rfl | rfl | rfl | rfl | rfl | rfl | rfl | rfl | rfl | rfl | rfl | rfl
    all_goals
      refine enter Tryz.func21 rfl (by decide +kernel) (by rw [Tryz.ntmps21]; simp) (by rw [Tryz.ntmps21]; decide) (fun hO => ?_); rw [Tryz.ntmps21]
      repeat' first | apply x_seq | apply x_skip | apply x_block | apply x_ret | apply x_ops_nil | apply p_ret_it | apply p_ret_blk | apply p_end | (apply x_region; simp only [List.toList_toArray]) | (apply x_step0; (· rfl); (· simp only [go_sem, *]; try rfl); (· rfl); simp only [putA]) | (apply x_callA []; (· simp only [go_sem, *]; try rfl); (· rfl); (· simp only [go_sem, *]; try rfl); (· rfl); (iterate 2 (· simp only [go_sem, *]; try rfl)); (first | apply hin | apply hnm); simp only [afterCall, putA]) | (apply x_step; (iterate 2 (· simp only [go_sem, *]; try rfl)); (· rfl); simp only [putA]) | (apply x_unwanted; (· simp only [go_sem, *]; try rfl); (· rfl); simp only [putA]) | (apply x_condT; (· simp only [go_sem, *]; try rfl)) | (apply x_condF; (· simp only [go_sem, *]; try rfl)) | (apply x_guardS; (· rfl); (fail_if_success (focus (show _ = some true; (· simp only [go_sem, *]; try rfl)))); (· simp only [go_sem, *]; try rfl); all_goals (intro hb; try simp only [Bool.not_eq_true', Bool.not_eq_false'] at hb)) | fail
      all_goals (apply f_ret; iterate 7 (· simp only [go_sem, *, Tryz.results21]; try rfl))
    all_goals
      refine cast (congrArg (fun b => R (.ret (.bool b)) S) ?_) H.out
      rw [Bool.eq_iff_iff]
      simp [checkC, fmOf, formsL, waysL, List.lookup, validB]
      try simp_all
      try omega
  · have k1 : (k == 1) = false := by rw [beq_eq_false_iff_ne]; omega
    have k2 : (k == 2) = false := by rw [beq_eq_false_iff_ne]; omega
    have k3 : (k == 3) = false := by rw [beq_eq_false_iff_ne]; omega
    have k4 : (k == 4) = false := by rw [beq_eq_false_iff_ne]; omega
    have k5 : (k == 5) = false := by rw [beq_eq_false_iff_ne]; omega
    have k6 : (k == 6) = false := by rw [beq_eq_false_iff_ne]; omega
    have k7 : (k == 7) = false := by rw [beq_eq_false_iff_ne]; omega
    have k8 : (k == 8) = false := by rw [beq_eq_false_iff_ne]; omega
    have k9 : (k == 9) = false := by rw [beq_eq_false_iff_ne]; omega
    have k10 : (k == 10) = false := by rw [beq_eq_false_iff_ne]; omega
    have k11 : (k == 11) = false := by rw [beq_eq_false_iff_ne]; omega
    have k12 : (k == 12) = false := by rw [beq_eq_false_iff_ne]; omega
    have k13 : (k == 13) = false := by rw [beq_eq_false_iff_ne]; omega
    have k14 : (k == 14) = false := by rw [beq_eq_false_iff_ne]; omega
    have k15 : (k == 15) = false := by rw [beq_eq_false_iff_ne]; omega
    have k16 : (k == 16) = false := by rw [beq_eq_false_iff_ne]; omega
    have e : checkC ⟨k, n, m, t⟩ = false := by
      simp only [checkC, fmOf, formsL, List.lookup, k1, k2, k3, k4, k5, k6, k7, k8, k9, k10, k11, k12, k13, k14, k15, k16]
    have h := H.out
    rw [e] at h
    clear hk e H
    refine enter Tryz.func21 rfl (by decide +kernel) (by rw [Tryz.ntmps21]; simp) (by rw [Tryz.ntmps21]; decide) (fun hO => ?_); rw [Tryz.ntmps21]
    repeat' first | apply x_seq | apply x_skip | apply x_block | apply x_ret | apply x_ops_nil | apply p_blk | apply p_end | (apply x_region; simp only [List.toList_toArray]) | (apply x_step0; (· rfl); (· simp only [go_sem, *]; try rfl); (· rfl); simp only [putA]) | (apply x_condF; (· simp only [go_sem, *]; try rfl)) | fail
    (apply f_ret; iterate 7 (· simp only [go_sem, *, Tryz.results21]; try rfl))
    exact h
end Go.Proofs.YtcobfilbmfokoaaGreatDoor
namespace Go.Proofs.YtcobfilbmfokoaaGreatDoor
open Go Go.Fen
set_option linter.unusedSimpArgs false
set_option linter.unusedVariables false
attribute [local irreducible] RunX WP ACall AnyP OpA ProtL
set_option maxRecDepth 8000
theorem dr1 (a : Nat) (h : a < 2) : checkC ⟨1, a, 0, []⟩ = true := by
  simp [checkC, fmOf, formsL, waysL, List.lookup, validB]; omega
theorem dr3 (a : Nat) (h : a < 4) : checkC ⟨3, a, 0, []⟩ = true := by
  simp [checkC, fmOf, formsL, waysL, List.lookup, validB]; omega
theorem dr13 (a : Nat) (h : a < 10) : checkC ⟨13, a, 0, []⟩ = true := by
  simp [checkC, fmOf, formsL, waysL, List.lookup, validB]; omega
theorem dr6 (a b : Nat) (h : a < 4) (hb : b < 99) : checkC ⟨6, a, 1 + (b : Int), []⟩ = true := by
  simp [checkC, fmOf, formsL, waysL, List.lookup, validB]; omega
theorem dr9 (a b : Nat) (h : a < 2) (hb : b < 100) : checkC ⟨9, a, 1 + (b : Int), []⟩ = true := by
  simp [checkC, fmOf, formsL, waysL, List.lookup, validB]; omega
theorem tmN (a b : Nat) : (a : Int).tmod (b : Int) = ((a % b : Nat) : Int) := by rw [Int.tmod_eq_emod_of_nonneg (by omega)]; omega
theorem sixteen : ∀ r : Nat, r < 16 → (((r : Int) = 0 ∧ (r : Int) + 1 = 1) ∨ ((r : Int) = 1 ∧ (r : Int) + 1 = 2) ∨ ((r : Int) = 2 ∧ (r : Int) + 1 = 3) ∨ ((r : Int) = 3 ∧ (r : Int) + 1 = 4) ∨ ((r : Int) = 4 ∧ (r : Int) + 1 = 5) ∨ ((r : Int) = 5 ∧ (r : Int) + 1 = 6) ∨ ((r : Int) = 6 ∧ (r : Int) + 1 = 7) ∨ ((r : Int) = 7 ∧ (r : Int) + 1 = 8) ∨ ((r : Int) = 8 ∧ (r : Int) + 1 = 9) ∨ ((r : Int) = 9 ∧ (r : Int) + 1 = 10) ∨ ((r : Int) = 10 ∧ (r : Int) + 1 = 11) ∨ ((r : Int) = 11 ∧ (r : Int) + 1 = 12) ∨ ((r : Int) = 12 ∧ (r : Int) + 1 = 13) ∨ ((r : Int) = 13 ∧ (r : Int) + 1 = 14) ∨ ((r : Int) = 14 ∧ (r : Int) + 1 = 15) ∨ ((r : Int) = 15 ∧ (r : Int) + 1 = 16)) := by decide
def draftK (j : Int) (a2 a4 a10 b9 b0 : Nat) (q : List UInt8) : Cm :=
  if j = 1 then ⟨1, a2, 0, []⟩ else if j = 3 then ⟨3, a4, 0, []⟩ else if j = 13 then ⟨13, a10, 0, []⟩ else if j = 6 then ⟨6, a4, 1 + (b9 : Int), []⟩ else if j = 9 then ⟨9, a2, 1 + (b0 : Int), []⟩
  else if j = 10 ∨ j = 11 ∨ j = 12 then (if checkC ⟨j, 0, 0, q⟩ then ⟨j, 0, 0, q⟩ else ⟨j, 0, 0, [119]⟩) else ⟨j, 0, 0, []⟩
theorem draftK_text (j : Int) (a2 a4 a10 b9 b0 : Nat) (q : List UInt8) (h : j = 10 ∨ j = 11 ∨ j = 12) : draftK j a2 a4 a10 b9 b0 q = if checkC ⟨j, 0, 0, q⟩ then ⟨j, 0, 0, q⟩ else ⟨j, 0, 0, [119]⟩ := by
  rcases h with rfl | rfl | rfl <;> rfl
theorem draftK_ok (i j : Int) (hij : ((i = 0 ∧ j = 1) ∨ (i = 1 ∧ j = 2) ∨ (i = 2 ∧ j = 3) ∨ (i = 3 ∧ j = 4) ∨ (i = 4 ∧ j = 5) ∨ (i = 5 ∧ j = 6) ∨ (i = 6 ∧ j = 7) ∨ (i = 7 ∧ j = 8) ∨ (i = 8 ∧ j = 9) ∨ (i = 9 ∧ j = 10) ∨ (i = 10 ∧ j = 11) ∨ (i = 11 ∧ j = 12) ∨ (i = 12 ∧ j = 13) ∨ (i = 13 ∧ j = 14) ∨ (i = 14 ∧ j = 15) ∨ (i = 15 ∧ j = 16))) (a2 a4 a10 b9 b0 : Nat) (q : List UInt8) (l2 : a2 < 2) (l4 : a4 < 4) (l10 : a10 < 10) (l9 : b9 < 99) (l0 : b0 < 100) (hql : q.length ≤ 200) :
    checkC (draftK j a2 a4 a10 b9 b0 q) = true ∧ (draftK j a2 a4 a10 b9 b0 q).text.length ≤ 200 := by
  rcases hij with ⟨rfl, rfl⟩ | ⟨rfl, rfl⟩ | ⟨rfl, rfl⟩ | ⟨rfl, rfl⟩ | ⟨rfl, rfl⟩ | ⟨rfl, rfl⟩ | ⟨rfl, rfl⟩ | ⟨rfl, rfl⟩ | ⟨rfl, rfl⟩ | ⟨rfl, rfl⟩ | ⟨rfl, rfl⟩ | ⟨rfl, rfl⟩ | ⟨rfl, rfl⟩ | ⟨rfl, rfl⟩ | ⟨rfl, rfl⟩ | ⟨rfl, rfl⟩
  all_goals first
    | exact ⟨dr1 a2 l2, Nat.zero_le _⟩
    | exact ⟨dr3 a4 l4, Nat.zero_le _⟩
    | exact ⟨dr13 a10 l10, Nat.zero_le _⟩
    | exact ⟨dr6 a4 b9 l4 l9, Nat.zero_le _⟩
    | exact ⟨dr9 a2 b0 l2 l0, Nat.zero_le _⟩
    | (rw [draftK_text _ _ _ _ _ _ _ (by decide)]; split; (next h => exact ⟨h, hql⟩); (exact ⟨by decide +kernel, by decide⟩))
    | (refine ⟨?_, Nat.zero_le _⟩; show checkC ⟨_, 0, 0, []⟩ = true; decide +kernel)
def draftC (k n m : Nat) (t : List UInt8) : Cm := draftK (((k % 16 : Nat) : Int) + 1) (n % 2) (n % 4) (n % 10) (m % 99) (m % 100) (List.take (min t.length 200) t)
theorem draftC_ok (k n m : Nat) (t : List UInt8) : checkC (draftC k n m t) = true ∧ (draftC k n m t).text.length ≤ 200 :=
  draftK_ok _ _ (sixteen _ (Nat.mod_lt _ (by decide))) _ _ _ _ _ _ (by omega) (by omega) (by omega) (by omega) (by omega) (by simp; omega)
def draftV (k n m : Nat) (t : List UInt8) : AV := .agg [.int .u8 k, .int .u8 n, .int .u8 m, .str t]
set_option maxHeartbeats 8000000 in
theorem rDraft (w0 : World) (S : List Blk) (k n m : Nat) (t : List UInt8) (R : AOut → List Blk → Prop) (h : R (.ret (draftC k n m t).av) S) : ACall Tryz.prog w0 8 [draftV k n m t] S R := by
  obtain ⟨i, j, hij, hki, hw0, hw1, hj⟩ : ∃ i j : Int, ((i = 0 ∧ j = 1) ∨ (i = 1 ∧ j = 2) ∨ (i = 2 ∧ j = 3) ∨ (i = 3 ∧ j = 4) ∨ (i = 4 ∧ j = 5) ∨ (i = 5 ∧ j = 6) ∨ (i = 6 ∧ j = 7) ∨ (i = 7 ∧ j = 8) ∨ (i = 8 ∧ j = 9) ∨ (i = 9 ∧ j = 10) ∨ (i = 10 ∧ j = 11) ∨ (i = 11 ∧ j = 12) ∨ (i = 12 ∧ j = 13) ∨ (i = 13 ∧ j = 14) ∨ (i = 14 ∧ j = 15) ∨ (i = 15 ∧ j = 16)) ∧ (k : Int).tmod 16 = i ∧ IntKind.i64.wrap i = i ∧ IntKind.i64.wrap j = j ∧ ((k % 16 : Nat) : Int) + 1 = j :=
    ⟨((k % 16 : Nat) : Int), ((k % 16 : Nat) : Int) + 1, sixteen _ (Nat.mod_lt _ (by decide)), tmN k 16, IntWalk.i64_in _ (by omega), IntWalk.i64_in _ (by omega), rfl⟩
  obtain ⟨a2, ea2, h2, l2⟩ : ∃ a : Nat, n % 2 = a ∧ (n : Int).tmod 2 = (a : Int) ∧ a < 2 := ⟨n % 2, rfl, tmN n 2, by omega⟩
  obtain ⟨a4, ea4, h4, l4⟩ : ∃ a : Nat, n % 4 = a ∧ (n : Int).tmod 4 = (a : Int) ∧ a < 4 := ⟨n % 4, rfl, tmN n 4, by omega⟩
  obtain ⟨a10, ea10, h10, l10⟩ : ∃ a : Nat, n % 10 = a ∧ (n : Int).tmod 10 = (a : Int) ∧ a < 10 := ⟨n % 10, rfl, tmN n 10, by omega⟩
  obtain ⟨b9, eb9, h9, l9⟩ : ∃ a : Nat, m % 99 = a ∧ (m : Int).tmod 99 = (a : Int) ∧ a < 99 := ⟨m % 99, rfl, tmN m 99, by omega⟩
  obtain ⟨b0, eb0, h0, l0⟩ : ∃ a : Nat, m % 100 = a ∧ (m : Int).tmod 100 = (a : Int) ∧ a < 100 := ⟨m % 100, rfl, tmN m 100, by omega⟩
  have u2 : IntKind.i64.wrap (a2 : Int) = a2 := IntWalk.i64_in _ (by omega)
  have u4 : IntKind.i64.wrap (a4 : Int) = a4 := IntWalk.i64_in _ (by omega)
  have u10 : IntKind.i64.wrap (a10 : Int) = a10 := IntWalk.i64_in _ (by omega)
  have v9 : IntKind.i64.wrap (b9 : Int) = b9 := IntWalk.i64_in _ (by omega)
  have v0 : IntKind.i64.wrap (b0 : Int) = b0 := IntWalk.i64_in _ (by omega)
  have x9 : IntKind.i64.wrap (1 + (b9 : Int)) = 1 + (b9 : Int) := IntWalk.i64_in _ (by omega)
  have x0 : IntKind.i64.wrap (1 + (b0 : Int)) = 1 + (b0 : Int) := IntWalk.i64_in _ (by omega)
  have hmn : (if (200 : Int) < (t.length : Int) then 200 else (t.length : Int)) = ((min t.length 200 : Nat) : Int) := by split <;> omega
  have hm2 : ((min t.length 200 : Nat) : Int) ≤ (t.length : Int) := by omega
  obtain ⟨q, hq, hql⟩ : ∃ q, List.take (min t.length 200) t = q ∧ q.length ≤ 200 := ⟨_, rfl, by simp; omega⟩
  have hv := fun S' k => rValid w0 S' ⟨k, 0, 0, q⟩ (by simp only; omega)
  unfold Cm.av at hv
  simp only at hv
  unfold draftV
  unfold draftC at h
  rw [hj, ea2, ea4, ea10, eb9, eb0, hq] at h
  have H := Lib.hid h
  clear h l2 l4 l10 l9 l0 hql ea2 ea4 ea10 eb9 eb0 hj
  rcases hij with ⟨rfl, rfl⟩ | ⟨rfl, rfl⟩ | ⟨rfl, rfl⟩ | ⟨rfl, rfl⟩ | ⟨rfl, rfl⟩ | ⟨rfl, rfl⟩ | ⟨rfl, rfl⟩ | ⟨rfl, rfl⟩ | ⟨rfl, rfl⟩ | ⟨rfl, rfl⟩ | ⟨rfl, rfl⟩ | ⟨rfl, rfl⟩ | ⟨rfl, rfl⟩ | ⟨rfl, rfl⟩ | ⟨rfl, rfl⟩ | ⟨rfl, rfl⟩
  all_goals
    refine enter Tryz.func8 rfl (by decide +kernel) (by rw [Tryz.ntmps8]; simp) (by rw [Tryz.ntmps8]; decide) (fun hO => ?_); rw [Tryz.ntmps8]
    repeat' first | apply x_seq | apply x_skip | apply x_block | apply x_ret | apply x_ops_nil | apply p_blk | apply p_end | (apply x_region; simp only [List.toList_toArray]) | (apply x_step0; (· rfl); (· simp only [go_sem, *]; try rfl); (· rfl); simp only [putA]) | (apply x_callA []; (· simp only [go_sem, *]; try rfl); (· rfl); (· simp only [go_sem, *]; try rfl); (· rfl); (iterate 2 (· simp only [go_sem, *]; try rfl)); (first | apply hv); simp only [afterCall, putA]) | (apply x_condT; (· simp only [go_sem, *]; try rfl)) | (apply x_condF; (· simp only [go_sem, *]; try rfl)) | (apply x_condS; (· simp only [go_sem, *]; try rfl); all_goals (intro hb; try simp only [Bool.not_eq_true', Bool.not_eq_false'] at hb)) | (apply d_draw; (· exact mixed); (· simp only [List.size_toArray, List.length_cons, List.length_nil, Nat.reduceAdd]; try rfl)) | (apply d_done; (· decide +kernel)) | (apply a_0; (repeat (apply a_s; (· decide +kernel))); apply a_take; (· decide +kernel); (· first | exact qds_FPost | exact qds_RPost | exact qds_YB | assumption); (· rfl); (iterate 3 (· simp only [go_sem, *]; try rfl)); (· rfl); (· simp only [go_sem, *]; try rfl); simp only [putA]) | (apply a_0; (repeat (apply a_o; (· decide +kernel))); apply a_one; (· decide +kernel)) | (apply o_step; (iterate 3 (· simp only [go_sem, *]; try rfl)); (· rfl); simp only [putA]) | apply pr_go | apply pl_nil | apply pl_none | (apply pl_one; (· simp only [go_sem, *]; try rfl)) | fail
    all_goals (apply f_ret; iterate 7 (· simp only [go_sem, *, Tryz.results8]; try rfl))
  all_goals first
    | exact H.out
    | (have h := H.out; rw [draftK_text _ _ _ _ _ _ _ (by decide), if_pos (by assumption)] at h; exact h)
    | (have h := H.out; rw [draftK_text _ _ _ _ _ _ _ (by decide), if_neg (by intro hh; simp_all)] at h; exact h)
end Go.Proofs.YtcobfilbmfokoaaGreatDoor
namespace Go.Proofs.YtcobfilbmfokoaaGreatDoor
open Go Go.Fen
set_option linter.unusedSimpArgs false
set_option linter.unusedVariables false
attribute [local irreducible] RunX WP ACall AnyP OpA ProtL
set_option maxRecDepth 8000
set_option maxHeartbeats 8000000 in
theorem cValid (w0 : World) (S : List Blk) (f : Fm) (c : Cm) (hs : c.text.length ≤ 10000000) (R : AOut → List Blk → Prop) (h : R (.ret (.bool (validB f c))) S) : ACall Tryz.prog w0 30 [f.av, c.av] S R := by
  have hnm := fun S' => cName w0 S' c.text hs
  obtain ⟨kw, words, number, index, text, lo, hi, mx, name⟩ := f
  obtain ⟨k, n, m, t⟩ := c
  unfold Fm.av Cm.av
  simp only at hnm ⊢
  have hwl : decide ((0 : Int) < (words.length : Int)) = !decide (words = []) := by
    cases words with
    | nil => rfl
    | cons a l => simp
  clear hs
  have H := Lib.hid h
  clear h
  have hc : index = true ∨ (index = false ∧ number = true) ∨ (index = false ∧ number = false ∧ text = true ∧ name = true) ∨ (index = false ∧ number = false ∧ text = true ∧ name = false) ∨ (index = false ∧ number = false ∧ text = false) := by
    cases index <;> cases number <;> cases text <;> cases name <;> simp
  by_cases hw : words = []
  all_goals
    first
    | rw [decide_eq_true hw, Bool.not_true] at hwl
    | rw [decide_eq_false hw, Bool.not_false] at hwl
    rcases hc with rfl | ⟨rfl, rfl⟩ | ⟨rfl, rfl, rfl, rfl⟩ | ⟨rfl, rfl, rfl, rfl⟩ | ⟨rfl, rfl, rfl⟩
    all_goals
      refine enter Tryz.func30 rfl (by decide +kernel) (by rw [Tryz.ntmps30]; simp) (by rw [Tryz.ntmps30]; decide) (fun hO => ?_); rw [Tryz.ntmps30]
      repeat' first | apply x_seq | apply x_skip | apply x_block | apply x_ret | apply x_ops_nil | apply p_blk | apply p_end | (apply x_region; simp only [List.toList_toArray]) | (apply x_step0; (· rfl); (· simp only [go_sem, *]; try rfl); (· rfl); simp only [putA]) | (apply x_callA []; (· simp only [go_sem, *]; try rfl); (· rfl); (· simp only [go_sem, *]; try rfl); (· rfl); (iterate 2 (· simp only [go_sem, *]; try rfl)); (first | apply hnm); simp only [afterCall, putA]) | (apply x_step; (iterate 2 (· simp only [go_sem, *]; try rfl)); (· rfl); simp only [putA]) | (apply x_unwanted; (· simp only [go_sem, *]; try rfl); (· rfl); simp only [putA]) | (apply x_condT; (· simp only [go_sem, *]; try rfl)) | (apply x_condF; (· simp only [go_sem, *]; try rfl)) | (apply x_guardS; (· rfl); (fail_if_success (focus (show _ = some true; (· simp only [go_sem, *]; try rfl)))); (· simp only [go_sem, *]; try rfl); all_goals (intro hb; try simp only [Bool.not_eq_true', Bool.not_eq_false'] at hb)) | fail
      all_goals (apply f_ret; iterate 7 (· simp only [go_sem, *, Tryz.results30]; try rfl))
      all_goals
        refine cast (congrArg (fun b => R (.ret (.bool b)) S) ?_) H.out
        rw [Bool.eq_iff_iff]
        simp [validB, *]
end Go.Proofs.YtcobfilbmfokoaaGreatDoor
namespace Go.Proofs.YtcobfilbmfokoaaGreatDoor
open Go Go.Fen
set_option linter.unusedSimpArgs false
set_option linter.unusedVariables false
attribute [local irreducible] RunX WP ACall AnyP OpA ProtL
set_option maxRecDepth 8000
@[go_sem] theorem Str.plainL (l : List (List UInt8)) : plainL (l.map AV.str) = true := plainL_map (fun _ => rfl) l
@[go_sem] theorem Str.ltL (l : List (List UInt8)) (n : Nat) : ltL n (l.map AV.str) = true := ltL_iff.2 fun x hx => by obtain ⟨y, _, rfl⟩ := List.mem_map.1 hx; rfl
@[go_sem] theorem Str.ok (l : List (List UInt8)) : okEls 1 (l.map AV.str) = true := by
  unfold okEls; rw [List.all_eq_true]; intro x hx; obtain ⟨y, _, rfl⟩ := List.mem_map.1 hx; rfl
theorem find_form (k : Int) : formsAV.find? (fun e => keq (.int .i64 k) e.1) = (fmOf k).map fun f => (AV.int .i64 k, f.av) := by
  unfold formsAV fmOf
  generalize formsL = l
  induction l with
  | nil => rfl
  | cons e l ih =>
    obtain ⟨a, f⟩ := e
    simp only [List.map_cons]
    rw [List.find?_cons, List.lookup_cons]
    by_cases hk : k = a
    · subst hk
      simp [keq]
    · have h1 : keq (.int .i64 k) (.int .i64 a) = false := by simp [keq, hk]
      have h2 : (k == a) = false := by simp [hk]
      simp only [h1, h2]
      exact ih
theorem keys_form : (formsAV.all fun e => keyA Tryz.prog 3 e.1) = true := by
  unfold formsAV
  rw [List.all_map, List.all_eq_true]
  intro e _
  simp [keyA, un_3]
set_option maxHeartbeats 8000000 in
theorem cCheck (w0 : World) (S : List Blk) (c : Cm) (hs : c.text.length ≤ 10000000) (R : AOut → List Blk → Prop) (h : R (.ret (.int .i64 (if checkC c then 0 else 500))) S) : ACall Tryz.prog w0 11 [c.av] S R := by
  have hfo := forms w0
  have hfi := find_form c.kind
  have hke := keys_form
  simp only [keq] at hfi
  simp only [keyA, un_3] at hke
  unfold checkC at h
  cases hf : fmOf c.kind with
  | none =>
    rw [hf] at hfi h
    simp only [Bool.false_eq_true, if_false, Option.map_none] at hfi h
    unfold Cm.av
    clear hf hs
    replace hfo := Lib.hid hfo
    refine enter Tryz.func11 rfl (by decide +kernel) (by rw [Tryz.ntmps11]; simp) (by rw [Tryz.ntmps11]; decide) (fun hO => ?_); rw [Tryz.ntmps11]
    repeat' first | apply x_seq | apply x_ret | apply x_ops_nil | apply p_ret_it | apply p_end | (apply x_region; simp only [List.toList_toArray]) | (apply x_step0; (· rfl); (· simp only [go_sem, *]; try rfl); (· rfl); simp only [putA]) | (apply x_unwanted; (· simp only [go_sem, *]; try rfl); (· rfl); simp only [putA]) | (apply x_condT; (· simp only [go_sem, *]; try rfl)) | (apply d_draw; (· exact mixed); (· simp only [List.size_toArray, List.length_cons, List.length_nil, Nat.reduceAdd]; try rfl)) | (apply d_done; (· decide +kernel)) | (apply a_0; (repeat (apply a_s; (· decide +kernel))); apply a_take; (· decide +kernel); (· first | exact qds_FPost | exact qds_RPost | exact qds_YB | assumption); (· rfl); (iterate 3 (· simp only [go_sem, *]; try rfl)); (· rfl); (· simp only [go_sem, *]; try rfl); simp only [putA]) | (apply a_0; (repeat (apply a_o; (· decide +kernel))); apply a_one; (· decide +kernel)) | (apply d_two 0 7; (· decide +kernel)) | (apply o_step; (iterate 3 (· simp only [go_sem, *]; try rfl)); (· rfl); simp only [putA]) | apply pr_same | apply pr_go | apply pl_nil | apply pl_none | (apply pl_one; (· simp only [go_sem, *]; try rfl)) | (apply o_call []; (iterate 2 (· simp only [go_sem, *]; try rfl)); (· rfl); (· simp only [go_sem, *]; try rfl); (· rfl); (iterate 2 (· simp only [go_sem, *]; try rfl)); (first | apply hfo.out); simp only [afterOp, putA]) | fail
    all_goals (apply f_ret; iterate 7 (· simp only [go_sem, *, Tryz.results11]; try rfl))
    all_goals exact h
  | some f =>
    have hva := fun S' => cValid w0 S' f c hs
    rw [hf] at hfi h
    simp only [Option.map_some] at hfi h
    unfold Fm.av at hfi hva
    unfold Cm.av at hva ⊢
    clear hf hs
    replace hfo := Lib.hid hfo
    cases hb : validB f c with
    | true =>
      rw [hb] at hva
      simp only [hb, if_true] at h
      replace hva := Lib.hid hva
      clear hb
      refine enter Tryz.func11 rfl (by decide +kernel) (by rw [Tryz.ntmps11]; simp) (by rw [Tryz.ntmps11]; decide) (fun hO => ?_); rw [Tryz.ntmps11]
      repeat' first | apply x_seq | apply x_skip | apply x_ret | apply x_ops_nil | apply p_end | (apply x_region; simp only [List.toList_toArray]) | (apply x_step0; (· rfl); (· simp only [go_sem, *]; try rfl); (· rfl); simp only [putA]) | (apply x_callA []; (· simp only [go_sem, *]; try rfl); (· rfl); (· simp only [go_sem, *]; try rfl); (· rfl); (iterate 2 (· simp only [go_sem, *]; try rfl)); (first | apply hfo.out | apply hva.out); simp only [afterCall, putA]) | (apply x_step; (iterate 2 (· simp only [go_sem, *]; try rfl)); (· rfl); simp only [putA]) | (apply x_condF; (· simp only [go_sem, *]; try rfl)) | (apply d_draw; (· exact mixed); (· simp only [List.size_toArray, List.length_cons, List.length_nil, Nat.reduceAdd]; try rfl)) | (apply d_done; (· decide +kernel)) | (apply a_0; (repeat (apply a_s; (· decide +kernel))); apply a_take; (· decide +kernel); (· first | exact qds_FPost | exact qds_RPost | exact qds_YB | assumption); (· rfl); (iterate 3 (· simp only [go_sem, *]; try rfl)); (· rfl); (· simp only [go_sem, *]; try rfl); simp only [putA]) | (apply a_0; (repeat (apply a_o; (· decide +kernel))); apply a_one; (· decide +kernel)) | (apply d_two 0 7; (· decide +kernel)) | (apply o_step; (iterate 3 (· simp only [go_sem, *]; try rfl)); (· rfl); simp only [putA]) | apply pr_same | apply pr_go | apply pl_nil | apply pl_none | (apply pl_one; (· simp only [go_sem, *]; try rfl)) | (apply o_call []; (iterate 2 (· simp only [go_sem, *]; try rfl)); (· rfl); (· simp only [go_sem, *]; try rfl); (· rfl); (iterate 2 (· simp only [go_sem, *]; try rfl)); (first | apply hfo.out | apply hva.out); simp only [afterOp, putA]) | fail
      all_goals (apply f_ret; iterate 7 (· simp only [go_sem, *, Tryz.results11]; try rfl))
      all_goals exact h
    | false =>
      rw [hb] at hva
      simp only [hb, Bool.false_eq_true, if_false] at h
      replace hva := Lib.hid hva
      clear hb
      refine enter Tryz.func11 rfl (by decide +kernel) (by rw [Tryz.ntmps11]; simp) (by rw [Tryz.ntmps11]; decide) (fun hO => ?_); rw [Tryz.ntmps11]
      repeat' first | apply x_seq | apply x_ret | apply x_ops_nil | apply p_ret_it | apply p_end | (apply x_region; simp only [List.toList_toArray]) | (apply x_step0; (· rfl); (· simp only [go_sem, *]; try rfl); (· rfl); simp only [putA]) | (apply x_callA []; (· simp only [go_sem, *]; try rfl); (· rfl); (· simp only [go_sem, *]; try rfl); (· rfl); (iterate 2 (· simp only [go_sem, *]; try rfl)); (first | apply hfo.out | apply hva.out); simp only [afterCall, putA]) | (apply x_step; (iterate 2 (· simp only [go_sem, *]; try rfl)); (· rfl); simp only [putA]) | (apply x_condT; (· simp only [go_sem, *]; try rfl)) | (apply d_draw; (· exact mixed); (· simp only [List.size_toArray, List.length_cons, List.length_nil, Nat.reduceAdd]; try rfl)) | (apply d_done; (· decide +kernel)) | (apply a_0; (repeat (apply a_s; (· decide +kernel))); apply a_take; (· decide +kernel); (· first | exact qds_FPost | exact qds_RPost | exact qds_YB | assumption); (· rfl); (iterate 3 (· simp only [go_sem, *]; try rfl)); (· rfl); (· simp only [go_sem, *]; try rfl); simp only [putA]) | (apply a_0; (repeat (apply a_o; (· decide +kernel))); apply a_one; (· decide +kernel)) | (apply d_two 0 7; (· decide +kernel)) | (apply o_step; (iterate 3 (· simp only [go_sem, *]; try rfl)); (· rfl); simp only [putA]) | apply pr_same | apply pr_go | apply pl_nil | apply pl_none | (apply pl_one; (· simp only [go_sem, *]; try rfl)) | (apply o_call []; (iterate 2 (· simp only [go_sem, *]; try rfl)); (· rfl); (· simp only [go_sem, *]; try rfl); (· rfl); (iterate 2 (· simp only [go_sem, *]; try rfl)); (first | apply hfo.out | apply hva.out); simp only [afterOp, putA]) | fail
      all_goals (apply f_ret; iterate 7 (· simp only [go_sem, *, Tryz.results11]; try rfl))
      all_goals exact h
end Go.Proofs.YtcobfilbmfokoaaGreatDoor
namespace Go.Proofs.YtcobfilbmfokoaaGreatDoor
open Go Go.Fen
set_option linter.unusedSimpArgs false
set_option linter.unusedVariables false
attribute [local irreducible] RunX WP ACall AnyP OpA ProtL
set_option maxRecDepth 8000
def PU16 (w0 : World) : Prop := ∀ (S : List Blk) (b1 b2 : UInt8) (R : AOut → List Blk → Prop), (∀ v, hexV b1 b2 = some v → R (.ret (.tup [.int .u64 v, .inil])) S) → (hexV b1 b2 = none → ∀ t x, R (.ret (.tup [.int .u64 0, .ifc t x])) S) →
  ACall Tryz.prog w0 113 [.str [b1, b2], .int .i64 16, .int .i64 8] S R
theorem or32 (c : UInt8) : IntKind.u8.wrap (↑(BitVec.ofInt IntKind.u8.bits (c.toNat : Int) ||| BitVec.ofInt IntKind.u8.bits 32).toNat) = (((c ||| 32).toNat : Nat) : Int) := by
  have : ∀ n : Nat, n < 256 → IntKind.u8.wrap (↑(BitVec.ofInt IntKind.u8.bits (n : Int) ||| BitVec.ofInt IntKind.u8.bits 32).toNat) = (((UInt8.ofNat n ||| 32).toNat : Nat) : Int) := by decide +kernel
  have h := this c.toNat c.toNat_lt
  rwa [UInt8.ofNat_toNat] at h
set_option maxHeartbeats 400000 in
theorem lower (w0 : World) (S : List Blk) (c : UInt8) (R : AOut → List Blk → Prop) (h : R (.ret (.int .u8 ((c ||| 32).toNat : Nat))) S) : ACall Tryz.prog w0 137 [.int .u8 c.toNat] S R := by
  have g := or32 c
  simp only [IntKind.bits] at g
  refine enter Tryz.func137 rfl (by decide +kernel) (by rw [Tryz.ntmps137]; simp) (by rw [Tryz.ntmps137]; decide) (fun hO => ?_); rw [Tryz.ntmps137]
  repeat' first | apply x_seq | apply x_ret | apply x_ops_nil | apply p_end | (apply x_region; simp only [List.toList_toArray]) | (apply x_step0; (· rfl); (· simp only [go_sem, *]; try rfl); (· rfl); simp only [putA]) | fail
  (apply f_ret; iterate 7 (· simp only [go_sem, *, Tryz.results137]; try rfl))
  exact h
def lowN (b : UInt8) : Nat := (b ||| 32).toNat
def dv (b : UInt8) : Option Nat := if 48 ≤ b.toNat ∧ b.toNat ≤ 57 then some (b.toNat - 48) else if 97 ≤ lowN b ∧ lowN b ≤ 122 then some (lowN b - 87) else none
theorem dv_hex (b : UInt8) : hexD1 b = (dv b).bind fun d => if d < 16 then some d else none := by
  have : ∀ n : Nat, n < 256 → hexD1 (UInt8.ofNat n) = (dv (UInt8.ofNat n)).bind fun d => if d < 16 then some d else none := by decide +kernel
  have h := this b.toNat b.toNat_lt
  rwa [UInt8.ofNat_toNat] at h
theorem lower2 (w0 : World) (S : List Blk) (c : UInt8) (R : AOut → List Blk → Prop) (h : R (.ret (.int .u8 (lowN c : Nat))) S) : ACall Tryz.prog w0 137 [.int .u8 c.toNat] S R := lower w0 S c R h
def synV : AV := .ifc 180 (.int .i64 2)
def puS (b1 b2 : UInt8) (i acc : Nat) : Prop := (i = 0 ∧ acc = 0) ∨ (i = 1 ∧ hexD1 b1 = some acc) ∨ (i = 2 ∧ hexV b1 b2 = some acc)
theorem pu_step {b1 b2 : UInt8} {i acc : Nat} (hp : (i = 0 ∧ acc = 0) ∨ (i = 1 ∧ hexD1 b1 = some acc)) : ∃ b : UInt8, [AV.int .u8 b1.toNat, AV.int .u8 b2.toNat][i]? = some (.int .u8 b.toNat) ∧ i < 2 ∧ acc < 16 ∧ (hexD1 b = none → hexV b1 b2 = none) ∧ (∀ d, hexD1 b = some d → puS b1 b2 (i + 1) (acc * 16 + d)) := by
  rcases hp with ⟨rfl, rfl⟩ | ⟨rfl, ha⟩
  · exact ⟨b1, rfl, by omega, by omega, fun h => by simp [hexV, h], fun d h => .inr (.inl ⟨rfl, by simpa using h⟩)⟩
  · refine ⟨b2, rfl, by omega, hexD1_lt ha, fun h => by simp [hexV, ha, h], fun d h => .inr (.inr ⟨rfl, ?_⟩)⟩
    simp [hexV, ha, h]; try omega
set_option maxHeartbeats 4000000 in
theorem puIn (w0 : World) (S : List Blk) (b1 b2 : UInt8) (R : AOut → List Blk → Prop) (h : R (.ret (match hexV b1 b2 with | some v => .tup [.int .u64 v, .inil] | none => .tup [.int .u64 0, synV])) S) :
    ACall Tryz.prog w0 129 [.str [b1, b2], .int .i64 16, .int .i64 8] S R := by
  refine enter Tryz.func129 rfl (by decide +kernel) (by rw [Tryz.ntmps129]; simp) (by rw [Tryz.ntmps129]; decide) (fun hO => ?_); rw [Tryz.ntmps129]
  repeat' first | apply x_seq | apply x_skip | apply x_block | apply x_ops_nil | apply p_blk | (apply x_region; simp only [List.toList_toArray]) | (apply x_step0; (· rfl); (· simp only [go_sem, *]; try rfl); (· rfl); simp only [putA]) | (apply x_step; (iterate 2 (· simp only [go_sem, *]; try rfl)); (· rfl); simp only [putA]) | (apply x_condT; (· simp only [go_sem, *]; try rfl)) | (apply x_condF; (· simp only [go_sem, *]; try rfl)) | fail
  apply x_bytes
  · (simp only [go_sem, *]; try rfl)
  · rfl
  · (simp only [go_sem, *]; try rfl)
  · (simp only [go_sem, *]; try rfl)
  · (simp only [go_sem, *]; try rfl)
  · (simp only [go_sem, *]; try rfl)
  · rfl
  simp only [putA, List.map_cons, List.map_nil, byteAV]
  repeat' first | apply x_block | apply x_ops_nil | (apply x_step0; (· rfl); (· simp only [go_sem, *]; try rfl); (· rfl); simp only [putA]) | fail
  have hffw : IntKind.u64.wrap (IntKind.u64.wrap (1 * 2 ^ min (IntKind.u64.wrap 8).toNat 64) - 1) = 255 := by decide +kernel
  refine x_ind (fun (p : Nat × Nat) env S' => puS b1 b2 p.1 p.2 ∧ env 1000000 = .dfr [] ∧ env 1 = .int .i64 16 ∧ env 8 = .bool false ∧ env 9 = .str [b1, b2] ∧ env 10 = .int .u64 1152921504606846976 ∧ env 11 = .int .u64 255 ∧ env 12 = .bool false ∧ env 13 = .int .u64 p.2 ∧
    env 99 = .sval false [.int .u8 b1.toNat, .int .u8 b2.toNat] ∧ env 100 = .int .i64 2 ∧ env 101 = .int .i64 p.1 ∧ S' = S) (fun p => 2 - p.1) (0, 0) ?_ ?_
  · exact ⟨.inl ⟨rfl, rfl⟩, by (simp only [go_sem, *]; try rfl), by (simp only [go_sem, *]; try rfl), by (simp only [go_sem, *]; try rfl), by (simp only [go_sem, *]; try rfl), by (simp only [go_sem, *]; try rfl), by (simp only [go_sem, *]; try rfl), by (simp only [go_sem, *]; try rfl), by (simp only [go_sem, *]; try rfl), by (simp only [go_sem, *]; try rfl), by (simp only [go_sem, *]; try rfl), by (simp only [go_sem, *]; try rfl), rfl⟩
  · rintro ⟨i, acc⟩ env S' ⟨hp, e0, f1, f8, f9, f10, f11, f12, f13, f99, f100, f101, rfl⟩ IH
    have HI := Lib.hid IH
    have hw16 : IntKind.u8.wrap 16 = 16 := by decide
    have hw16' : IntKind.u64.wrap 16 = 16 := by decide
    have hlw := lower2 w0
    clear IH hffw
    simp only at f13 f101
    rcases or_assoc.2 hp with hp | ⟨rfl, ha⟩
    · have hps := pu_step (b2 := b2) hp
      clear hp
      obtain ⟨b, hb, hlt, hacc, hnone, hsome⟩ := hps
      have h1 : decide ((i : Int) < 2) = true := by simp; omega
      have hwi : IntKind.i64.wrap ((i : Int) + 1) = ((i + 1 : Nat) : Int) := by rw [IntWalk.i64_in _ (by omega)]; rfl
      have Hlt := Lib.hid hlt
      have d5 : decide ((1152921504606846976 : Int) ≤ (acc : Int)) = false := by simp; omega
      have w5 : IntKind.u64.wrap ((acc : Int) * 16) = ((acc * 16 : Nat) : Int) := by rw [IntWalk.u64_in _ (by omega)]; omega
      have key : ∀ d : Nat, d < 16 → IntKind.u64.wrap (d : Int) = (d : Int) ∧ IntKind.u64.wrap (((acc * 16 : Nat) : Int) + (d : Int)) = ((acc * 16 + d : Nat) : Int) ∧ decide (((acc * 16 + d : Nat) : Int) < ((acc * 16 : Nat) : Int)) = false ∧ decide ((255 : Int) < ((acc * 16 + d : Nat) : Int)) = false := by
        intro d hd
        refine ⟨IntWalk.u64_in _ (by omega), by rw [IntWalk.u64_in _ (by omega)]; omega, by simp; omega, by simp; omega⟩
      clear hlt hacc
      have Hnone := Lib.hid hnone
      have Hsome := Lib.hid hsome
      clear hnone hsome
      have Key := Lib.hid key
      clear key
      have hdv := dv_hex b
      by_cases c1 : 48 ≤ b.toNat ∧ b.toNat ≤ 57
      · have d1 : decide ((48 : Int) ≤ (b.toNat : Int)) = true := by simp; omega
        have d2 : decide ((b.toNat : Int) ≤ 57) = true := by simp; omega
        have d3 : ((b.toNat : Int) == 95) = false := by simp; omega
        have w1 : IntKind.u8.wrap ((b.toNat : Int) - 48) = ((b.toNat - 48 : Nat) : Int) := by rw [IntWalk.u8_in _ (by omega)]; omega
        have hd : hexD1 b = some (b.toNat - 48) := by rw [hdv]; simp [dv, c1]; omega
        have hd16 : b.toNat - 48 < 16 := by omega
        have d4 : decide ((16 : Int) ≤ ((b.toNat - 48 : Nat) : Int)) = false := by simp; omega
        clear hdv c1
        generalize hdd : b.toNat - 48 = d at *
        obtain ⟨k1, k2, k3, k4⟩ := Key.out d hd16
        have Hd := Lib.hid hd
        clear hdd hd hd16
        repeat' first | apply x_seq | apply x_skip | apply x_block | apply x_ops_nil | apply p_blk | (apply x_region; simp only [List.toList_toArray]) | (apply x_step0; (· rfl); (· simp only [go_sem, *]; try rfl); (· rfl); simp only [putA]) | (apply x_step; (iterate 2 (· simp only [go_sem, *]; try rfl)); (· rfl); simp only [putA]) | (apply x_unwanted; (· simp only [go_sem, *]; try rfl); (· rfl); simp only [putA]) | (apply x_condT; (· simp only [go_sem, *]; try rfl)) | (apply x_condF; (· simp only [go_sem, *]; try rfl)) | fail
        refine HI.out (i + 1, acc * 16 + d) _ _ (by have := Hlt.out; simp only; omega) ⟨Hsome.out d Hd.out, ?_, ?_, ?_, ?_, ?_, ?_, ?_, ?_, ?_, ?_, ?_, rfl⟩
        all_goals (simp only [go_sem, *]; try rfl)
      · have hnd : (decide ((48 : Int) ≤ (b.toNat : Int)) && decide ((b.toNat : Int) ≤ 57)) = false := by
          rw [Bool.and_eq_false_iff]; simp; omega
        by_cases c2 : 97 ≤ lowN b ∧ lowN b ≤ 122
        · have e1 : decide ((97 : Int) ≤ (lowN b : Int)) = true := by simp; omega
          have e2 : decide ((lowN b : Int) ≤ 122) = true := by simp; omega
          have w1 : IntKind.u8.wrap ((lowN b : Int) - 97) = ((lowN b - 97 : Nat) : Int) := by rw [IntWalk.u8_in _ (by omega)]; omega
          have w2 : IntKind.u8.wrap (((lowN b - 97 : Nat) : Int) + 10) = ((lowN b - 87 : Nat) : Int) := by rw [IntWalk.u8_in _ (by omega)]; omega
          have hd : hexD1 b = if lowN b - 87 < 16 then some (lowN b - 87) else none := by rw [hdv]; simp only [dv, c1, c2, and_self, if_false, if_true, Option.bind_some]
          clear hdv c1 c2
          generalize lowN b - 87 = d at *
          generalize lowN b - 97 = e at *
          by_cases hd16 : d < 16
          · rw [if_pos hd16] at hd
            have d4 : decide ((16 : Int) ≤ (d : Int)) = false := by simp; omega
            obtain ⟨k1, k2, k3, k4⟩ := Key.out d hd16
            have Hd := Lib.hid hd
            clear hd hd16
            cases q1 : decide ((48 : Int) ≤ (b.toNat : Int)) <;> cases q2 : decide ((b.toNat : Int) ≤ 57) <;> cases q3 : ((b.toNat : Int) == 95) <;> simp only [q1, q2] at hnd <;> try (exfalso; cases hnd; done)
            all_goals clear hnd
            all_goals
              repeat' first | apply x_seq | apply x_skip | apply x_block | apply x_ops_nil | apply p_blk | (apply x_region; simp only [List.toList_toArray]) | (apply x_step0; (· rfl); (· simp only [go_sem, *]; try rfl); (· rfl); simp only [putA]) | (apply x_callA []; (· simp only [go_sem, *]; try rfl); (· rfl); (· simp only [go_sem, *]; try rfl); (· rfl); (iterate 2 (· simp only [go_sem, *]; try rfl)); (first | apply hlw); simp only [afterCall, putA]) | (apply x_step; (iterate 2 (· simp only [go_sem, *]; try rfl)); (· rfl); simp only [putA]) | (apply x_unwanted; (· simp only [go_sem, *]; try rfl); (· rfl); simp only [putA]) | (apply x_condT; (· simp only [go_sem, *]; try rfl)) | (apply x_condF; (· simp only [go_sem, *]; try rfl)) | fail
              refine HI.out (i + 1, acc * 16 + d) _ _ (by have := Hlt.out; simp only; omega) ⟨Hsome.out d Hd.out, ?_, ?_, ?_, ?_, ?_, ?_, ?_, ?_, ?_, ?_, ?_, rfl⟩
              all_goals (simp only [go_sem, *]; try rfl)
          · rw [if_neg hd16] at hd
            have d4 : decide ((16 : Int) ≤ (d : Int)) = true := by simp; omega
            rw [Hnone.out hd] at h
            clear hd hd16
            cases q1 : decide ((48 : Int) ≤ (b.toNat : Int)) <;> cases q2 : decide ((b.toNat : Int) ≤ 57) <;> cases q3 : ((b.toNat : Int) == 95) <;> simp only [q1, q2] at hnd <;> try (exfalso; cases hnd; done)
            all_goals clear hnd
            all_goals
              repeat' first | apply x_seq | apply x_skip | apply x_block | apply x_ret | apply x_ops_nil | apply p_blk | apply p_ret_it | apply p_ret_blk | apply p_end | (apply x_region; simp only [List.toList_toArray]) | (apply x_step0; (· rfl); (· simp only [go_sem, *]; try rfl); (· rfl); simp only [putA]) | (apply x_callA []; (· simp only [go_sem, *]; try rfl); (· rfl); (· simp only [go_sem, *]; try rfl); (· rfl); (iterate 2 (· simp only [go_sem, *]; try rfl)); (first | apply hlw); simp only [afterCall, putA]) | (apply x_step; (iterate 2 (· simp only [go_sem, *]; try rfl)); (· rfl); simp only [putA]) | (apply x_unwanted; (· simp only [go_sem, *]; try rfl); (· rfl); simp only [putA]) | (apply x_condT; (· simp only [go_sem, *]; try rfl)) | (apply x_condF; (· simp only [go_sem, *]; try rfl)) | fail
              (apply f_ret; iterate 7 (· simp only [go_sem, *, Tryz.results129]; try rfl))
              exact h
        · have hd : hexD1 b = none := by
            rw [hdv]; unfold dv; rw [if_neg c1, if_neg c2]; rfl
          rw [Hnone.out hd] at h
          have hle : (decide ((97 : Int) ≤ (lowN b : Int)) && decide ((lowN b : Int) ≤ 122)) = false := by
            rw [Bool.and_eq_false_iff]; simp; omega
          clear hd hdv c1 c2
          cases q1 : decide ((48 : Int) ≤ (b.toNat : Int)) <;> cases q2 : decide ((b.toNat : Int) ≤ 57) <;> cases q3 : ((b.toNat : Int) == 95) <;> simp only [q1, q2] at hnd <;> try (exfalso; cases hnd; done)
          all_goals clear hnd
          all_goals
            cases q4 : decide ((97 : Int) ≤ (lowN b : Int)) <;> cases q5 : decide ((lowN b : Int) ≤ 122) <;> simp only [q4, q5] at hle <;> try (exfalso; cases hle; done)
          all_goals clear hle
          all_goals
            repeat' first | apply x_seq | apply x_skip | apply x_block | apply x_ret | apply x_ops_nil | apply p_ret_it | apply p_ret_blk | apply p_end | (apply x_region; simp only [List.toList_toArray]) | (apply x_step0; (· rfl); (· simp only [go_sem, *]; try rfl); (· rfl); simp only [putA]) | (apply x_callA []; (· simp only [go_sem, *]; try rfl); (· rfl); (· simp only [go_sem, *]; try rfl); (· rfl); (iterate 2 (· simp only [go_sem, *]; try rfl)); (first | apply hlw); simp only [afterCall, putA]) | (apply x_step; (iterate 2 (· simp only [go_sem, *]; try rfl)); (· rfl); simp only [putA]) | (apply x_unwanted; (· simp only [go_sem, *]; try rfl); (· rfl); simp only [putA]) | (apply x_condT; (· simp only [go_sem, *]; try rfl)) | (apply x_condF; (· simp only [go_sem, *]; try rfl)) | fail
            (apply f_ret; iterate 7 (· simp only [go_sem, *, Tryz.results129]; try rfl))
            exact h
    · simp only at ha
      rw [ha] at h
      clear ha
      repeat' first | apply x_seq | apply x_skip | apply x_exit | apply x_ret | apply x_ops_nil | apply p_exit_it | apply p_exit_hit | apply p_end | (apply x_region; simp only [List.toList_toArray]) | (apply x_step0; (· rfl); (· simp only [go_sem, *]; try rfl); (· rfl); simp only [putA]) | (apply x_unwanted; (· simp only [go_sem, *]; try rfl); (· rfl); simp only [putA]) | (apply x_condF; (· simp only [go_sem, *]; try rfl)) | fail
      (apply f_ret; iterate 7 (· simp only [go_sem, *, Tryz.results129]; try rfl))
      exact h
def Syn (w0 : World) : Prop := ∃ ev, w0.cell? ⟨5, 0, none⟩ = some ev ∧ (ev = .nilIface ∨ ∃ te pe, ev = .iface te pe)
theorem toErr (w0 : World) (hS : Syn w0) (S : List Blk) (s : List UInt8) (hs : s.length ≤ 1000) (R : AOut → List Blk → Prop) (h : ∀ v : Value, R (.ret (.ifc 183 (.val v))) S) :
    ACall Tryz.prog w0 112 [.str [80, 97, 114, 115, 101, 85, 105, 110, 116], .str s, .int .i64 16, .int .i64 8, synV] S R := by
  refine ACall.libR (vs := [.string ⟨#[80, 97, 114, 115, 101, 85, 105, 110, 116]⟩, .string ⟨s.toArray⟩, .int .i64 16, .int .i64 8, .iface 180 (.int .i64 2)]) (Go.Proofs.enters_of Tryz.func112 (by kernel_rfl) rfl) rfl ?_
  intro w hb
  obtain ⟨ev, hv, hev⟩ := hS
  refine (Go.Proofs.Any.strconv_toError_syntax Go.Proofs.Tryz.laysC245 ⟨#[80, 97, 114, 115, 101, 85, 105, 110, 116]⟩ ⟨s.toArray⟩ 16 8 ev w ?_ ?_ hev).mono ?_
  · show s.toArray.size ≤ _
    simp; omega
  · exact (hb.cell (World.block_lt_of_cell? _ _ hv)).trans hv
  · rintro e w' ⟨N, rfl, hN, hc, hbw⟩
    exact ⟨_, rfl, hbw, .ifc 183 (.val (.pointer (some ⟨N, 0, none⟩))), fun ι ψ => .ifc _ _ _ (.val _ rfl), h _⟩
set_option maxHeartbeats 4000000 in
theorem parseUint (w0 : World) (hS : Syn w0) : PU16 w0 := by
  intro S b1 b2 R h1 h2
  have hte := fun S' => toErr w0 hS S' [b1, b2] (by simp)
  cases hh : hexV b1 b2 with
  | some v =>
    have hpu := fun S' (R : AOut → List Blk → Prop) (h : R (.ret (.tup [.int .u64 v, .inil])) S') => puIn w0 S' b1 b2 R (by rw [hh]; exact h)
    have h := h1 v hh
    clear hte h1 h2 hh
    refine enter Tryz.func113 rfl (by decide +kernel) (by rw [Tryz.ntmps113]; simp) (by rw [Tryz.ntmps113]; decide) (fun hO => ?_); rw [Tryz.ntmps113]
    repeat' first | apply x_seq | apply x_skip | apply x_ret | apply x_ops_nil | apply p_end | (apply x_region; simp only [List.toList_toArray]) | (apply x_step0; (· rfl); (· simp only [go_sem, *]; try rfl); (· rfl); simp only [putA]) | (apply x_callA []; (· simp only [go_sem, *]; try rfl); (· rfl); (· simp only [go_sem, *]; try rfl); (· rfl); (iterate 2 (· simp only [go_sem, *]; try rfl)); (first | apply hpu); simp only [afterCall, putA]) | (apply x_condF; (· simp only [go_sem, *]; try rfl)) | fail
    (apply f_ret; iterate 7 (· simp only [go_sem, *, Tryz.results113]; try rfl))
    exact h
  | none =>
    have hpu := fun S' (R : AOut → List Blk → Prop) (h : R (.ret (.tup [.int .u64 0, synV])) S') => puIn w0 S' b1 b2 R (by rw [hh]; exact h)
    have h := h2 hh
    clear h1 h2 hh
    unfold synV at hpu hte
    refine enter Tryz.func113 rfl (by decide +kernel) (by rw [Tryz.ntmps113]; simp) (by rw [Tryz.ntmps113]; decide) (fun hO => ?_); rw [Tryz.ntmps113]
    repeat' first | apply x_seq | apply x_ops_nil | (apply x_region; simp only [List.toList_toArray]) | (apply x_step0; (· rfl); (· simp only [go_sem, *]; try rfl); (· rfl); simp only [putA]) | (apply x_callA []; (· simp only [go_sem, *]; try rfl); (· rfl); (· simp only [go_sem, *]; try rfl); (· rfl); (iterate 2 (· simp only [go_sem, *]; try rfl)); (first | apply hpu | apply hte); simp only [afterCall, putA]) | (apply x_condT; (· simp only [go_sem, *]; try rfl)) | fail
    intro v
    repeat' first | apply x_ret | apply x_ops_nil | apply p_ret_it | apply p_end | (apply x_step0; (· rfl); (· simp only [go_sem, *]; try rfl); (· rfl); simp only [putA]) | fail
    (apply f_ret; iterate 7 (· simp only [go_sem, *, Tryz.results113]; try rfl))
    exact h _ _
end Go.Proofs.YtcobfilbmfokoaaGreatDoor
namespace Go.Proofs.YtcobfilbmfokoaaGreatDoor
open Go Go.Fen
set_option linter.unusedSimpArgs false
set_option linter.unusedVariables false
attribute [local irreducible] RunX WP ACall AnyP OpA ProtL
set_option maxRecDepth 8000
theorem escC_len (c : UInt8) : (escC c).length ≤ 4 := by unfold escC; split <;> (try split) <;> simp
theorem flat_len (s : List UInt8) : (s.flatMap escC).length ≤ 4 * s.length := by
  induction s with
  | nil => simp
  | cons c s ih => rw [List.flatMap_cons, List.length_append, List.length_cons]; have := escC_len c; omega
theorem take_flatS {s : List UInt8} {i : Nat} {c : UInt8} {bl : List UInt8} (h : s[i]? = some c) (hb : 34 :: (s.take i).flatMap escC = bl) : 34 :: (s.take (i + 1)).flatMap escC = bl ++ escC c := by
  rw [List.take_add_one, h, List.flatMap_append, ← hb]; simp
set_option maxHeartbeats 4000000 in
theorem cQuote (w0 : World) (S : List Blk) (s : List UInt8) (hm : s.length ≤ 1000000000) (R : AOut → List Blk → Prop) (h : R (.ret (.str (quoteC s))) S) : ACall Tryz.prog w0 24 [.str s] S R := by
  refine enter Tryz.func24 rfl (by decide +kernel) (by rw [Tryz.ntmps24]; simp) (by rw [Tryz.ntmps24]; decide) (fun hO => ?_); rw [Tryz.ntmps24]
  repeat' first | apply x_seq | apply x_block | apply x_ops_nil | (apply x_region; simp only [List.toList_toArray]) | (apply x_step0; (· rfl); (· simp only [go_sem, *]; try rfl); (· rfl); simp only [putA]) | fail
  refine x_ind (fun (i : Nat) env S' => i ≤ s.length ∧ env 1000000 = .dfr [] ∧ env 0 = .str s ∧ env 3 = .sown S.length i (34 :: (s.take i).flatMap escC).length ∧ env 8 = .int .i64 s.length ∧ env 9 = .int .i64 (i : Int) ∧
    S' = S ++ [.arr 5 1 0 i ((34 :: (s.take i).flatMap escC).map bAV)]) (fun i => s.length - i) 0 ?_ ?_
  · exact ⟨Nat.zero_le _, by (simp only [go_sem, *]; try rfl), by (simp only [go_sem, *]; try rfl), by (simp only [go_sem, *]; try rfl), by (simp only [go_sem, *]; try rfl), by (simp only [go_sem, *]; try rfl), rfl⟩
  · rintro i env S' ⟨hi, e0, f0, f3, f8, f9, rfl⟩ IH
    have HI := Lib.hid IH
    clear IH
    have hfl := flat_len (s.take i)
    have hfl2 : (s.take i).length ≤ i := List.length_take_le _ _
    obtain ⟨bl, hbl⟩ : ∃ bl, 34 :: (s.take i).flatMap escC = bl := ⟨_, rfl⟩
    have hbn : bl.length ≤ 4 * i + 1 := by rw [← hbl, List.length_cons]; omega
    rw [hbl] at f3 ⊢
    have hlen : (bl.map bAV).length = bl.length := by simp
    have Hbl := Lib.hid hbl
    have Hbn := Lib.hid hbn
    clear hfl hfl2 hbl
    by_cases hlt : i < s.length
    · obtain ⟨c, hx⟩ : ∃ c, s[i]? = some c := ⟨_, List.getElem?_eq_getElem hlt⟩
      have h1 : decide ((i : Int) < (s.length : Int)) = true := by simpa using hlt
      have hw1 : IntKind.i64.wrap ((i : Int) + 1) = (i : Int) + 1 := IntWalk.i64_in _ (by omega)
      have hct : c.toNat < 256 := c.toNat_lt
      have hwc : IntKind.i64.wrap (c.toNat : Int) = (c.toNat : Int) := IntWalk.i64_in _ (by omega)
      have hb1 : (bl.length + 1) * 1 ≤ 140737488355328 := by omega
      have hb2 : (bl.length + 2) * 1 ≤ 140737488355328 := by omega
      have hb4 : (bl.length + 4) * 1 ≤ 140737488355328 := by omega
      have Htk := Lib.hid (take_flatS hx Hbl.out)
      have Hil := Lib.hid (List.getElem?_eq_some_iff.1 hx).1
      have Hct := Lib.hid hct
      clear hlt hi hm hct hbn
      by_cases q1 : c.toNat = 34
      · have d1 : ((c.toNat : Int) == 34) = true := by simp; omega
        have Hesc := Lib.hid (show escC c = [92, c] by unfold escC; rw [if_pos (.inl q1)])
        clear q1
        repeat' first | apply x_seq | apply x_skip | apply x_block | apply x_ops_nil | apply p_blk | (apply x_region; simp only [List.toList_toArray]) | (apply x_step0; (· rfl); (· simp only [go_sem, *]; try rfl); (· rfl); simp only [putA]) | (apply x_unwanted; (· simp only [go_sem, *]; try rfl); (· rfl); simp only [putA]) | (apply x_condT; (· simp only [go_sem, *]; try rfl)) | fail
        all_goals
          refine x_keep hO 1 [0, 3, 8, 9] rfl (by (simp only [go_sem, *]; try rfl)) (by (simp only [go_sem, *]; try rfl)) (by (simp only [go_sem, *]; try rfl)) ?_
          simp only [List.take_succ_cons, List.take_zero]
          refine HI.out (i + 1) _ _ (by have := Hil.out; omega) ⟨Hil.out, ?_, ?_, ?_, ?_, ?_, ?_⟩
          · (simp only [go_sem, *]; try rfl)
          · (simp only [go_sem, *]; try rfl)
          · rw [Htk.out, Hesc.out, List.length_append]; (simp only [go_sem, *]; try rfl)
          · (simp only [go_sem, *]; try rfl)
          · (simp only [go_sem, *]; try rfl)
          · rw [Htk.out, Hesc.out, List.map_append]; rfl
      have d1 : ((c.toNat : Int) == 34) = false := by simp; omega
      by_cases q2 : c.toNat = 92
      · have d2 : ((c.toNat : Int) == 92) = true := by simp; omega
        have Hesc := Lib.hid (show escC c = [92, c] by unfold escC; rw [if_pos (.inr q2)])
        clear q1 q2
        repeat' first | apply x_seq | apply x_skip | apply x_block | apply x_ops_nil | apply p_blk | (apply x_region; simp only [List.toList_toArray]) | (apply x_step0; (· rfl); (· simp only [go_sem, *]; try rfl); (· rfl); simp only [putA]) | (apply x_step; (iterate 2 (· simp only [go_sem, *]; try rfl)); (· rfl); simp only [putA]) | (apply x_condT; (· simp only [go_sem, *]; try rfl)) | fail
        all_goals
          refine x_keep hO 1 [0, 3, 8, 9] rfl (by (simp only [go_sem, *]; try rfl)) (by (simp only [go_sem, *]; try rfl)) (by (simp only [go_sem, *]; try rfl)) ?_
          simp only [List.take_succ_cons, List.take_zero]
          refine HI.out (i + 1) _ _ (by have := Hil.out; omega) ⟨Hil.out, ?_, ?_, ?_, ?_, ?_, ?_⟩
          · (simp only [go_sem, *]; try rfl)
          · (simp only [go_sem, *]; try rfl)
          · rw [Htk.out, Hesc.out, List.length_append]; (simp only [go_sem, *]; try rfl)
          · (simp only [go_sem, *]; try rfl)
          · (simp only [go_sem, *]; try rfl)
          · rw [Htk.out, Hesc.out, List.map_append]; rfl
      have d2 : ((c.toNat : Int) == 92) = false := by simp; omega
      by_cases q4 : 32 ≤ c.toNat ∧ c.toNat ≤ 126
      · have d4 : decide ((32 : Int) ≤ (c.toNat : Int)) = true := by simp; omega
        have d5 : decide ((c.toNat : Int) ≤ 126) = true := by simp; omega
        have Hesc := Lib.hid (show escC c = [c] by unfold escC; rw [if_neg (by omega), if_pos q4])
        clear q1 q2 q4
        repeat' first | apply x_seq | apply x_skip | apply x_block | apply x_ops_nil | apply p_blk | (apply x_region; simp only [List.toList_toArray]) | (apply x_step0; (· rfl); (· simp only [go_sem, *]; try rfl); (· rfl); simp only [putA]) | (apply x_step; (iterate 2 (· simp only [go_sem, *]; try rfl)); (· rfl); simp only [putA]) | (apply x_condT; (· simp only [go_sem, *]; try rfl)) | (apply x_condF; (· simp only [go_sem, *]; try rfl)) | fail
        all_goals
          refine x_keep hO 1 [0, 3, 8, 9] rfl (by (simp only [go_sem, *]; try rfl)) (by (simp only [go_sem, *]; try rfl)) (by (simp only [go_sem, *]; try rfl)) ?_
          simp only [List.take_succ_cons, List.take_zero]
          refine HI.out (i + 1) _ _ (by have := Hil.out; omega) ⟨Hil.out, ?_, ?_, ?_, ?_, ?_, ?_⟩
          · (simp only [go_sem, *]; try rfl)
          · (simp only [go_sem, *]; try rfl)
          · rw [Htk.out, Hesc.out, List.length_append]; (simp only [go_sem, *]; try rfl)
          · (simp only [go_sem, *]; try rfl)
          · (simp only [go_sem, *]; try rfl)
          · rw [Htk.out, Hesc.out, List.map_append]; rfl
      have Hesc := Lib.hid (show escC c = [92, 120, hexC (c.toNat / 16), hexC (c.toNat % 16)] by unfold escC; rw [if_neg (by omega), if_neg q4])
      have g1 := hex_get _ (show c.toNat / 16 < 16 by have := Hct.out; omega)
      have g2 := hex_get _ (show c.toNat % 16 < 16 by omega)
      have g3 : (c.toNat : Int).fdiv (2 ^ min 4 8) = ((c.toNat / 16 : Nat) : Int) := shr4 c
      have g4 := and15 c
      simp only [IntKind.bits] at g4
      have hq5 : (decide ((32 : Int) ≤ (c.toNat : Int)) = false) ∨ (decide ((32 : Int) ≤ (c.toNat : Int)) = true ∧ decide ((c.toNat : Int) ≤ 126) = false) := by simp; omega
      clear q1 q2 q4
      rcases hq5 with d4 | ⟨d4, d5⟩
      all_goals
        repeat' first | apply x_seq | apply x_skip | apply x_block | apply x_ops_nil | apply p_blk | (apply x_region; simp only [List.toList_toArray]) | (apply x_step0; (· rfl); (· simp only [go_sem, *]; try rfl); (· rfl); simp only [putA]) | (apply x_step; (iterate 2 (· simp only [go_sem, *]; try rfl)); (· rfl); simp only [putA]) | (apply x_unwanted; (· simp only [go_sem, *]; try rfl); (· rfl); simp only [putA]) | (apply x_condT; (· simp only [go_sem, *]; try rfl)) | (apply x_condF; (· simp only [go_sem, *]; try rfl)) | (apply d_draw; (· exact mixed); (· simp only [List.size_toArray, List.length_cons, List.length_nil, Nat.reduceAdd]; try rfl)) | (apply d_done; (· decide +kernel)) | (apply a_0; (repeat (apply a_s; (· decide +kernel))); apply a_take; (· decide +kernel); (· first | exact qds_FPost | exact qds_RPost | exact qds_YB | assumption); (· rfl); (iterate 3 (· simp only [go_sem, *]; try rfl)); (· rfl); (· simp only [go_sem, *]; try rfl); simp only [putA]) | (apply a_0; (repeat (apply a_o; (· decide +kernel))); apply a_one; (· decide +kernel)) | (apply o_step; (iterate 3 (· simp only [go_sem, *]; try rfl)); (· rfl); simp only [putA]) | apply pr_go | apply pl_nil | apply pl_none | fail
        all_goals
          refine x_keep hO 1 [0, 3, 8, 9] rfl (by (simp only [go_sem, *]; try rfl)) (by (simp only [go_sem, *]; try rfl)) (by (simp only [go_sem, *]; try rfl)) ?_
          simp only [List.take_succ_cons, List.take_zero]
          refine HI.out (i + 1) _ _ (by have := Hil.out; omega) ⟨Hil.out, ?_, ?_, ?_, ?_, ?_, ?_⟩
          · (simp only [go_sem, *]; try rfl)
          · (simp only [go_sem, *]; try rfl)
          · rw [Htk.out, Hesc.out, List.length_append]; (simp only [go_sem, *]; try rfl)
          · (simp only [go_sem, *]; try rfl)
          · (simp only [go_sem, *]; try rfl)
          · rw [Htk.out, Hesc.out, List.map_append]; rfl
    · have hin : i = s.length := by omega
      subst hin
      rw [List.take_length] at Hbl
      have h1 : decide ((s.length : Int) < (s.length : Int)) = false := by simp
      have hb1 : (bl.length + 1) * 1 ≤ 140737488355328 := by omega
      have hl1 : (List.map bAV bl ++ [AV.int .u8 34]).length = bl.length + 1 := by simp
      have hby : bytesOf (List.map bAV bl ++ [AV.int .u8 34]) = some (quoteC s) := by
        rw [bytesOf_app (bytesOf_map bl) (t := [34]) rfl, ← Hbl.out]; rfl
      clear hlt hi hm hbn
      repeat' first | apply x_seq | apply x_exit | apply x_ret | apply x_ops_nil | apply p_exit_it | apply p_exit_hit | apply p_end | (apply x_region; simp only [List.toList_toArray]) | (apply x_step0; (· rfl); (· simp only [go_sem, *]; try rfl); (· rfl); simp only [putA]) | (apply x_condF; (· simp only [go_sem, *]; try rfl)) | fail
      (apply f_ret; iterate 7 (· simp only [go_sem, *, Tryz.results24]; try rfl))
      exact h
end Go.Proofs.YtcobfilbmfokoaaGreatDoor
namespace Go.Proofs.YtcobfilbmfokoaaGreatDoor
open Go Go.Fen
set_option linter.unusedSimpArgs false
set_option linter.unusedVariables false
attribute [local irreducible] RunX WP ACall AnyP OpA ProtL
set_option maxRecDepth 8000
def digL (n : Nat) : List UInt8 := if n < 10 then [UInt8.ofNat (48 + n)] else if n < 100 then [UInt8.ofNat (48 + n / 10), UInt8.ofNat (48 + n % 10)] else [49, 48, 48]
theorem itoa_dig : ∀ n : Nat, n < 101 → Lib.itoa (n : Int) = digL n := by decide +kernel
theorem rDig1 (w0 : World) (S : List Blk) (n : Nat) (hn : n < 10) (R : AOut → List Blk → Prop) (h : R (.ret (.str [UInt8.ofNat (48 + n)])) S) : ACall Tryz.prog w0 28 [.int .i64 n] S R := by
  have d1 : decide ((n : Int) < 10) = true := by simp; omega
  have k1 : IntKind.i64.wrap (48 + (n : Int)) = ((48 + n : Nat) : Int) := by rw [IntWalk.i64_in _ (by omega)]; omega
  have k2 : IntKind.u8.wrap ((48 + n : Nat) : Int) = ((48 + n : Nat) : Int) := IntWalk.u8_in _ (by omega)
  clear hn
  refine enter Tryz.func28 rfl (by decide +kernel) (by rw [Tryz.ntmps28]; simp) (by rw [Tryz.ntmps28]; decide) (fun hO => ?_); rw [Tryz.ntmps28]
  repeat' first | apply x_seq | apply x_ret | apply x_ops_nil | apply p_ret_it | apply p_end | (apply x_region; simp only [List.toList_toArray]) | (apply x_step0; (· rfl); (· simp only [go_sem, *]; try rfl); (· rfl); simp only [putA]) | (apply x_condT; (· simp only [go_sem, *]; try rfl)) | fail
  (apply f_ret; iterate 7 (· simp only [go_sem, *, Tryz.results28]; try rfl))
  exact h
theorem rDig2 (w0 : World) (S : List Blk) (n : Nat) (h1 : 10 ≤ n) (hn : n < 100) (R : AOut → List Blk → Prop) (h : R (.ret (.str [UInt8.ofNat (48 + n / 10), UInt8.ofNat (48 + n % 10)])) S) : ACall Tryz.prog w0 28 [.int .i64 n] S R := by
  have d1 : decide ((n : Int) < 10) = false := by simp; omega
  have k1 : IntKind.i64.wrap ((n : Int).tdiv 10) = ((n / 10 : Nat) : Int) := by rw [Int.tdiv_eq_ediv_of_nonneg (by omega), IntWalk.i64_in _ (by omega)]; omega
  have k2 : (n : Int).tmod 10 = ((n % 10 : Nat) : Int) := tmN n 10
  have c1 := fun S' => rDig1 w0 S' (n / 10) (by omega)
  have c2 := fun S' => rDig1 w0 S' (n % 10) (by omega)
  clear h1 hn
  refine enter Tryz.func28 rfl (by decide +kernel) (by rw [Tryz.ntmps28]; simp) (by rw [Tryz.ntmps28]; decide) (fun hO => ?_); rw [Tryz.ntmps28]
  repeat' first | apply x_seq | apply x_skip | apply x_ret | apply x_ops_nil | apply p_end | (apply x_region; simp only [List.toList_toArray]) | (apply x_step0; (· rfl); (· simp only [go_sem, *]; try rfl); (· rfl); simp only [putA]) | (apply x_callA []; (· simp only [go_sem, *]; try rfl); (· rfl); (· simp only [go_sem, *]; try rfl); (· rfl); (iterate 2 (· simp only [go_sem, *]; try rfl)); (first | apply c1 | apply c2); simp only [afterCall, putA]) | (apply x_condF; (· simp only [go_sem, *]; try rfl)) | fail
  (apply f_ret; iterate 7 (· simp only [go_sem, *, Tryz.results28]; try rfl))
  exact h
theorem rDig (w0 : World) (S : List Blk) (n : Nat) (hn : n < 101) (R : AOut → List Blk → Prop) (h : R (.ret (.str (Lib.itoa (n : Int)))) S) : ACall Tryz.prog w0 28 [.int .i64 n] S R := by
  rw [itoa_dig n hn] at h
  unfold digL at h
  by_cases h1 : n < 10
  · rw [if_pos h1] at h; exact rDig1 w0 S n h1 R h
  rw [if_neg h1] at h
  by_cases h2 : n < 100
  · rw [if_pos h2] at h; exact rDig2 w0 S n (by omega) h2 R h
  rw [if_neg h2] at h
  obtain rfl : n = 100 := by omega
  have k1 : IntKind.i64.wrap ((100 : Int).tdiv 10) = 10 := by decide
  have k2 : (100 : Int).tmod 10 = 0 := by decide
  have c1 : ∀ S' (R : AOut → List Blk → Prop), R (.ret (.str [49, 48])) S' → ACall Tryz.prog w0 28 [.int .i64 10] S' R := fun S' R h => rDig2 w0 S' 10 (by decide) (by decide) R h
  have c2 : ∀ S' (R : AOut → List Blk → Prop), R (.ret (.str [48])) S' → ACall Tryz.prog w0 28 [.int .i64 0] S' R := fun S' R h => rDig1 w0 S' 0 (by decide) R h
  have e : (((100 : Nat) : Int)) = 100 := rfl
  rw [e]
  clear e hn h1 h2
  refine enter Tryz.func28 rfl (by decide +kernel) (by rw [Tryz.ntmps28]; simp) (by rw [Tryz.ntmps28]; decide) (fun hO => ?_); rw [Tryz.ntmps28]
  repeat' first | apply x_seq | apply x_skip | apply x_ret | apply x_ops_nil | apply p_end | (apply x_region; simp only [List.toList_toArray]) | (apply x_step0; (· rfl); (· simp only [go_sem, *]; try rfl); (· rfl); simp only [putA]) | (apply x_callA []; (· simp only [go_sem, *]; try rfl); (· rfl); (· simp only [go_sem, *]; try rfl); (· rfl); (iterate 2 (· simp only [go_sem, *]; try rfl)); (first | apply c1 | apply c2); simp only [afterCall, putA]) | (apply x_condF; (· simp only [go_sem, *]; try rfl)) | fail
  (apply f_ret; iterate 7 (· simp only [go_sem, *, Tryz.results28]; try rfl))
  exact h
set_option maxHeartbeats 4000000 in
theorem rQuoted (w0 : World) (S : List Blk) (s : List UInt8) (hm : s.length ≤ 1000000000) (R : AOut → List Blk → Prop) (h : R (.ret (.str (quoteC s))) S) : ACall Tryz.prog w0 29 [.str s] S R := by
  refine enter Tryz.func29 rfl (by decide +kernel) (by rw [Tryz.ntmps29]; simp) (by rw [Tryz.ntmps29]; decide) (fun hO => ?_); rw [Tryz.ntmps29]
  repeat' first | apply x_seq | apply x_block | apply x_ops_nil | (apply x_region; simp only [List.toList_toArray]) | (apply x_step0; (· rfl); (· simp only [go_sem, *]; try rfl); (· rfl); simp only [putA]) | fail
  refine x_ind (fun (i : Nat) env S' => i ≤ s.length ∧ env 1000000 = .dfr [] ∧ env 0 = .str s ∧ env 3 = .sown S.length i (34 :: (s.take i).flatMap escC).length ∧ env 4 = .int .i64 (i : Int) ∧
    S' = S ++ [.arr 5 1 0 i ((34 :: (s.take i).flatMap escC).map bAV)]) (fun i => s.length - i) 0 ?_ ?_
  · exact ⟨Nat.zero_le _, by (simp only [go_sem, *]; try rfl), by (simp only [go_sem, *]; try rfl), by (simp only [go_sem, *]; try rfl), by (simp only [go_sem, *]; try rfl), rfl⟩
  · rintro i env S' ⟨hi, e0, f0, f3, f4, rfl⟩ IH
    have HI := Lib.hid IH
    clear IH
    have hfl := flat_len (s.take i)
    have hfl2 : (s.take i).length ≤ i := List.length_take_le _ _
    obtain ⟨bl, hbl⟩ : ∃ bl, 34 :: (s.take i).flatMap escC = bl := ⟨_, rfl⟩
    have hbn : bl.length ≤ 4 * i + 1 := by rw [← hbl, List.length_cons]; omega
    rw [hbl] at f3 ⊢
    have hlen : (bl.map bAV).length = bl.length := by simp
    have Hbl := Lib.hid hbl
    have Hbn := Lib.hid hbn
    clear hfl hfl2 hbl
    by_cases hlt : i < s.length
    · obtain ⟨c, hx⟩ : ∃ c, s[i]? = some c := ⟨_, List.getElem?_eq_getElem hlt⟩
      have h1 : decide ((i : Int) < (s.length : Int)) = true := by simpa using hlt
      have hw1 : IntKind.i64.wrap ((i : Int) + 1) = (i : Int) + 1 := IntWalk.i64_in _ (by omega)
      have hct : c.toNat < 256 := c.toNat_lt
      have hwc : IntKind.i64.wrap (c.toNat : Int) = (c.toNat : Int) := IntWalk.i64_in _ (by omega)
      have hb1 : (bl.length + 1) * 1 ≤ 140737488355328 := by omega
      have hb2 : (bl.length + 2) * 1 ≤ 140737488355328 := by omega
      have hb4 : (bl.length + 4) * 1 ≤ 140737488355328 := by omega
      have Htk := Lib.hid (take_flatS hx Hbl.out)
      have Hil := Lib.hid (List.getElem?_eq_some_iff.1 hx).1
      have Hct := Lib.hid hct
      clear hlt hi hm hct hbn
      by_cases q1 : c.toNat = 92
      · have d1 : ((c.toNat : Int) == 92) = true := by simp; omega
        have Hesc := Lib.hid (show escC c = [92, c] by unfold escC; rw [if_pos (.inr q1)])
        clear q1
        repeat' first | apply x_seq | apply x_skip | apply x_block | apply x_ops_nil | apply p_blk | (apply x_region; simp only [List.toList_toArray]) | (apply x_step0; (· rfl); (· simp only [go_sem, *]; try rfl); (· rfl); simp only [putA]) | (apply x_unwanted; (· simp only [go_sem, *]; try rfl); (· rfl); simp only [putA]) | (apply x_condT; (· simp only [go_sem, *]; try rfl)) | fail
        all_goals
          refine x_keep hO 1 [0, 3, 4] rfl (by (simp only [go_sem, *]; try rfl)) (by (simp only [go_sem, *]; try rfl)) (by (simp only [go_sem, *]; try rfl)) ?_
          simp only [List.take_succ_cons, List.take_zero]
          refine HI.out (i + 1) _ _ (by have := Hil.out; omega) ⟨Hil.out, ?_, ?_, ?_, ?_, ?_⟩
          · (simp only [go_sem, *]; try rfl)
          · (simp only [go_sem, *]; try rfl)
          · rw [Htk.out, Hesc.out, List.length_append]; (simp only [go_sem, *]; try rfl)
          · (simp only [go_sem, *]; try rfl)
          · rw [Htk.out, Hesc.out, List.map_append]; rfl
      have d1 : ((c.toNat : Int) == 92) = false := by simp; omega
      by_cases q2 : c.toNat = 34
      · have d2 : ((c.toNat : Int) == 34) = true := by simp; omega
        have Hesc := Lib.hid (show escC c = [92, c] by unfold escC; rw [if_pos (.inl q2)])
        clear q1 q2
        repeat' first | apply x_seq | apply x_skip | apply x_block | apply x_ops_nil | apply p_blk | (apply x_region; simp only [List.toList_toArray]) | (apply x_step0; (· rfl); (· simp only [go_sem, *]; try rfl); (· rfl); simp only [putA]) | (apply x_step; (iterate 2 (· simp only [go_sem, *]; try rfl)); (· rfl); simp only [putA]) | (apply x_condT; (· simp only [go_sem, *]; try rfl)) | fail
        all_goals
          refine x_keep hO 1 [0, 3, 4] rfl (by (simp only [go_sem, *]; try rfl)) (by (simp only [go_sem, *]; try rfl)) (by (simp only [go_sem, *]; try rfl)) ?_
          simp only [List.take_succ_cons, List.take_zero]
          refine HI.out (i + 1) _ _ (by have := Hil.out; omega) ⟨Hil.out, ?_, ?_, ?_, ?_, ?_⟩
          · (simp only [go_sem, *]; try rfl)
          · (simp only [go_sem, *]; try rfl)
          · rw [Htk.out, Hesc.out, List.length_append]; (simp only [go_sem, *]; try rfl)
          · (simp only [go_sem, *]; try rfl)
          · rw [Htk.out, Hesc.out, List.map_append]; rfl
      have d2 : ((c.toNat : Int) == 34) = false := by simp; omega
      by_cases q4 : 32 ≤ c.toNat ∧ c.toNat ≤ 126
      · have d4 : decide ((32 : Int) ≤ (c.toNat : Int)) = true := by simp; omega
        have d5 : decide ((c.toNat : Int) ≤ 126) = true := by simp; omega
        have Hesc := Lib.hid (show escC c = [c] by unfold escC; rw [if_neg (by omega), if_pos q4])
        clear q1 q2 q4
        repeat' first | apply x_seq | apply x_skip | apply x_block | apply x_ops_nil | apply p_blk | (apply x_region; simp only [List.toList_toArray]) | (apply x_step0; (· rfl); (· simp only [go_sem, *]; try rfl); (· rfl); simp only [putA]) | (apply x_step; (iterate 2 (· simp only [go_sem, *]; try rfl)); (· rfl); simp only [putA]) | (apply x_condT; (· simp only [go_sem, *]; try rfl)) | (apply x_condF; (· simp only [go_sem, *]; try rfl)) | fail
        all_goals
          refine x_keep hO 1 [0, 3, 4] rfl (by (simp only [go_sem, *]; try rfl)) (by (simp only [go_sem, *]; try rfl)) (by (simp only [go_sem, *]; try rfl)) ?_
          simp only [List.take_succ_cons, List.take_zero]
          refine HI.out (i + 1) _ _ (by have := Hil.out; omega) ⟨Hil.out, ?_, ?_, ?_, ?_, ?_⟩
          · (simp only [go_sem, *]; try rfl)
          · (simp only [go_sem, *]; try rfl)
          · rw [Htk.out, Hesc.out, List.length_append]; (simp only [go_sem, *]; try rfl)
          · (simp only [go_sem, *]; try rfl)
          · rw [Htk.out, Hesc.out, List.map_append]; rfl
      have Hesc := Lib.hid (show escC c = [92, 120, hexC (c.toNat / 16), hexC (c.toNat % 16)] by unfold escC; rw [if_neg (by omega), if_neg q4])
      have g1 := hex_get _ (show c.toNat / 16 < 16 by have := Hct.out; omega)
      have g2 := hex_get _ (show c.toNat % 16 < 16 by omega)
      have g3 : IntKind.u8.wrap ((c.toNat : Int).tdiv 16) = ((c.toNat / 16 : Nat) : Int) := by
        have := Hct.out
        rw [Int.tdiv_eq_ediv_of_nonneg (by omega), IntWalk.u8_in _ (by omega)]; omega
      have g4 : (c.toNat : Int).tmod 16 = ((c.toNat % 16 : Nat) : Int) := tmN c.toNat 16
      have hq5 : (decide ((32 : Int) ≤ (c.toNat : Int)) = false) ∨ (decide ((32 : Int) ≤ (c.toNat : Int)) = true ∧ decide ((c.toNat : Int) ≤ 126) = false) := by simp; omega
      clear q1 q2 q4
      rcases hq5 with d4 | ⟨d4, d5⟩
      all_goals
        repeat' first | apply x_seq | apply x_skip | apply x_block | apply x_ops_nil | apply p_blk | (apply x_region; simp only [List.toList_toArray]) | (apply x_step0; (· rfl); (· simp only [go_sem, *]; try rfl); (· rfl); simp only [putA]) | (apply x_step; (iterate 2 (· simp only [go_sem, *]; try rfl)); (· rfl); simp only [putA]) | (apply x_unwanted; (· simp only [go_sem, *]; try rfl); (· rfl); simp only [putA]) | (apply x_condT; (· simp only [go_sem, *]; try rfl)) | (apply x_condF; (· simp only [go_sem, *]; try rfl)) | (apply d_draw; (· exact mixed); (· simp only [List.size_toArray, List.length_cons, List.length_nil, Nat.reduceAdd]; try rfl)) | (apply d_done; (· decide +kernel)) | (apply a_0; (repeat (apply a_s; (· decide +kernel))); apply a_take; (· decide +kernel); (· first | exact qds_FPost | exact qds_RPost | exact qds_YB | assumption); (· rfl); (iterate 3 (· simp only [go_sem, *]; try rfl)); (· rfl); (· simp only [go_sem, *]; try rfl); simp only [putA]) | (apply a_0; (repeat (apply a_o; (· decide +kernel))); apply a_one; (· decide +kernel)) | (apply o_step; (iterate 3 (· simp only [go_sem, *]; try rfl)); (· rfl); simp only [putA]) | apply pr_go | apply pl_nil | apply pl_none | fail
        all_goals
          refine x_keep hO 1 [0, 3, 4] rfl (by (simp only [go_sem, *]; try rfl)) (by (simp only [go_sem, *]; try rfl)) (by (simp only [go_sem, *]; try rfl)) ?_
          simp only [List.take_succ_cons, List.take_zero]
          refine HI.out (i + 1) _ _ (by have := Hil.out; omega) ⟨Hil.out, ?_, ?_, ?_, ?_, ?_⟩
          · (simp only [go_sem, *]; try rfl)
          · (simp only [go_sem, *]; try rfl)
          · rw [Htk.out, Hesc.out, List.length_append]; (simp only [go_sem, *]; try rfl)
          · (simp only [go_sem, *]; try rfl)
          · rw [Htk.out, Hesc.out, List.map_append]; rfl
    · have hin : i = s.length := by omega
      subst hin
      rw [List.take_length] at Hbl
      have h1 : decide ((s.length : Int) < (s.length : Int)) = false := by simp
      have hb1 : (bl.length + 1) * 1 ≤ 140737488355328 := by omega
      have hl1 : (List.map bAV bl ++ [AV.int .u8 34]).length = bl.length + 1 := by simp
      have hby : bytesOf (List.map bAV bl ++ [AV.int .u8 34]) = some (quoteC s) := by
        rw [bytesOf_app (bytesOf_map bl) (t := [34]) rfl, ← Hbl.out]; rfl
      clear hlt hi hm hbn
      repeat' first | apply x_seq | apply x_exit | apply x_ret | apply x_ops_nil | apply p_exit_it | apply p_exit_hit | apply p_end | (apply x_region; simp only [List.toList_toArray]) | (apply x_step0; (· rfl); (· simp only [go_sem, *]; try rfl); (· rfl); simp only [putA]) | (apply x_condF; (· simp only [go_sem, *]; try rfl)) | fail
      (apply f_ret; iterate 7 (· simp only [go_sem, *, Tryz.results29]; try rfl))
      exact h
end Go.Proofs.YtcobfilbmfokoaaGreatDoor
namespace Go.Proofs.YtcobfilbmfokoaaGreatDoor
open Go Go.Fen
set_option linter.unusedSimpArgs false
set_option linter.unusedVariables false
attribute [local irreducible] RunX WP ACall AnyP OpA ProtL
set_option maxRecDepth 8000
theorem bldEx156 : Go.Proofs.Builder.Extra Tryz.prog Go.Proofs.Tryz.lays156_ren where
  sizeBuilder := by kernel_rfl
  liesBuilder := by kernel_rfl
  t5 := Tryz.underlying5
  a5 := Tryz.isAgg5
  z5 := Tryz.sizeOf5
  v5 := Tryz.zeroValue5
  infoByte := by kernel_rfl
  cellsByte := by kernel_rfl
  sizeByte := by kernel_rfl
  neB5 := by decide +kernel
theorem str_inv {ι : List Pl} {ψ : Psi} {s : List UInt8} {v : Value} (h : VR ι ψ (.str s) v) : ∃ b : ByteArray, v = .string b ∧ b.data.toList = s := by
  cases h with
  | str _ b hb => exact ⟨b, rfl, hb⟩
theorem cJoin (w0 : World) (S : List Blk) (l : List (List UInt8)) (sep : List UInt8) (hl : l ≠ []) (hn : l.length ≤ 140737488355328) (hlen : (Lib.join l sep).length ≤ 140737488355328) (R : AOut → List Blk → Prop)
    (h : R (.ret (.str (Lib.join l sep))) S) : ACall Tryz.prog w0 25 [.sval false (l.map AV.str), .str sep] S R := by
  unfold ACall
  refine ⟨Go.Proofs.enters_of Tryz.func25 (by kernel_rfl) rfl, fun ι ψ w cargs hRel hal hargs => ?_⟩
  obtain ⟨c1, c2, rfl⟩ : ∃ c1 c2, cargs = #[c1, c2] := by
    obtain ⟨cl⟩ := cargs
    match cl, hal with
    | [a, b], _ => exact ⟨a, b, rfl⟩
  have v1 := hargs 0 _ c1 rfl rfl
  have v2 := hargs 1 _ c2 rfl rfl
  obtain ⟨sb, rfl, hsb⟩ := str_inv v2
  generalize hel : l.map AV.str = els at v1
  cases v1 with
  | svnil _ => exact absurd (List.map_eq_nil_iff.1 hel) hl
  | sval sz _ _ b o cap cv hsz hcap hf h1 h2 =>
    have hget : ∀ (j : Nat) x, l[j]? = some x → ∃ ba : ByteArray, ba.data.toList = x ∧ w.cell? ⟨b, o + j, none⟩ = some (.string ba) := by
      intro j x hx
      have hej : els[j]? = some (.str x) := by rw [← hel, List.getElem?_map, hx]; rfl
      have hs1 : sz = 1 := (hsz j _ hej).symm
      subst hs1
      obtain ⟨_, hψ⟩ := h1 j _ 0 (.str x) hej rfl
      obtain ⟨ba, hba, hbx⟩ := str_inv (h2 j _ 0 (.str x) hej rfl)
      rw [hba] at hψ
      exact ⟨ba, hbx, by have := hRel.psi _ _ _ hψ; simpa using this⟩
    have hxs : ∃ xs : List ByteArray, xs.map (·.data.toList) = l ∧ ∀ (j : Nat) x, xs[j]? = some x → w.cell? ⟨b, o + j, none⟩ = some (.string x) := by
      refine ⟨l.map fun x => ⟨x.toArray⟩, (by rw [List.map_map]; exact (List.map_congr_left (fun _ _ => rfl)).trans (List.map_id l)), fun j x hx => ?_⟩
      rw [List.getElem?_map, Option.map_eq_some_iff] at hx
      obtain ⟨y, hy, rfl⟩ := hx
      obtain ⟨ba, hb1, hb2⟩ := hget j y hy
      rw [hb2]
      subst hb1
      rfl
    obtain ⟨xs, hx1, hx2⟩ := hxs
    have hlen2 : els.length = xs.length := by rw [← hel, ← hx1]; simp
    rw [hlen2] at hcap ⊢
    have hbk : b < w.heap.size := by
      cases xs with
      | nil => rw [List.map_nil] at hx1; exact absurd hx1.symm hl
      | cons x r => exact World.block_lt_of_cell? w _ (hx2 0 x rfl)
    refine (Go.Proofs.Any.strings_Join Go.Proofs.Tryz.lays156 bldEx156 b o cap xs sb w hx2 hbk (by have := congrArg List.length hx1; simp at this; omega) hcap (by rw [hx1, hsb]; exact hlen)).mono ?_
    rintro e w' ⟨rfl, hb⟩
    have hb0 : RowKit.Below w0.heap.size w w' := hb.mono hRel.n0
    rw [hx1, hsb]
    exact ⟨ι, ψ, .ret (.str (Lib.join l sep)), S, Ext.refl _ _, hRel.grow hb0 (fun k hk => hb.block k hk) (Psi.le_refl _) (fun _ _ _ e => .inl e) (fun _ _ _ e => .inl e), .str' _, h⟩
end Go.Proofs.YtcobfilbmfokoaaGreatDoor
namespace Go.Proofs.YtcobfilbmfokoaaGreatDoor
open Go Go.Fen
set_option linter.unusedSimpArgs false
set_option linter.unusedVariables false
attribute [local irreducible] RunX WP ACall AnyP OpA ProtL
set_option maxRecDepth 8000
theorem join_eq : ∀ l : List (List UInt8), joinC l = Lib.join l [32]
  | [] => rfl
  | [p] => by rw [Lib.join_one]; rfl
  | p :: q :: r => by
    have := join_eq (q :: r)
    rw [joinC, this]
    simp [Lib.join, List.intercalate]
theorem quoteC_len (t : List UInt8) : (quoteC t).length ≤ 4 * t.length + 2 := by
  have := flat_len t
  unfold quoteC
  rw [List.length_cons, List.length_append, List.length_cons, List.length_nil]; omega
theorem kw_len : (formsL.all fun e => decide (e.2.kw.length ≤ 20) && e.2.words.all fun w => decide (w.length ≤ 20)) = true := by decide +kernel
set_option maxHeartbeats 16000000 in
theorem cPrint1 (w0 : World) (hT : Tab w0) (S : List Blk) (c : Cm) (hs : c.text.length ≤ 10000000) (hc : checkC c = true) (R : AOut → List Blk → Prop) (h : R (.ret (.tup [.str (printC c), .int .i64 0])) S) : ACall Tryz.prog w0 9 [c.av] S R := by
  have hck := fun S' => cCheck w0 S' c hs
  rw [hc] at hck
  have hfo := forms w0
  have hfi := find_form c.kind
  have hke := keys_form
  simp only [keq] at hfi
  simp only [keyA, un_3] at hke
  have hqu := fun S' => cQuote w0 S' c.text (by omega)
  unfold printC partsC at h
  unfold checkC at hc
  cases hf : fmOf c.kind with
  | none => rw [hf] at hc; cases hc
  | some f =>
    rw [hf] at hfi h hc
    have hg := List.all_eq_true.1 forms_good _ (lookup_mem hf)
    simp only [goodF, Bool.and_eq_true, decide_eq_true_eq, Bool.or_eq_true, Bool.not_eq_true', List.all_eq_true, List.mem_range] at hg
    obtain ⟨_, _, _, _, g5, g6, g7⟩ := hg
    have hkl := List.all_eq_true.1 kw_len _ (lookup_mem hf)
    simp only [Bool.and_eq_true, decide_eq_true_eq, List.all_eq_true] at hkl
    obtain ⟨l1, l2⟩ := hkl
    simp only [validB, Bool.and_eq_true, decide_eq_true_eq] at hc
    obtain ⟨v1, _⟩ := hc
    simp only [Option.map_some] at hfi
    unfold Fm.av at hfi
    unfold Cm.av at hck ⊢
    obtain ⟨k, n, m, t⟩ := c
    obtain ⟨kw, words, number, index, text, lo, hi, mx, name⟩ := f
    simp only at hck hfi hqu h v1 g5 g6 g7 l1 l2 hs ⊢
    have ql := quoteC_len t
    have hwl : decide ((0 : Int) < (words.length : Int)) = !decide (words = []) := by
      cases words with
      | nil => rfl
      | cons a l => simp
    rw [join_eq] at h
    replace hfo := Lib.hid hfo
    replace hck := Lib.hid hck
    replace hqu := Lib.hid hqu
    have HT := Lib.hid hT
    clear hf hT
    by_cases hw : words = []
    · rw [decide_eq_true hw, Bool.not_true] at hwl
      rw [if_pos hw] at h
      cases index with
      | true =>
        simp only [if_true, Bool.and_eq_true, decide_eq_true_eq, Bool.true_eq_false, false_or, List.nil_append] at h v1 g5
        have hit := fun S' => itoa w0 HT.out S' n (by omega) (by omega)
        have il := Lib.itoa_length_le n (by omega) (by omega)
        have hjo := fun S' => cJoin w0 S' [kw, Lib.itoa n] [32] (by simp) (by simp) (by rw [← join_eq]; simp [joinC]; omega)
        simp only [List.map_cons, List.map_nil] at hjo
        clear v1 g5 g6 g7 l1 l2 ql il hs
        refine enter Tryz.func9 rfl (by decide +kernel) (by rw [Tryz.ntmps9]; simp) (by rw [Tryz.ntmps9]; decide) (fun hO => ?_); rw [Tryz.ntmps9]
        repeat' first | apply x_seq | apply x_skip | apply x_block | apply x_ops_nil | apply p_blk | (apply x_region; simp only [List.toList_toArray]) | (apply x_step0; (· rfl); (· simp only [go_sem, *]; try rfl); (· rfl); simp only [putA]) | (apply x_callA []; (· simp only [go_sem, *]; try rfl); (· rfl); (· simp only [go_sem, *]; try rfl); (· rfl); (iterate 2 (· simp only [go_sem, *]; try rfl)); (first | apply hck.out | apply hfo.out | apply hit); simp only [afterCall, putA]) | (apply x_condT; (· simp only [go_sem, *]; try rfl)) | (apply x_condF; (· simp only [go_sem, *]; try rfl)) | (apply d_draw; (· exact mixed); (· simp only [List.size_toArray, List.length_cons, List.length_nil, Nat.reduceAdd]; try rfl)) | (apply d_done; (· decide +kernel)) | (apply a_0; (repeat (apply a_s; (· decide +kernel))); apply a_take; (· decide +kernel); (· first | exact qds_FPost | exact qds_RPost | exact qds_YB | assumption); (· rfl); (iterate 3 (· simp only [go_sem, *]; try rfl)); (· rfl); (· simp only [go_sem, *]; try rfl); simp only [putA]) | (apply a_0; (repeat (apply a_o; (· decide +kernel))); apply a_one; (· decide +kernel)) | (apply d_two 0 4; (· decide +kernel)) | (apply o_step; (iterate 3 (· simp only [go_sem, *]; try rfl)); (· rfl); simp only [putA]) | apply pr_same | apply pr_go | apply pl_nil | apply pl_none | (apply pl_one; (· simp only [go_sem, *]; try rfl)) | (apply o_call []; (iterate 2 (· simp only [go_sem, *]; try rfl)); (· rfl); (· simp only [go_sem, *]; try rfl); (· rfl); (iterate 2 (· simp only [go_sem, *]; try rfl)); (first | apply hck.out | apply hfo.out | apply hit); simp only [afterOp, putA]) | fail
        all_goals
          refine x_mark (S.length + 2) (by (simp only [go_sem, *]; try rfl)) ?_
          repeat' first | apply x_ret | apply x_ops_nil | apply p_end | (apply x_step0; (· rfl); (· simp only [go_sem, *]; try rfl); (· rfl); simp only [putA]) | (apply x_callA []; (· simp only [go_sem, *]; try rfl); (· rfl); (· simp only [go_sem, *]; try rfl); (· rfl); (iterate 2 (· simp only [go_sem, *]; try rfl)); (first | apply hjo); simp only [afterCall, putA]) | fail
          (apply f_ret; iterate 7 (· simp only [go_sem, *, Tryz.results9]; try rfl))
          exact h
      | false =>
        cases number with
        | true =>
          simp only [Bool.false_eq_true, if_false, if_true, Bool.and_eq_true, decide_eq_true_eq, Bool.true_eq_false, false_or, List.nil_append] at h v1 g5 g6
          have hit := fun S' => itoa w0 HT.out S' m (by omega) (by omega)
          have il := Lib.itoa_length_le m (by omega) (by omega)
          have hjo := fun S' => cJoin w0 S' [kw, Lib.itoa m] [32] (by simp) (by simp) (by rw [← join_eq]; simp [joinC]; omega)
          simp only [List.map_cons, List.map_nil] at hjo
          clear v1 g5 g6 g7 l1 l2 ql hs il
          refine enter Tryz.func9 rfl (by decide +kernel) (by rw [Tryz.ntmps9]; simp) (by rw [Tryz.ntmps9]; decide) (fun hO => ?_); rw [Tryz.ntmps9]
          repeat' first | apply x_seq | apply x_skip | apply x_block | apply x_ops_nil | apply p_blk | (apply x_region; simp only [List.toList_toArray]) | (apply x_step0; (· rfl); (· simp only [go_sem, *]; try rfl); (· rfl); simp only [putA]) | (apply x_callA []; (· simp only [go_sem, *]; try rfl); (· rfl); (· simp only [go_sem, *]; try rfl); (· rfl); (iterate 2 (· simp only [go_sem, *]; try rfl)); (first | apply hck.out | apply hfo.out | apply hit); simp only [afterCall, putA]) | (apply x_condT; (· simp only [go_sem, *]; try rfl)) | (apply x_condF; (· simp only [go_sem, *]; try rfl)) | (apply d_draw; (· exact mixed); (· simp only [List.size_toArray, List.length_cons, List.length_nil, Nat.reduceAdd]; try rfl)) | (apply d_done; (· decide +kernel)) | (apply a_0; (repeat (apply a_s; (· decide +kernel))); apply a_take; (· decide +kernel); (· first | exact qds_FPost | exact qds_RPost | exact qds_YB | assumption); (· rfl); (iterate 3 (· simp only [go_sem, *]; try rfl)); (· rfl); (· simp only [go_sem, *]; try rfl); simp only [putA]) | (apply a_0; (repeat (apply a_o; (· decide +kernel))); apply a_one; (· decide +kernel)) | (apply d_two 0 4; (· decide +kernel)) | (apply o_step; (iterate 3 (· simp only [go_sem, *]; try rfl)); (· rfl); simp only [putA]) | apply pr_same | apply pr_go | apply pl_nil | apply pl_none | (apply pl_one; (· simp only [go_sem, *]; try rfl)) | (apply o_call []; (iterate 2 (· simp only [go_sem, *]; try rfl)); (· rfl); (· simp only [go_sem, *]; try rfl); (· rfl); (iterate 2 (· simp only [go_sem, *]; try rfl)); (first | apply hck.out | apply hfo.out | apply hit); simp only [afterOp, putA]) | fail
          all_goals
            refine x_mark (S.length + 2) (by (simp only [go_sem, *]; try rfl)) ?_
            repeat' first | apply x_ret | apply x_ops_nil | apply p_end | (apply x_step0; (· rfl); (· simp only [go_sem, *]; try rfl); (· rfl); simp only [putA]) | (apply x_callA []; (· simp only [go_sem, *]; try rfl); (· rfl); (· simp only [go_sem, *]; try rfl); (· rfl); (iterate 2 (· simp only [go_sem, *]; try rfl)); (first | apply hjo); simp only [afterCall, putA]) | fail
            (apply f_ret; iterate 7 (· simp only [go_sem, *, Tryz.results9]; try rfl))
            exact h
        | false =>
          cases text with
          | true =>
            simp only [Bool.false_eq_true, if_false, if_true, Bool.and_eq_true, decide_eq_true_eq, List.nil_append] at h v1 g5 g6
            have hjo := fun S' => cJoin w0 S' [kw, quoteC t] [32] (by simp) (by simp) (by rw [← join_eq]; simp [joinC]; omega)
            simp only [List.map_cons, List.map_nil] at hjo
            clear v1 g5 g6 g7 l1 l2 ql hs
            refine enter Tryz.func9 rfl (by decide +kernel) (by rw [Tryz.ntmps9]; simp) (by rw [Tryz.ntmps9]; decide) (fun hO => ?_); rw [Tryz.ntmps9]
            repeat' first | apply x_seq | apply x_skip | apply x_block | apply x_ops_nil | apply p_blk | (apply x_region; simp only [List.toList_toArray]) | (apply x_step0; (· rfl); (· simp only [go_sem, *]; try rfl); (· rfl); simp only [putA]) | (apply x_callA []; (· simp only [go_sem, *]; try rfl); (· rfl); (· simp only [go_sem, *]; try rfl); (· rfl); (iterate 2 (· simp only [go_sem, *]; try rfl)); (first | apply hck.out | apply hfo.out | apply hqu.out); simp only [afterCall, putA]) | (apply x_condT; (· simp only [go_sem, *]; try rfl)) | (apply x_condF; (· simp only [go_sem, *]; try rfl)) | (apply d_draw; (· exact mixed); (· simp only [List.size_toArray, List.length_cons, List.length_nil, Nat.reduceAdd]; try rfl)) | (apply d_done; (· decide +kernel)) | (apply a_0; (repeat (apply a_s; (· decide +kernel))); apply a_take; (· decide +kernel); (· first | exact qds_FPost | exact qds_RPost | exact qds_YB | assumption); (· rfl); (iterate 3 (· simp only [go_sem, *]; try rfl)); (· rfl); (· simp only [go_sem, *]; try rfl); simp only [putA]) | (apply a_0; (repeat (apply a_o; (· decide +kernel))); apply a_one; (· decide +kernel)) | (apply d_two 0 4; (· decide +kernel)) | (apply o_step; (iterate 3 (· simp only [go_sem, *]; try rfl)); (· rfl); simp only [putA]) | apply pr_same | apply pr_go | apply pl_nil | apply pl_none | (apply pl_one; (· simp only [go_sem, *]; try rfl)) | (apply o_call []; (iterate 2 (· simp only [go_sem, *]; try rfl)); (· rfl); (· simp only [go_sem, *]; try rfl); (· rfl); (iterate 2 (· simp only [go_sem, *]; try rfl)); (first | apply hck.out | apply hfo.out | apply hqu.out); simp only [afterOp, putA]) | fail
            all_goals
              refine x_mark (S.length + 2) (by (simp only [go_sem, *]; try rfl)) ?_
              repeat' first | apply x_ret | apply x_ops_nil | apply p_end | (apply x_step0; (· rfl); (· simp only [go_sem, *]; try rfl); (· rfl); simp only [putA]) | (apply x_callA []; (· simp only [go_sem, *]; try rfl); (· rfl); (· simp only [go_sem, *]; try rfl); (· rfl); (iterate 2 (· simp only [go_sem, *]; try rfl)); (first | apply hjo); simp only [afterCall, putA]) | fail
              (apply f_ret; iterate 7 (· simp only [go_sem, *, Tryz.results9]; try rfl))
              exact h
          | false =>
            simp only [Bool.false_eq_true, if_false, List.append_nil] at h
            have hjo := fun S' => cJoin w0 S' [kw] [32] (by simp) (by simp) (by rw [← join_eq]; simp [joinC]; omega)
            simp only [List.map_cons, List.map_nil] at hjo
            clear v1 g5 g6 g7 l1 l2 ql hs
            refine enter Tryz.func9 rfl (by decide +kernel) (by rw [Tryz.ntmps9]; simp) (by rw [Tryz.ntmps9]; decide) (fun hO => ?_); rw [Tryz.ntmps9]
            repeat' first | apply x_seq | apply x_skip | apply x_block | apply x_ops_nil | apply p_blk | (apply x_region; simp only [List.toList_toArray]) | (apply x_step0; (· rfl); (· simp only [go_sem, *]; try rfl); (· rfl); simp only [putA]) | (apply x_callA []; (· simp only [go_sem, *]; try rfl); (· rfl); (· simp only [go_sem, *]; try rfl); (· rfl); (iterate 2 (· simp only [go_sem, *]; try rfl)); (first | apply hck.out | apply hfo.out); simp only [afterCall, putA]) | (apply x_condF; (· simp only [go_sem, *]; try rfl)) | (apply d_draw; (· exact mixed); (· simp only [List.size_toArray, List.length_cons, List.length_nil, Nat.reduceAdd]; try rfl)) | (apply d_done; (· decide +kernel)) | (apply a_0; (repeat (apply a_s; (· decide +kernel))); apply a_take; (· decide +kernel); (· first | exact qds_FPost | exact qds_RPost | exact qds_YB | assumption); (· rfl); (iterate 3 (· simp only [go_sem, *]; try rfl)); (· rfl); (· simp only [go_sem, *]; try rfl); simp only [putA]) | (apply a_0; (repeat (apply a_o; (· decide +kernel))); apply a_one; (· decide +kernel)) | (apply d_two 0 4; (· decide +kernel)) | (apply o_step; (iterate 3 (· simp only [go_sem, *]; try rfl)); (· rfl); simp only [putA]) | apply pr_same | apply pr_go | apply pl_nil | apply pl_none | (apply pl_one; (· simp only [go_sem, *]; try rfl)) | (apply o_call []; (iterate 2 (· simp only [go_sem, *]; try rfl)); (· rfl); (· simp only [go_sem, *]; try rfl); (· rfl); (iterate 2 (· simp only [go_sem, *]; try rfl)); (first | apply hck.out | apply hfo.out); simp only [afterOp, putA]) | fail
            all_goals
              refine x_mark (S.length + 2) (by (simp only [go_sem, *]; try rfl)) ?_
              repeat' first | apply x_ret | apply x_ops_nil | apply p_end | (apply x_step0; (· rfl); (· simp only [go_sem, *]; try rfl); (· rfl); simp only [putA]) | (apply x_callA []; (· simp only [go_sem, *]; try rfl); (· rfl); (· simp only [go_sem, *]; try rfl); (· rfl); (iterate 2 (· simp only [go_sem, *]; try rfl)); (first | apply hjo); simp only [afterCall, putA]) | fail
              (apply f_ret; iterate 7 (· simp only [go_sem, *, Tryz.results9]; try rfl))
              exact h
    · rw [decide_eq_false hw, Bool.not_false] at hwl
      rw [if_neg hw] at h
      have hi0 : index = false := by
        cases index with
        | false => rfl
        | true => simp only [Bool.true_eq_false, false_or] at g5; exact absurd g5.1 hw
      have ht0 : text = false := by
        cases text with
        | false => rfl
        | true => simp only [Bool.true_eq_false, false_or] at g7; exact absurd g7 hw
      subst hi0 ht0
      have hnn : 0 ≤ n ∧ n < words.length := by
        cases number with
        | true =>
          simp only [hw, Bool.false_eq_true, if_false, if_true, decide_false, false_or, Bool.and_eq_true, decide_eq_true_eq, Bool.or_eq_true] at v1
          exact v1.1
        | false =>
          simp only [hw, Bool.false_eq_true, if_false, decide_false, false_or, Bool.and_eq_true, decide_eq_true_eq, Bool.or_eq_true] at v1
          exact v1
      obtain ⟨i, rfl⟩ : ∃ i : Nat, n = i := ⟨n.toNat, by omega⟩
      have hil : i < words.length := by omega
      obtain ⟨w, hww⟩ : ∃ w, words[i]? = some w := ⟨_, List.getElem?_eq_getElem hil⟩
      have hgd : words.getD (i : Int).toNat [] = w := by
        rw [Int.toNat_natCast, List.getD_eq_getElem?_getD, hww]; rfl
      have lw := l2 w (List.mem_of_getElem? hww)
      have hin : (i : Int) < (words.length : Int) := by omega
      have okW := Str.ok words
      simp only [okEls, AV.cells] at okW
      rw [hgd] at h
      cases number with
      | true =>
        simp only [Bool.false_eq_true, if_false, if_true, List.cons_append, List.nil_append, Bool.and_eq_true, decide_eq_true_eq, Bool.true_eq_false, false_or] at h v1 g6
        have hit := fun S' => itoa w0 HT.out S' m (by omega) (by omega)
        have il := Lib.itoa_length_le m (by omega) (by omega)
        have hjo := fun S' => cJoin w0 S' [kw, w, Lib.itoa m] [32] (by simp) (by simp) (by rw [← join_eq]; simp [joinC]; omega)
        simp only [List.map_cons, List.map_nil] at hjo
        clear v1 g5 g6 g7 l1 l2 ql hs il lw hnn hgd hil
        refine enter Tryz.func9 rfl (by decide +kernel) (by rw [Tryz.ntmps9]; simp) (by rw [Tryz.ntmps9]; decide) (fun hO => ?_); rw [Tryz.ntmps9]
        repeat' first | apply x_seq | apply x_skip | apply x_block | apply x_ops_nil | apply p_blk | (apply x_region; simp only [List.toList_toArray]) | (apply x_step0; (· rfl); (· simp only [go_sem, *]; try rfl); (· rfl); simp only [putA]) | (apply x_callA []; (· simp only [go_sem, *]; try rfl); (· rfl); (· simp only [go_sem, *]; try rfl); (· rfl); (iterate 2 (· simp only [go_sem, *]; try rfl)); (first | apply hck.out | apply hfo.out | apply hit); simp only [afterCall, putA]) | (apply x_condT; (· simp only [go_sem, *]; try rfl)) | (apply x_condF; (· simp only [go_sem, *]; try rfl)) | (apply d_draw; (· exact mixed); (· simp only [List.size_toArray, List.length_cons, List.length_nil, Nat.reduceAdd]; try rfl)) | (apply d_done; (· decide +kernel)) | (apply a_0; (repeat (apply a_s; (· decide +kernel))); apply a_take; (· decide +kernel); (· first | exact qds_FPost | exact qds_RPost | exact qds_YB | assumption); (· rfl); (iterate 3 (· simp only [go_sem, *]; try rfl)); (· rfl); (· simp only [go_sem, *]; try rfl); simp only [putA]) | (apply a_0; (repeat (apply a_o; (· decide +kernel))); apply a_one; (· decide +kernel)) | (apply d_two 0 4; (· decide +kernel)) | (apply o_step; (iterate 3 (· simp only [go_sem, *]; try rfl)); (· rfl); simp only [putA]) | apply pr_same | apply pr_go | apply pl_nil | apply pl_none | (apply pl_one; (· simp only [go_sem, *]; try rfl)) | (apply o_call []; (iterate 2 (· simp only [go_sem, *]; try rfl)); (· rfl); (· simp only [go_sem, *]; try rfl); (· rfl); (iterate 2 (· simp only [go_sem, *]; try rfl)); (first | apply hck.out | apply hfo.out | apply hit); simp only [afterOp, putA]) | fail
        all_goals
          refine x_mark (S.length + 2) (by (simp only [go_sem, *]; try rfl)) ?_
          repeat' first | apply x_ret | apply x_ops_nil | apply p_end | (apply x_step0; (· rfl); (· simp only [go_sem, *]; try rfl); (· rfl); simp only [putA]) | (apply x_callA []; (· simp only [go_sem, *]; try rfl); (· rfl); (· simp only [go_sem, *]; try rfl); (· rfl); (iterate 2 (· simp only [go_sem, *]; try rfl)); (first | apply hjo); simp only [afterCall, putA]) | fail
          (apply f_ret; iterate 7 (· simp only [go_sem, *, Tryz.results9]; try rfl))
          exact h
      | false =>
        simp only [Bool.false_eq_true, if_false, List.append_nil, List.cons_append, List.nil_append] at h
        have hjo := fun S' => cJoin w0 S' [kw, w] [32] (by simp) (by simp) (by rw [← join_eq]; simp [joinC]; omega)
        simp only [List.map_cons, List.map_nil] at hjo
        clear v1 g5 g6 g7 l1 l2 ql hs lw hnn hgd hil
        refine enter Tryz.func9 rfl (by decide +kernel) (by rw [Tryz.ntmps9]; simp) (by rw [Tryz.ntmps9]; decide) (fun hO => ?_); rw [Tryz.ntmps9]
        repeat' first | apply x_seq | apply x_skip | apply x_block | apply x_ops_nil | apply p_blk | (apply x_region; simp only [List.toList_toArray]) | (apply x_step0; (· rfl); (· simp only [go_sem, *]; try rfl); (· rfl); simp only [putA]) | (apply x_callA []; (· simp only [go_sem, *]; try rfl); (· rfl); (· simp only [go_sem, *]; try rfl); (· rfl); (iterate 2 (· simp only [go_sem, *]; try rfl)); (first | apply hck.out | apply hfo.out); simp only [afterCall, putA]) | (apply x_condT; (· simp only [go_sem, *]; try rfl)) | (apply x_condF; (· simp only [go_sem, *]; try rfl)) | (apply d_draw; (· exact mixed); (· simp only [List.size_toArray, List.length_cons, List.length_nil, Nat.reduceAdd]; try rfl)) | (apply d_done; (· decide +kernel)) | (apply a_0; (repeat (apply a_s; (· decide +kernel))); apply a_take; (· decide +kernel); (· first | exact qds_FPost | exact qds_RPost | exact qds_YB | assumption); (· rfl); (iterate 3 (· simp only [go_sem, *]; try rfl)); (· rfl); (· simp only [go_sem, *]; try rfl); simp only [putA]) | (apply a_0; (repeat (apply a_o; (· decide +kernel))); apply a_one; (· decide +kernel)) | (apply d_two 0 4; (· decide +kernel)) | (apply o_step; (iterate 3 (· simp only [go_sem, *]; try rfl)); (· rfl); simp only [putA]) | apply pr_same | apply pr_go | apply pl_nil | apply pl_none | (apply pl_one; (· simp only [go_sem, *]; try rfl)) | (apply o_call []; (iterate 2 (· simp only [go_sem, *]; try rfl)); (· rfl); (· simp only [go_sem, *]; try rfl); (· rfl); (iterate 2 (· simp only [go_sem, *]; try rfl)); (first | apply hck.out | apply hfo.out); simp only [afterOp, putA]) | fail
        all_goals
          refine x_mark (S.length + 2) (by (simp only [go_sem, *]; try rfl)) ?_
          repeat' first | apply x_ret | apply x_ops_nil | apply p_end | (apply x_step0; (· rfl); (· simp only [go_sem, *]; try rfl); (· rfl); simp only [putA]) | (apply x_callA []; (· simp only [go_sem, *]; try rfl); (· rfl); (· simp only [go_sem, *]; try rfl); (· rfl); (iterate 2 (· simp only [go_sem, *]; try rfl)); (first | apply hjo); simp only [afterCall, putA]) | fail
          (apply f_ret; iterate 7 (· simp only [go_sem, *, Tryz.results9]; try rfl))
          exact h
end Go.Proofs.YtcobfilbmfokoaaGreatDoor
namespace Go.Proofs.YtcobfilbmfokoaaGreatDoor
open Go Go.Fen
set_option linter.unusedSimpArgs false
set_option linter.unusedVariables false
attribute [local irreducible] RunX WP ACall AnyP OpA ProtL
set_option maxRecDepth 8000
def printP (c : Cm) : List UInt8 × Int := if checkC c then (printC c, 0) else ([], 500)
theorem cPrint (w0 : World) (hT : Tab w0) (S : List Blk) (c : Cm) (hs : c.text.length ≤ 10000000) (R : AOut → List Blk → Prop) (h : R (.ret (.tup [.str (printP c).1, .int .i64 (printP c).2])) S) : ACall Tryz.prog w0 9 [c.av] S R := by
  unfold printP at h
  cases hc : checkC c with
  | true => exact cPrint1 w0 hT S c hs hc R (by simpa [hc] using h)
  | false =>
    have hck := fun S' => cCheck w0 S' c hs
    simp only [hc, Bool.false_eq_true, if_false] at hck h
    unfold Cm.av at hck ⊢
    clear hc hs
    refine enter Tryz.func9 rfl (by decide +kernel) (by rw [Tryz.ntmps9]; simp) (by rw [Tryz.ntmps9]; decide) (fun hO => ?_); rw [Tryz.ntmps9]
    repeat' first | apply x_seq | apply x_ret | apply x_ops_nil | apply p_ret_it | apply p_end | (apply x_region; simp only [List.toList_toArray]) | (apply x_step0; (· rfl); (· simp only [go_sem, *]; try rfl); (· rfl); simp only [putA]) | (apply x_callA []; (· simp only [go_sem, *]; try rfl); (· rfl); (· simp only [go_sem, *]; try rfl); (· rfl); (iterate 2 (· simp only [go_sem, *]; try rfl)); (first | apply hck); simp only [afterCall, putA]) | (apply x_condT; (· simp only [go_sem, *]; try rfl)) | fail
    (apply f_ret; iterate 7 (· simp only [go_sem, *, Tryz.results9]; try rfl))
    exact h
end Go.Proofs.YtcobfilbmfokoaaGreatDoor
namespace Go.Proofs.YtcobfilbmfokoaaGreatDoor
open Go Go.Fen
set_option linter.unusedSimpArgs false
set_option linter.unusedVariables false
attribute [local irreducible] RunX WP ACall AnyP OpA ProtL
set_option maxRecDepth 8000
theorem x_stop (n : Nat) {P : Program} {w0 : World} {n0 N : Nat} {r : Option Nat} {Q : APost} {k : List TI} {env : Env} {S : List Blk} {all : Array Oper} {o : Oper} {l : List Oper} (h : o.dst = some n) (hf : False) : RunX P w0 n0 N r (.it (.ops all (o :: l)) :: k) Q .normal env S := hf.elim
def errV (p : Int) : AV := .ifc 70 (.pro [.int .i64 p])
theorem cFail0 (w0 : World) (S : List Blk) (a : Nat) (t : List UInt8) (p : Int) (ha : S[a]? = some (.cells [.str t, .int .i64 p, .inil])) (R : AOut → List Blk → Prop) (h : R (.ret (.tup [])) (S.set a (.cells [.str t, .int .i64 p, errV p]))) :
    ACall Tryz.prog w0 46 [.own a 0] S R := by
  have hal := (List.getElem?_eq_some_iff.1 ha).1
  unfold errV at h
  refine enter Tryz.func46 rfl (by decide +kernel) (by rw [Tryz.ntmps46]; simp) (by rw [Tryz.ntmps46]; decide) (fun hO => ?_); rw [Tryz.ntmps46]
  repeat' ((fail_if_success (apply x_stop 14 rfl)); first | apply x_seq | apply x_ops_nil | (apply x_region; simp only [List.toList_toArray]) | (apply x_step0; (· rfl); (· simp only [go_sem, *]; try rfl); (· rfl); simp only [putA]) | (apply x_condT; (· simp only [go_sem, *]; try rfl)) | fail)
  refine x_frz (t := 13) (a := S.length) (o := 0) (cs := [.int .i64 p]) (ty := none) (by (simp only [go_sem, *]; try rfl)) (by (simp only [go_sem, *]; try rfl)) ?_
  repeat' first | apply x_ops_nil | apply p_end | (apply x_step0; (· rfl); (· simp only [go_sem, *]; try rfl); (· rfl); simp only [putA]) | fail
  apply f_endO (S2 := S.set a (.cells [.str t, .int .i64 p, .ifc 70 (.pro [.int .i64 p])])) (L := [.dead])
  · (simp only [go_sem, *]; try rfl)
  · (simp only [go_sem, *]; try rfl)
  · simp
  · exact OuterOk.set hO rfl
  · (simp only [go_sem, *, Tryz.results46]; try rfl)
  · (simp only [go_sem, *]; try rfl)
  · (simp only [go_sem, *]; try rfl)
  · exact h
theorem cFail1 (w0 : World) (S : List Blk) (a : Nat) (t : List UInt8) (p q : Int) (ha : S[a]? = some (.cells [.str t, .int .i64 p, errV q])) (R : AOut → List Blk → Prop) (h : R (.ret (.tup [])) S) :
    ACall Tryz.prog w0 46 [.own a 0] S R := by
  unfold errV at ha
  refine enter Tryz.func46 rfl (by decide +kernel) (by rw [Tryz.ntmps46]; simp) (by rw [Tryz.ntmps46]; decide) (fun hO => ?_); rw [Tryz.ntmps46]
  repeat' first | apply x_seq | apply x_skip | apply x_ops_nil | apply p_end | (apply x_region; simp only [List.toList_toArray]) | (apply x_step0; (· rfl); (· simp only [go_sem, *]; try rfl); (· rfl); simp only [putA]) | (apply x_condF; (· simp only [go_sem, *]; try rfl)) | fail
  (apply f_end; iterate 7 (· simp only [go_sem, *, Tryz.results46]; try rfl))
  exact h
end Go.Proofs.YtcobfilbmfokoaaGreatDoor
namespace Go.Proofs.YtcobfilbmfokoaaGreatDoor
open Go Go.Fen
set_option linter.unusedSimpArgs false
set_option linter.unusedVariables false
attribute [local irreducible] RunX WP ACall AnyP OpA ProtL
set_option maxRecDepth 8000
def scP (t s : List UInt8) : Nat := t.length - s.length
theorem suf_at {t s r : List UInt8} {c : UInt8} (h : c :: r <:+ t) (hs : s = c :: r) : r <:+ t ∧ t[scP t s]? = some c ∧ scP t r = scP t s + 1 ∧ scP t s < t.length := by
  subst hs
  obtain ⟨l, rfl⟩ := h
  refine ⟨⟨l ++ [c], by simp⟩, ?_, ?_, ?_⟩
  · unfold scP
    rw [show (l ++ c :: r).length - (c :: r).length = l.length by simp]
    simp
  · unfold scP; simp only [List.length_append, List.length_cons]; omega
  · unfold scP; simp only [List.length_append, List.length_cons]; omega
theorem suf_nil {t : List UInt8} : scP t [] = t.length := by unfold scP; simp
theorem suf_skip : ∀ {s t : List UInt8}, s <:+ t → skipC s <:+ t := by
  intro s t h
  exact (List.dropWhile_suffix _).trans h
def IsErr (e : AV) : Prop := ∃ q : Int, e = errV q
def ErrOk (e : AV) : Prop := e = .inil ∨ IsErr e
theorem cFail (w0 : World) (S : List Blk) (a : Nat) (t : List UInt8) (p : Int) (e : AV) (he : ErrOk e) (ha : S[a]? = some (.cells [.str t, .int .i64 p, e])) (R : AOut → List Blk → Prop)
    (h : ∀ q, R (.ret (.tup [])) (S.set a (.cells [.str t, .int .i64 p, errV q]))) : ACall Tryz.prog w0 46 [.own a 0] S R := by
  rcases he with rfl | ⟨q, rfl⟩
  · exact cFail0 w0 S a t p ha R (h p)
  · refine cFail1 w0 S a t p q ha R ?_
    have := h q
    rwa [set_self ha] at this
theorem err_lt {e : AV} (he : ErrOk e) (n : Nat) : e.lt n = true ∧ e.leaf = true ∧ e.plain = e.plain := by
  rcases he with rfl | ⟨q, rfl⟩
  · exact ⟨rfl, rfl, rfl⟩
  · exact ⟨rfl, rfl, rfl⟩
set_option maxHeartbeats 4000000 in
theorem cSkip (w0 : World) (S : List Blk) (a : Nat) (t s : List UInt8) (e : AV) (ht : t.length ≤ 10000000) (he : ErrOk e) (ha : S[a]? = some (.cells [.str t, .int .i64 (scP t s : Nat), e])) (hs : s <:+ t) (R : AOut → List Blk → Prop)
    (h : R (.ret (.bool (decide (skipC s = [])))) (S.set a (.cells [.str t, .int .i64 (scP t (skipC s) : Nat), e]))) : ACall Tryz.prog w0 62 [.own a 0] S R := by
  have hal := (List.getElem?_eq_some_iff.1 ha).1
  have hel := fun n => (err_lt he n).1
  refine enter Tryz.func62 rfl (by decide +kernel) (by rw [Tryz.ntmps62]; simp) (by rw [Tryz.ntmps62]; decide) (fun hO => ?_); rw [Tryz.ntmps62]
  repeat' first | apply x_seq | apply x_block | apply x_ops_nil | (apply x_region; simp only [List.toList_toArray]) | (apply x_step0; (· rfl); (· simp only [go_sem, *]; try rfl); (· rfl); simp only [putA]) | fail
  refine x_ind (fun (r : List UInt8) env S' => r <:+ t ∧ skipC r = skipC s ∧ env 1000000 = .dfr [] ∧ env 0 = .own a 0 ∧ S' = S.set a (.cells [.str t, .int .i64 (scP t r : Nat), e])) (fun r => r.length) s ?_ ?_
  · exact ⟨hs, rfl, by (simp only [go_sem, *]; try rfl), by (simp only [go_sem, *]; try rfl), by rw [set_self ha]⟩
  · rintro r env S' ⟨hr, hsk, e0, f0, rfl⟩ IH
    have HI := Lib.hid IH
    have H := Lib.hid h
    have Hsk := Lib.hid hsk
    clear IH h hsk ha hs
    have hg : (S.set a (.cells [.str t, .int .i64 (scP t r : Nat), e]))[a]? = some (.cells [.str t, .int .i64 (scP t r : Nat), e]) := by simp [hal]
    cases r with
    | nil =>
      rw [suf_nil] at hg ⊢
      have d1 : decide ((t.length : Int) < (t.length : Int)) = false := by simp
      have d2 : ((t.length : Int) == (t.length : Int)) = true := by simp
      obtain ⟨S2, hS2⟩ : ∃ S2, S.set a (.cells [.str t, .int .i64 (t.length : Nat), e]) = S2 := ⟨_, rfl⟩
      have hl2 : S2.length = S.length := by rw [← hS2]; simp
      have hO2 : OuterOk S2 := by
        rw [← hS2]
        exact OuterOk.set hO (by simp [Blk.ltB, ltL, AV.lt, hel])
      have h2 : R (.ret (.bool true)) S2 := by
        have := H.out
        rw [← Hsk.out] at this
        rw [← hS2]
        simpa [skipC, suf_nil] using this
      rw [hS2] at hg ⊢
      clear hS2 hr
      repeat' first | apply x_seq | apply x_exit | apply x_ret | apply p_exit_it | apply p_exit_hit | apply p_end | (apply x_condF; (· simp only [go_sem, *]; try rfl)) | (apply d_draw; (· exact mixed); (· simp only [List.size_toArray, List.length_cons, List.length_nil, Nat.reduceAdd]; try rfl)) | (apply d_done; (· decide +kernel)) | (apply a_0; (repeat (apply a_s; (· decide +kernel))); apply a_take; (· decide +kernel); (· first | exact qds_FPost | exact qds_RPost | exact qds_YB | assumption); (· rfl); (iterate 3 (· simp only [go_sem, *]; try rfl)); (· rfl); (· simp only [go_sem, *]; try rfl); simp only [putA]) | (apply a_0; (repeat (apply a_s; (· decide +kernel))); apply a_unw; (· decide +kernel); (· first | exact qds_FPost | exact qds_RPost | exact qds_YB | assumption); (· rfl); (iterate 2 (· simp only [go_sem, *]; try rfl)); (· rfl); simp only [putA]) | fail
      apply f_retO (S2 := S2) (L := [])
      · (simp only [go_sem, *]; try rfl)
      · (simp only [go_sem, *]; try rfl)
      · exact hl2
      · exact hO2
      · (simp only [go_sem, *, Tryz.results62]; try rfl)
      · (simp only [go_sem, *]; try rfl)
      · (simp only [go_sem, *]; try rfl)
      · exact h2
    | cons c r2 =>
      obtain ⟨q1, q2, q3, q4⟩ := suf_at hr rfl
      obtain ⟨q, hq⟩ : ∃ q, scP t (c :: r2) = q := ⟨_, rfl⟩
      rw [hq] at q2 q3 q4 hg ⊢
      have d1 : decide ((q : Int) < (t.length : Int)) = true := by simpa using q4
      have hqi : (q : Int) < (t.length : Int) := by omega
      obtain ⟨S2, hS2⟩ : ∃ S2, S.set a (.cells [.str t, .int .i64 (q : Nat), e]) = S2 := ⟨_, rfl⟩
      have hl2 : S2.length = S.length := by rw [← hS2]; simp
      by_cases hc : c = 32
      · subst hc
        have d3 : ((((32 : UInt8).toNat : Nat) : Int) == 32) = true := rfl
        have hw : IntKind.i64.wrap ((q : Int) + 1) = ↑q + 1 := IntWalk.i64_in _ (by omega)
        have Hq3 := Lib.hid q3
        have HS2 := Lib.hid hS2
        rw [hS2] at hg ⊢
        clear hS2 hr q3 q4 hq
        repeat' first | apply x_seq | apply x_skip | apply x_block | apply x_ops_nil | apply p_blk | (apply x_region; simp only [List.toList_toArray]) | (apply x_step0; (· rfl); (· simp only [go_sem, *]; try rfl); (· rfl); simp only [putA]) | (apply x_condT; (· simp only [go_sem, *]; try rfl)) | (apply d_draw; (· exact mixed); (· simp only [List.size_toArray, List.length_cons, List.length_nil, Nat.reduceAdd]; try rfl)) | (apply d_done; (· decide +kernel)) | (apply a_0; (repeat (apply a_s; (· decide +kernel))); apply a_take; (· decide +kernel); (· first | exact qds_FPost | exact qds_RPost | exact qds_YB | assumption); (· rfl); (iterate 3 (· simp only [go_sem, *]; try rfl)); (· rfl); (· simp only [go_sem, *]; try rfl); simp only [putA]) | fail
        refine HI.out r2 _ _ (by simp) ⟨q1, ?_, ?_, ?_, ?_⟩
        · rw [← Hsk.out]; rfl
        · (simp only [go_sem, *]; try rfl)
        · (simp only [go_sem, *]; try rfl)
        · rw [← HS2.out, List.set_set, Hq3.out]
          rfl
      · have d3 : ((c.toNat : Int) == 32) = false := by
          rw [beq_eq_false_iff_ne]
          intro hh
          exact hc (UInt8.toNat_inj.1 (by show c.toNat = 32; omega))
        have d2 : ((q : Int) == (t.length : Int)) = false := by rw [beq_eq_false_iff_ne]; omega
        have hO2 : OuterOk S2 := by
          rw [← hS2]
          exact OuterOk.set hO (by simp [Blk.ltB, ltL, AV.lt, hel])
        have hsc : skipC (c :: r2) = c :: r2 := by
          unfold skipC
          rw [List.dropWhile_cons, if_neg (by simpa using hc)]
        have h2 : R (.ret (.bool false)) S2 := by
          have := H.out
          rw [← Hsk.out, hsc, hq] at this
          rw [← hS2]
          simpa using this
        rw [hS2] at hg ⊢
        clear hS2 hr q3 q4 hq hsc hc
        repeat' first | apply x_seq | apply x_exit | apply x_ret | apply p_exit_it | apply p_exit_hit | apply p_end | (apply x_condF; (· simp only [go_sem, *]; try rfl)) | (apply d_draw; (· exact mixed); (· simp only [List.size_toArray, List.length_cons, List.length_nil, Nat.reduceAdd]; try rfl)) | (apply d_done; (· decide +kernel)) | (apply a_0; (repeat (apply a_s; (· decide +kernel))); apply a_take; (· decide +kernel); (· first | exact qds_FPost | exact qds_RPost | exact qds_YB | assumption); (· rfl); (iterate 3 (· simp only [go_sem, *]; try rfl)); (· rfl); (· simp only [go_sem, *]; try rfl); simp only [putA]) | fail
        apply f_retO (S2 := S2) (L := [])
        · (simp only [go_sem, *]; try rfl)
        · (simp only [go_sem, *]; try rfl)
        · exact hl2
        · exact hO2
        · (simp only [go_sem, *, Tryz.results62]; try rfl)
        · (simp only [go_sem, *]; try rfl)
        · (simp only [go_sem, *]; try rfl)
        · exact h2
end Go.Proofs.YtcobfilbmfokoaaGreatDoor
namespace Go.Proofs.YtcobfilbmfokoaaGreatDoor
open Go Go.Fen
set_option linter.unusedSimpArgs false
set_option linter.unusedVariables false
attribute [local irreducible] RunX WP ACall AnyP OpA ProtL
set_option maxRecDepth 8000
theorem idx_eq (s : List UInt8) : Lib.indexByte s 32 = if s.dropWhile (fun b => b != 32) = [] then -1 else ((s.takeWhile (fun b => b != 32)).length : Int) := by
  induction s with
  | nil => rfl
  | cons b l ih =>
    rw [Lib.indexByte, List.dropWhile_cons, List.takeWhile_cons]
    by_cases hb : b = 32
    · subst hb; simp
    · have h1 : (b == 32) = false := by simpa using hb
      have h2 : (b != 32) = true := by simpa using hb
      rw [h1, h2]
      simp only [Bool.false_eq_true, if_false, if_true]
      rw [ih]
      split
      · simp
      · rw [if_neg (by simp)]
        simp
theorem cIdx (w0 : World) (S : List Blk) (s : List UInt8) (R : AOut → List Blk → Prop) (h : R (.ret (.int .i64 (Lib.indexByte s 32))) S) : ACall Tryz.prog w0 70 [.str s, .int .u8 32] S R := by
  refine ACall.lib (vs := [.string ⟨s.toArray⟩, .int .u8 32]) (v := .int .i64 (Lib.indexByte s 32)) (c := .int .i64 (Lib.indexByte s 32)) (Go.Proofs.enters_of Tryz.func70 (by kernel_rfl) rfl) rfl rfl ?_ h
  intro w hb
  refine (Go.Proofs.Any.stringslite_IndexByte Go.Proofs.Tryz.lays217 ⟨s.toArray⟩ 32 w).mono ?_
  rintro e w' ⟨rfl, rfl⟩
  exact ⟨rfl, RowKit.Below.refl _ _⟩
theorem cIndex (w0 : World) (S : List Blk) (s : List UInt8) (R : AOut → List Blk → Prop) (h : R (.ret (.int .i64 (Lib.indexByte s 32))) S) : ACall Tryz.prog w0 56 [.str s, .str [32]] S R := by
  have hi := fun S' => cIdx w0 S' s
  by_cases hs : s = [32]
  · subst hs
    have h : R (.ret (.int .i64 0)) S := h
    clear hi
    refine enter Tryz.func56 rfl (by decide +kernel) (by rw [Tryz.ntmps56]; simp) (by rw [Tryz.ntmps56]; decide) (fun hO => ?_); rw [Tryz.ntmps56]
    repeat' first | apply x_seq | apply x_block | apply x_ret | apply x_ops_nil | apply p_ret_it | apply p_ret_blk | apply p_end | (apply x_region; simp only [List.toList_toArray]) | (apply x_step0; (· rfl); (· simp only [go_sem, *]; try rfl); (· rfl); simp only [putA]) | (apply x_step; (iterate 2 (· simp only [go_sem, *]; try rfl)); (· rfl); simp only [putA]) | (apply x_condT; (· simp only [go_sem, *]; try rfl)) | fail
    (apply f_ret; iterate 7 (· simp only [go_sem, *, Tryz.results56]; try rfl))
    exact h
  · have hne : (([32] : List UInt8) == s) = false := by
      rw [beq_eq_false_iff_ne]
      exact fun e => hs e.symm
    generalize Lib.indexByte s 32 = i at h hi
    clear hs
    refine enter Tryz.func56 rfl (by decide +kernel) (by rw [Tryz.ntmps56]; simp) (by rw [Tryz.ntmps56]; decide) (fun hO => ?_); rw [Tryz.ntmps56]
    repeat' first | apply x_seq | apply x_block | apply x_ret | apply x_ops_nil | apply p_ret_it | apply p_ret_blk | apply p_end | (apply x_region; simp only [List.toList_toArray]) | (apply x_step0; (· rfl); (· simp only [go_sem, *]; try rfl); (· rfl); simp only [putA]) | (apply x_callA []; (· simp only [go_sem, *]; try rfl); (· rfl); (· simp only [go_sem, *]; try rfl); (· rfl); (iterate 2 (· simp only [go_sem, *]; try rfl)); (first | apply hi); simp only [afterCall, putA]) | (apply x_step; (iterate 2 (· simp only [go_sem, *]; try rfl)); (· rfl); simp only [putA]) | (apply x_condT; (· simp only [go_sem, *]; try rfl)) | (apply x_condF; (· simp only [go_sem, *]; try rfl)) | fail
    (apply f_ret; iterate 7 (· simp only [go_sem, *, Tryz.results56]; try rfl))
    exact h
set_option maxHeartbeats 1000000 in
theorem cCut0 (w0 : World) (S : List Blk) (s : List UInt8) (hs : s.length ≤ 10000000) (R : AOut → List Blk → Prop) (h : ∀ x b, R (.ret (.tup [.str (s.takeWhile (fun b => b != 32)), .str x, .bool b])) S) : ACall Tryz.prog w0 39 [.str s, .str [32]] S R := by
  have hi := fun S' => cIndex w0 S' s
  have htd := List.takeWhile_append_dropWhile (p := fun b => b != 32) (l := s)
  rw [idx_eq] at hi
  by_cases hd : s.dropWhile (fun b => b != 32) = []
  · rw [if_pos hd] at hi
    rw [hd, List.append_nil] at htd
    rw [htd] at h
    have h := h [] false
    clear htd hd hs
    refine enter Tryz.func39 rfl (by decide +kernel) (by rw [Tryz.ntmps39]; simp) (by rw [Tryz.ntmps39]; decide) (fun hO => ?_); rw [Tryz.ntmps39]
    repeat' first | apply x_seq | apply x_skip | apply x_ret | apply x_ops_nil | apply p_end | (apply x_region; simp only [List.toList_toArray]) | (apply x_step0; (· rfl); (· simp only [go_sem, *]; try rfl); (· rfl); simp only [putA]) | (apply x_callA []; (· simp only [go_sem, *]; try rfl); (· rfl); (· simp only [go_sem, *]; try rfl); (· rfl); (iterate 2 (· simp only [go_sem, *]; try rfl)); (first | apply hi); simp only [afterCall, putA]) | (apply x_condF; (· simp only [go_sem, *]; try rfl)) | fail
    (apply f_ret; iterate 7 (· simp only [go_sem, *, Tryz.results39]; try rfl))
    exact h
  · rw [if_neg hd] at hi
    obtain ⟨W, hW⟩ : ∃ W, s.takeWhile (fun b => b != 32) = W := ⟨_, rfl⟩
    obtain ⟨D, hD⟩ : ∃ D, s.dropWhile (fun b => b != 32) = D := ⟨_, rfl⟩
    rw [hW] at hi h htd
    rw [hD] at hd htd
    have hdl : 0 < D.length := List.length_pos_iff.2 hd
    have hsl : s.length = W.length + D.length := by rw [← htd]; simp
    have d1 : decide ((0 : Int) ≤ (W.length : Int)) = true := by simp
    have hw : IntKind.i64.wrap ((W.length : Int) + ((1 : Nat) : Int)) = ((W.length + 1 : Nat) : Int) := by rw [IntWalk.i64_in _ (by omega)]; rfl
    have b1 : (W.length : Int) ≤ (s.length : Int) := by omega
    have b2 : ((W.length + 1 : Nat) : Int) ≤ (s.length : Int) := by omega
    have htk : List.take W.length s = W := by rw [← htd]; simp
    clear hD hW hd htd hsl hdl hs
    refine enter Tryz.func39 rfl (by decide +kernel) (by rw [Tryz.ntmps39]; simp) (by rw [Tryz.ntmps39]; decide) (fun hO => ?_); rw [Tryz.ntmps39]
    repeat' first | apply x_seq | apply x_ret | apply x_ops_nil | apply p_ret_it | apply p_end | (apply x_region; simp only [List.toList_toArray]) | (apply x_step0; (· rfl); (· simp only [go_sem, *]; try rfl); (· rfl); simp only [putA]) | (apply x_callA []; (· simp only [go_sem, *]; try rfl); (· rfl); (· simp only [go_sem, *]; try rfl); (· rfl); (iterate 2 (· simp only [go_sem, *]; try rfl)); (first | apply hi); simp only [afterCall, putA]) | (apply x_condT; (· simp only [go_sem, *]; try rfl)) | (apply d_draw; (· exact mixed); (· simp only [List.size_toArray, List.length_cons, List.length_nil, Nat.reduceAdd]; try rfl)) | (apply d_done; (· decide +kernel)) | (apply a_0; (repeat (apply a_s; (· decide +kernel))); apply a_take; (· decide +kernel); (· first | exact qds_FPost | exact qds_RPost | exact qds_YB | assumption); (· rfl); (iterate 3 (· simp only [go_sem, *]; try rfl)); (· rfl); (· simp only [go_sem, *]; try rfl); simp only [putA]) | fail
    all_goals (apply f_ret; iterate 7 (· simp only [go_sem, *, Tryz.results39]; try rfl))
    all_goals exact h _ _
theorem cCut (w0 : World) (S : List Blk) (s : List UInt8) (hs : s.length ≤ 10000000) (R : AOut → List Blk → Prop) (h : ∀ x b, R (.ret (.tup [.str (s.takeWhile (fun b => b != 32)), .str x, .bool b])) S) : ACall Tryz.prog w0 18 [.str s, .str [32]] S R := by
  have hi := fun S' => cCut0 w0 S' s hs
  generalize s.takeWhile (fun b => b != 32) = W at h hi
  clear hs
  refine enter Tryz.func18 rfl (by decide +kernel) (by rw [Tryz.ntmps18]; simp) (by rw [Tryz.ntmps18]; decide) (fun hO => ?_); rw [Tryz.ntmps18]
  repeat' first | apply x_seq | apply x_ops_nil | (apply x_region; simp only [List.toList_toArray]) | (apply x_step0; (· rfl); (· simp only [go_sem, *]; try rfl); (· rfl); simp only [putA]) | (apply x_callA []; (· simp only [go_sem, *]; try rfl); (· rfl); (· simp only [go_sem, *]; try rfl); (· rfl); (iterate 2 (· simp only [go_sem, *]; try rfl)); (first | apply hi); simp only [afterCall, putA]) | fail
  intro x b
  repeat' first | apply x_ret | apply x_ops_nil | apply p_end | (apply x_step0; (· rfl); (· simp only [go_sem, *]; try rfl); (· rfl); simp only [putA]) | fail
  (apply f_ret; iterate 7 (· simp only [go_sem, *, Tryz.results18]; try rfl))
  exact h x b
end Go.Proofs.YtcobfilbmfokoaaGreatDoor
namespace Go.Proofs.YtcobfilbmfokoaaGreatDoor
open Go Go.Fen
set_option linter.unusedSimpArgs false
set_option linter.unusedVariables false
attribute [local irreducible] RunX WP ACall AnyP OpA ProtL
set_option maxRecDepth 8000
theorem suf_drop {t s : List UInt8} (h : s <:+ t) : List.drop (scP t s) t = s := by
  obtain ⟨l, rfl⟩ := h
  unfold scP
  rw [show (l ++ s).length - s.length = l.length by simp]
  simp
theorem suf_le {t s : List UInt8} (h : s <:+ t) : s.length ≤ t.length := h.length_le
theorem suf_word {t s : List UInt8} (h : s <:+ t) : (wordC s).2 <:+ t ∧ scP t (skipC s) + (wordC s).1.length = scP t (wordC s).2 := by
  have h1 := suf_skip h
  have h2 := (List.dropWhile_suffix (fun b => b != 32) (l := skipC s)).trans h1
  refine ⟨h2, ?_⟩
  have e := congrArg List.length (List.takeWhile_append_dropWhile (p := fun b => b != 32) (l := skipC s))
  rw [List.length_append] at e
  have := suf_le h1
  unfold wordC scP
  simp only
  omega
set_option maxHeartbeats 4000000 in
theorem cWord (w0 : World) (S : List Blk) (a : Nat) (t s : List UInt8) (e : AV) (ht : t.length ≤ 10000000) (he : ErrOk e) (ha : S[a]? = some (.cells [.str t, .int .i64 (scP t s : Nat), e])) (hs : s <:+ t) (R : AOut → List Blk → Prop)
    (h : R (.ret (.str (wordC s).1)) (S.set a (.cells [.str t, .int .i64 (scP t (wordC s).2 : Nat), e]))) : ACall Tryz.prog w0 44 [.own a 0] S R := by
  have hal := (List.getElem?_eq_some_iff.1 ha).1
  have hel := fun n => (err_lt he n).1
  obtain ⟨S1, hS1⟩ : ∃ S1, S.set a (.cells [.str t, .int .i64 (scP t (skipC s) : Nat), e]) = S1 := ⟨_, rfl⟩
  have hsk : ∀ R : AOut → List Blk → Prop, R (.ret (.bool (decide (skipC s = [])))) S1 → ACall Tryz.prog w0 62 [.own a 0] S R := fun R hR => cSkip w0 S a t s e ht he ha hs R (by rw [hS1]; exact hR)
  have hg : S1[a]? = some (.cells [.str t, .int .i64 (scP t (skipC s) : Nat), e]) := by rw [← hS1]; simp [hal]
  have hl1 : S1.length = S.length := by rw [← hS1]; simp
  have h1 := suf_skip hs
  have hle := suf_le h1
  have hdr := suf_drop h1
  obtain ⟨hw1, hw2⟩ := suf_word hs
  have hle2 := suf_le hw1
  have hcu := fun S' => cCut w0 S' (skipC s) (by omega)
  have hwe : (skipC s).takeWhile (fun b => b != 32) = (wordC s).1 := rfl
  rw [hwe] at hcu
  have hq : scP t (skipC s) ≤ t.length := by unfold scP; omega
  have hq2 : scP t (wordC s).2 ≤ t.length := by unfold scP; omega
  obtain ⟨q, hqq⟩ : ∃ q, scP t (skipC s) = q := ⟨_, rfl⟩
  obtain ⟨q2, hqq2⟩ : ∃ q, scP t (wordC s).2 = q := ⟨_, rfl⟩
  obtain ⟨W, hW⟩ : ∃ W, (wordC s).1 = W := ⟨_, rfl⟩
  obtain ⟨Z, hZ⟩ : ∃ Z, skipC s = Z := ⟨_, rfl⟩
  rw [hqq, hZ] at hdr
  rw [hqq] at hg hq hw2
  rw [hqq2] at hq2 hw2 h
  rw [hW] at h hw2 hcu
  rw [hZ] at hcu
  have hqi : (q : Int) ≤ (t.length : Int) := by omega
  have hadd : IntKind.i64.wrap ((q : Int) + (W.length : Int)) = (q2 : Int) := by rw [IntWalk.i64_in _ (by omega)]; omega
  have htl : List.take t.length t = t := List.take_length
  have HS1 := Lib.hid hS1
  have Hel := Lib.hid hel
  have Hsk := Lib.hid hsk
  have Hcu := Lib.hid hcu
  clear hsk hS1 hel hcu h1 hle hw1 hle2 hwe hq hq2 hw2 hqq hqq2 hW hs he hZ ht
  refine enter Tryz.func44 rfl (by decide +kernel) (by rw [Tryz.ntmps44]; simp) (by rw [Tryz.ntmps44]; decide) (fun hO => ?_); rw [Tryz.ntmps44]
  have hO2 : ∀ x : Int, OuterOk (S1.set a (.cells [.str t, .int .i64 x, e])) := fun x => by
    rw [← HS1.out, List.set_set]
    exact OuterOk.set hO (by simp [Blk.ltB, ltL, AV.lt, Hel.out])
  repeat' first | apply x_seq | apply x_ops_nil | (apply x_region; simp only [List.toList_toArray]) | (apply x_step0; (· rfl); (· simp only [go_sem, *]; try rfl); (· rfl); simp only [putA]) | (apply x_callA []; (· simp only [go_sem, *]; try rfl); (· rfl); (· simp only [go_sem, *]; try rfl); (· rfl); (iterate 2 (· simp only [go_sem, *]; try rfl)); (first | apply Hsk.out | apply Hcu.out); simp only [afterCall, putA]) | (apply d_draw; (· exact mixed); (· simp only [List.size_toArray, List.length_cons, List.length_nil, Nat.reduceAdd]; try rfl)) | (apply d_done; (· decide +kernel)) | (apply a_0; (repeat (apply a_s; (· decide +kernel))); apply a_take; (· decide +kernel); (· first | exact qds_FPost | exact qds_RPost | exact qds_YB | assumption); (· rfl); (iterate 3 (· simp only [go_sem, *]; try rfl)); (· rfl); (· simp only [go_sem, *]; try rfl); simp only [putA]) | fail
  intro x b
  repeat' first | apply x_seq | apply x_ret | apply x_ops_nil | apply p_end | (apply x_region; simp only [List.toList_toArray]) | (apply x_step0; (· rfl); (· simp only [go_sem, *]; try rfl); (· rfl); simp only [putA]) | fail
  apply f_retO (S2 := S1.set a (.cells [.str t, .int .i64 (q2 : Int), e])) (L := [])
  · (simp only [go_sem, *]; try rfl)
  · (simp only [go_sem, *]; try rfl)
  · simp [hl1]
  · exact hO2 _
  · (simp only [go_sem, *, Tryz.results44]; try rfl)
  · (simp only [go_sem, *]; try rfl)
  · (simp only [go_sem, *]; try rfl)
  · rw [← HS1.out, List.set_set]
    exact h
end Go.Proofs.YtcobfilbmfokoaaGreatDoor
namespace Go.Proofs.YtcobfilbmfokoaaGreatDoor
open Go Go.Fen
set_option linter.unusedSimpArgs false
set_option linter.unusedVariables false
attribute [local irreducible] RunX WP ACall AnyP OpA ProtL
set_option maxRecDepth 8000
theorem outSet {S : List Blk} (hO : OuterOk S) {a : Nat} {t : List UInt8} {x : Int} {e : AV} (he : ErrOk e) : OuterOk (S.set a (.cells [.str t, .int .i64 x, e])) :=
  OuterOk.set hO (by simp [Blk.ltB, ltL, AV.lt, (err_lt he _).1])
theorem errOk_v (q : Int) : ErrOk (errV q) := .inr ⟨q, rfl⟩
set_option maxHeartbeats 4000000 in
theorem cByte1 (w0 : World) (S : List Blk) (a : Nat) (t r : List UInt8) (c : UInt8) (e : AV) (ht : t.length ≤ 10000000) (he : ErrOk e) (ha : S[a]? = some (.cells [.str t, .int .i64 (scP t (c :: r) : Nat), e])) (hs : c :: r <:+ t) (R : AOut → List Blk → Prop)
    (h : R (.ret (.int .u8 (c.toNat : Nat))) (S.set a (.cells [.str t, .int .i64 (scP t r : Nat), e]))) : ACall Tryz.prog w0 85 [.own a 0] S R := by
  have hal := (List.getElem?_eq_some_iff.1 ha).1
  obtain ⟨q1, q2, q3, q4⟩ := suf_at hs rfl
  obtain ⟨q, hq⟩ : ∃ q, scP t (c :: r) = q := ⟨_, rfl⟩
  rw [hq] at ha q2 q3 q4
  rw [q3] at h
  have d1 : ((q : Int) == (t.length : Int)) = false := by rw [beq_eq_false_iff_ne]; omega
  have hw : IntKind.i64.wrap ((q : Int) + 1) = ((q + 1 : Nat) : Int) := by rw [IntWalk.i64_in _ (by omega)]; rfl
  have hw2 : IntKind.i64.wrap (((q + 1 : Nat) : Int) - 1) = (q : Int) := by rw [IntWalk.i64_in _ (by omega)]; omega
  have hqi : (q : Int) < (t.length : Int) := by omega
  have hgs : ∀ x, (S.set a (.cells [.str t, .int .i64 x, e]))[a]? = some (.cells [.str t, .int .i64 x, e]) := fun x => by simp [hal]
  have He := Lib.hid he
  clear hq hs q1 q3 q4 ht he
  refine enter Tryz.func85 rfl (by decide +kernel) (by rw [Tryz.ntmps85]; simp) (by rw [Tryz.ntmps85]; decide) (fun hO => ?_); rw [Tryz.ntmps85]
  repeat' first | apply x_seq | apply x_skip | apply x_ret | apply x_ops_nil | apply p_end | (apply x_region; simp only [List.toList_toArray]) | (apply x_step0; (· rfl); (· simp only [go_sem, *]; try rfl); (· rfl); simp only [putA]) | (apply x_condF; (· simp only [go_sem, *]; try rfl)) | (apply d_draw; (· exact mixed); (· simp only [List.size_toArray, List.length_cons, List.length_nil, Nat.reduceAdd]; try rfl)) | (apply d_done; (· decide +kernel)) | (apply a_0; (repeat (apply a_s; (· decide +kernel))); apply a_take; (· decide +kernel); (· first | exact qds_FPost | exact qds_RPost | exact qds_YB | assumption); (· rfl); (iterate 3 (· simp only [go_sem, *]; try rfl)); (· rfl); (· simp only [go_sem, *]; try rfl); simp only [putA]) | fail
  apply f_retO (S2 := S.set a (.cells [.str t, .int .i64 ((q + 1 : Nat) : Int), e])) (L := [])
  · (simp only [go_sem, *]; try rfl)
  · (simp only [go_sem, *]; try rfl)
  · simp
  · exact outSet hO He.out
  · (simp only [go_sem, *, Tryz.results85]; try rfl)
  · (simp only [go_sem, *]; try rfl)
  · (simp only [go_sem, *]; try rfl)
  · exact h
set_option maxHeartbeats 4000000 in
theorem cByte0 (w0 : World) (S : List Blk) (a : Nat) (t : List UInt8) (e : AV) (he : ErrOk e) (ha : S[a]? = some (.cells [.str t, .int .i64 (scP t [] : Nat), e])) (R : AOut → List Blk → Prop)
    (h : ∀ q, R (.ret (.int .u8 0)) (S.set a (.cells [.str t, .int .i64 (scP t [] : Nat), errV q]))) : ACall Tryz.prog w0 85 [.own a 0] S R := by
  rw [suf_nil] at ha h
  have hf := cFail w0 S a t t.length e he ha
  have d1 : ((t.length : Int) == (t.length : Int)) = true := by simp
  have Hf := Lib.hid hf
  clear hf he
  refine enter Tryz.func85 rfl (by decide +kernel) (by rw [Tryz.ntmps85]; simp) (by rw [Tryz.ntmps85]; decide) (fun hO => ?_); rw [Tryz.ntmps85]
  repeat' first | apply x_seq | apply x_ops_nil | (apply x_region; simp only [List.toList_toArray]) | (apply x_step0; (· rfl); (· simp only [go_sem, *]; try rfl); (· rfl); simp only [putA]) | (apply x_callA []; (· simp only [go_sem, *]; try rfl); (· rfl); (· simp only [go_sem, *]; try rfl); (· rfl); (iterate 2 (· simp only [go_sem, *]; try rfl)); (first | apply Hf.out); simp only [afterCall, putA]) | (apply x_condT; (· simp only [go_sem, *]; try rfl)) | (apply d_draw; (· exact mixed); (· simp only [List.size_toArray, List.length_cons, List.length_nil, Nat.reduceAdd]; try rfl)) | (apply d_done; (· decide +kernel)) | (apply a_0; (repeat (apply a_s; (· decide +kernel))); apply a_take; (· decide +kernel); (· first | exact qds_FPost | exact qds_RPost | exact qds_YB | assumption); (· rfl); (iterate 3 (· simp only [go_sem, *]; try rfl)); (· rfl); (· simp only [go_sem, *]; try rfl); simp only [putA]) | fail
  intro q
  repeat' first | apply x_seq | apply x_ret | apply x_ops_nil | apply p_ret_it | apply p_end | (apply x_region; simp only [List.toList_toArray]) | (apply x_step0; (· rfl); (· simp only [go_sem, *]; try rfl); (· rfl); simp only [putA]) | fail
  apply f_retO (S2 := S.set a (.cells [.str t, .int .i64 (t.length : Int), errV q])) (L := [])
  · (simp only [go_sem, *]; try rfl)
  · (simp only [go_sem, *]; try rfl)
  · simp
  · exact outSet hO (errOk_v q)
  · (simp only [go_sem, *, Tryz.results85]; try rfl)
  · (simp only [go_sem, *]; try rfl)
  · (simp only [go_sem, *]; try rfl)
  · exact h q
end Go.Proofs.YtcobfilbmfokoaaGreatDoor
namespace Go.Proofs.YtcobfilbmfokoaaGreatDoor
open Go Go.Fen
set_option linter.unusedSimpArgs false
set_option linter.unusedVariables false
attribute [local irreducible] RunX WP ACall AnyP OpA ProtL
set_option maxRecDepth 8000
theorem ACall.libV {P : Program} {w0 : World} {S : List Blk} {f : FuncId} {args : List AV} {vs : List Value} {v : AV} {c : Value} {R : AOut → List Blk → Prop} (he : ∀ (a : Array Value) (w : World), (callFunc f a).run P w = .ok (.enter f a) w) (ha : args.map cvA = vs.map some)
    (hv : ∀ ι ψ, VR ι ψ v c) (h : ∀ w, RowKit.Below w0.heap.size w0 w → Calls P f vs.toArray w fun e w' => e = .returned c ∧ RowKit.Below w.heap.size w w') (hR : R (.ret v) S) : ACall P w0 f args S R := by
  unfold ACall
  refine ⟨he, fun ι ψ w cargs hRel hl hargs => ?_⟩
  have hlen : args.length = vs.length := by simpa using congrArg List.length ha
  have : cargs = vs.toArray := by
    apply Array.ext_getElem?
    intro j
    by_cases hj : j < args.length
    · have h1 : args[j]? = some args[j] := List.getElem?_eq_getElem hj
      have h2 : cargs[j]? = some cargs[j] := Array.getElem?_eq_getElem (by omega)
      have h3 : vs[j]? = some vs[j] := List.getElem?_eq_getElem (by omega)
      have h4 := hargs j _ _ h1 h2
      have h5 : (args.map cvA)[j]? = (vs.map some)[j]? := by rw [ha]
      simp only [List.getElem?_map, h1, h3, Option.map_some, Option.some.injEq] at h5
      rw [h2]
      simp only [List.getElem?_toArray, h3]
      rw [cvA_sound h4 h5]
    · rw [Array.getElem?_eq_none (by omega), List.getElem?_toArray, List.getElem?_eq_none (by omega)]
  subst this
  refine (h w hRel.below).mono ?_
  rintro e w' ⟨rfl, hb⟩
  have hb0 : RowKit.Below w0.heap.size w w' := hb.mono hRel.n0
  exact ⟨ι, ψ, .ret v, S, Ext.refl _ _, hRel.grow hb0 (fun k hk => hb.block k hk) (Psi.le_refl _) (fun _ _ _ e => .inl e) (fun _ _ _ e => .inl e), hv _ _, hR⟩
def digs : List UInt8 := [48, 49, 50, 51, 52, 53, 54, 55, 56, 57]
theorem dig_iff (b : UInt8) : digs.contains b = digC b := by
  have : ∀ n, n < 256 → digs.contains (UInt8.ofNat n) = digC (UInt8.ofNat n) := by decide +kernel
  have h := this b.toNat b.toNat_lt
  rwa [UInt8.ofNat_toNat] at h
theorem drop_nil {α : Type _} (p : α → Bool) (l : List α) : l.dropWhile p = [] ↔ l.all p = true := by
  induction l with
  | nil => simp
  | cons b l ih =>
    rw [List.dropWhile_cons, List.all_cons]
    cases hb : p b with
    | true => simp [ih]
    | false => simp
theorem trim_nil (w : List UInt8) : Lib.trimS w digs = [] ↔ w.all digC = true := by
  have e : (fun b => digs.contains b) = digC := by funext b; exact dig_iff b
  unfold Lib.trimS Lib.trimLeftS Lib.trimRightS
  rw [drop_nil, e, List.all_reverse]
  constructor
  · intro h
    have h2 : (w.reverse.dropWhile digC) = [] := by
      cases hd : w.reverse.dropWhile digC with
      | nil => rfl
      | cons b r =>
        rw [hd, List.all_cons, Bool.and_eq_true] at h
        have := List.head_dropWhile_not digC (l := w.reverse) (by rw [hd]; simp)
        simp only [hd, List.head_cons] at this
        rw [h.1] at this; cases this
    rw [drop_nil, List.all_reverse] at h2
    exact h2
  · intro h
    have : w.reverse.dropWhile digC = [] := by rw [drop_nil, List.all_reverse]; exact h
    rw [this]; rfl
theorem cTrim (w0 : World) (S : List Blk) (s : List UInt8) (hs : s.length ≤ 10000000) (R : AOut → List Blk → Prop) (h : R (.ret (.str (Lib.trimS s digs))) S) : ACall Tryz.prog w0 83 [.str s, .str [48, 49, 50, 51, 52, 53, 54, 55, 56, 57]] S R := by
  refine ACall.lib (vs := [.string ⟨s.toArray⟩, .string ⟨#[48, 49, 50, 51, 52, 53, 54, 55, 56, 57]⟩]) (v := .str (Lib.trimS s digs)) (c := .string ⟨(Lib.trimS s digs).toArray⟩) (Go.Proofs.enters_of Tryz.func83 (by kernel_rfl) rfl) rfl rfl ?_ h
  intro w hb
  refine (Go.Proofs.Any.strings_Trim_laid Go.Proofs.Tryz.lays160 (by kernel_rfl) ⟨s.toArray⟩ ⟨#[48, 49, 50, 51, 52, 53, 54, 55, 56, 57]⟩ w ?_ (by decide) ?_).mono ?_
  · rw [show (⟨s.toArray⟩ : ByteArray).size = s.length from rfl]; omega
  · intro j b hj
    have := List.mem_of_getElem? hj
    simp at this
    rcases this with rfl | rfl | rfl | rfl | rfl | rfl | rfl | rfl | rfl | rfl <;> decide
  · rintro e w' ⟨rfl, hb⟩
    exact ⟨rfl, hb⟩
theorem atoi (w0 : World) (S : List Blk) (s : List UInt8) (n : Int) (hl : s.length ≤ 18) (hn : Lib.atoi s = some n) (R : AOut → List Blk → Prop) (h : R (.ret (.tup [.int .i64 n, .inil])) S) : ACall Tryz.prog w0 84 [.str s] S R := by
  refine ACall.libV (vs := [.string ⟨s.toArray⟩]) (v := .tup [.int .i64 n, .inil]) (c := .tuple #[.int .i64 n, .nilIface]) (Go.Proofs.enters_of Tryz.func84 (by kernel_rfl) rfl) rfl ?_ ?_ h
  · intro ι ψ
    refine .tup _ _ rfl ?_
    rintro (_ | _ | j) x v h1 h2
    · cases h1; cases h2; exact .int _ _
    · cases h1; cases h2; exact .inil
    · simp at h1
  · intro w hb
    refine (Go.Proofs.Any.strconv_Atoi Go.Proofs.Tryz.lays172 ⟨s.toArray⟩ n hl hn w).mono ?_
    rintro e w' ⟨rfl, t, rfl⟩
    exact ⟨rfl, Lib.bytesWorld_below w _ t⟩
theorem dec_fold : ∀ (l : List UInt8) (acc : Nat), l.all digC = true → ∃ m : Nat, Lib.decFrom acc l = some m ∧ (m : Int) = l.foldl (fun n b => n * 10 + ((b.toNat : Int) - 48)) (acc : Int)
  | [], acc, _ => ⟨acc, rfl, rfl⟩
  | b :: l, acc, h => by
    rw [List.all_cons, Bool.and_eq_true] at h
    have hb := h.1
    simp only [digC, Bool.and_eq_true, decide_eq_true_eq] at hb
    obtain ⟨m, h1, h2⟩ := dec_fold l (acc * 10 + (b.toNat - 48)) h.2
    refine ⟨m, by simp [Lib.decFrom, Lib.digitVal, hb, h1], ?_⟩
    rw [h2, List.foldl_cons]
    congr 1
    omega
theorem num_atoi {w : List UInt8} {n : Int} (h : numC w = some n) : w ≠ [] ∧ w.length ≤ 3 ∧ w.all digC = true ∧ Lib.atoi w = some n := by
  unfold numC at h
  split at h
  · cases h
  · next hc =>
    have h1 : w ≠ [] := fun e => hc (.inl e)
    have h2 : ¬ 3 < w.length := fun e => hc (.inr (.inl e))
    have h3 : w.all digC = true := by
      cases hh : w.all digC with
      | true => rfl
      | false => exact absurd (.inr (.inr hh)) hc
    refine ⟨h1, by omega, h3, ?_⟩
    cases w with
    | nil => exact absurd rfl h1
    | cons b r =>
      obtain ⟨m, e1, e2⟩ := dec_fold (b :: r) 0 h3
      have hb := h3
      rw [List.all_cons, Bool.and_eq_true] at hb
      have hb := hb.1
      simp only [digC, Bool.and_eq_true, decide_eq_true_eq] at hb
      have n1 : (b == 45) = false := by rw [beq_eq_false_iff_ne]; rintro rfl; exact absurd hb.1 (by decide)
      have n2 : (b == 43) = false := by rw [beq_eq_false_iff_ne]; rintro rfl; exact absurd hb.1 (by decide)
      rw [Lib.atoi, n1, n2]
      simp only [Bool.false_eq_true, if_false, Lib.decNat, List.isEmpty_cons, e1, Option.map_some]
      rw [e2]
      exact h
set_option maxHeartbeats 4000000 in
theorem cNumber (w0 : World) (S : List Blk) (a : Nat) (t s : List UInt8) (e : AV) (ht : t.length ≤ 10000000) (he : ErrOk e) (ha : S[a]? = some (.cells [.str t, .int .i64 (scP t s : Nat), e])) (hs : s <:+ t) (R : AOut → List Blk → Prop)
    (h1 : ∀ n, numC (wordC s).1 = some n → R (.ret (.int .i64 n)) (S.set a (.cells [.str t, .int .i64 (scP t (wordC s).2 : Nat), e])))
    (h0 : numC (wordC s).1 = none → ∀ q, R (.ret (.int .i64 0)) (S.set a (.cells [.str t, .int .i64 (scP t (wordC s).2 : Nat), errV q]))) : ACall Tryz.prog w0 63 [.own a 0] S R := by
  have hal := (List.getElem?_eq_some_iff.1 ha).1
  obtain ⟨S1, hS1⟩ : ∃ S1, S.set a (.cells [.str t, .int .i64 (scP t (wordC s).2 : Nat), e]) = S1 := ⟨_, rfl⟩
  have hwo : ∀ R : AOut → List Blk → Prop, R (.ret (.str (wordC s).1)) S1 → ACall Tryz.prog w0 44 [.own a 0] S R := fun R hR => cWord w0 S a t s e ht he ha hs R (by rw [hS1]; exact hR)
  have hg : S1[a]? = some (.cells [.str t, .int .i64 (scP t (wordC s).2 : Nat), e]) := by rw [← hS1]; simp [hal]
  have hl1 : S1.length = S.length := by rw [← hS1]; simp
  have hwl : (wordC s).1.length ≤ t.length := by
    have h2 := (List.takeWhile_prefix (fun b => b != 32) (l := skipC s)).length_le
    have := suf_le (suf_skip hs)
    unfold wordC; simp only; omega
  have htr := fun S' => cTrim w0 S' (wordC s).1 (by omega)
  have hfa := cFail w0 S1 a t (scP t (wordC s).2 : Nat) e he hg
  have hss : ∀ B, S1.set a B = S.set a B := fun B => by rw [← hS1, List.set_set]
  rw [hS1] at h1
  cases hn : numC (wordC s).1 with
  | some n =>
    obtain ⟨n1, n2, n3, n4⟩ := num_atoi hn
    have h := h1 n hn
    have hat := fun S' => atoi w0 S' (wordC s).1 n (by omega) n4
    have htn := (trim_nil (wordC s).1).2 n3
    rw [htn] at htr
    obtain ⟨W, hW⟩ : ∃ W, (wordC s).1 = W := ⟨_, rfl⟩
    rw [hW] at hwo htr hat n1 n2
    have d1 : (W == []) = false := by simpa using n1
    have d2 : decide ((3 : Int) < (W.length : Int)) = false := by simp; omega
    have HO2 : OuterOk S → OuterOk S1 := fun hO => by rw [← hS1]; exact outSet hO he
    have Hwo := Lib.hid hwo
    clear h0 h1 hfa hss n1 n2 n3 n4 htn hW hwl hS1 hs he ht hwo hn
    refine enter Tryz.func63 rfl (by decide +kernel) (by rw [Tryz.ntmps63]; simp) (by rw [Tryz.ntmps63]; decide) (fun hO => ?_); rw [Tryz.ntmps63]
    repeat' first | apply x_seq | apply x_skip | apply x_ret | apply x_ops_nil | apply p_end | (apply x_region; simp only [List.toList_toArray]) | (apply x_step0; (· rfl); (· simp only [go_sem, *]; try rfl); (· rfl); simp only [putA]) | (apply x_callA []; (· simp only [go_sem, *]; try rfl); (· rfl); (· simp only [go_sem, *]; try rfl); (· rfl); (iterate 2 (· simp only [go_sem, *]; try rfl)); (first | apply Hwo.out | apply htr | apply hat); simp only [afterCall, putA]) | (apply x_step; (iterate 2 (· simp only [go_sem, *]; try rfl)); (· rfl); simp only [putA]) | (apply x_condF; (· simp only [go_sem, *]; try rfl)) | fail
    apply f_retO (S2 := S1) (L := [])
    · (simp only [go_sem, *]; try rfl)
    · (simp only [go_sem, *]; try rfl)
    · exact hl1
    · exact HO2 hO
    · (simp only [go_sem, *, Tryz.results63]; try rfl)
    · (simp only [go_sem, *]; try rfl)
    · (simp only [go_sem, *]; try rfl)
    · exact h
  | none =>
    have h := h0 hn
    have hbad : (wordC s).1 = [] ∨ 3 < (wordC s).1.length ∨ (wordC s).1.all digC = false := by
      unfold numC at hn
      split at hn
      · next hh => exact hh
      · cases hn
    obtain ⟨W, hW⟩ : ∃ W, (wordC s).1 = W := ⟨_, rfl⟩
    rw [hW] at hwo htr hbad
    have HO2 : OuterOk S → ∀ q, OuterOk (S.set a (.cells [.str t, .int .i64 (scP t (wordC s).2 : Nat), errV q])) := fun hO q => outSet hO (errOk_v q)
    have Hwo := Lib.hid hwo
    have Hfa := Lib.hid hfa
    have Hss := Lib.hid hss
    have Hbad := Lib.hid hbad
    clear h0 h1 hfa hss hW hwl hS1 hs he ht hwo hn hbad
    by_cases c1 : W = []
    · have d1 : (W == []) = true := by simpa using c1
      clear c1
      refine enter Tryz.func63 rfl (by decide +kernel) (by rw [Tryz.ntmps63]; simp) (by rw [Tryz.ntmps63]; decide) (fun hO => ?_); rw [Tryz.ntmps63]
      repeat' first | apply x_seq | apply x_ops_nil | (apply x_region; simp only [List.toList_toArray]) | (apply x_step0; (· rfl); (· simp only [go_sem, *]; try rfl); (· rfl); simp only [putA]) | (apply x_callA []; (· simp only [go_sem, *]; try rfl); (· rfl); (· simp only [go_sem, *]; try rfl); (· rfl); (iterate 2 (· simp only [go_sem, *]; try rfl)); (first | apply Hwo.out | apply htr | apply Hfa.out); simp only [afterCall, putA]) | (apply x_unwanted; (· simp only [go_sem, *]; try rfl); (· rfl); simp only [putA]) | (apply x_condT; (· simp only [go_sem, *]; try rfl)) | fail
      intro q
      rw [Hss.out]
      repeat' first | apply x_seq | apply x_ret | apply x_ops_nil | apply p_ret_it | apply p_end | (apply x_region; simp only [List.toList_toArray]) | (apply x_step0; (· rfl); (· simp only [go_sem, *]; try rfl); (· rfl); simp only [putA]) | fail
      apply f_retO (S2 := S.set a (.cells [.str t, .int .i64 (scP t (wordC s).2 : Nat), errV q])) (L := [])
      · (simp only [go_sem, *]; try rfl)
      · (simp only [go_sem, *]; try rfl)
      · simp
      · exact HO2 hO q
      · (simp only [go_sem, *, Tryz.results63]; try rfl)
      · (simp only [go_sem, *]; try rfl)
      · (simp only [go_sem, *]; try rfl)
      · exact h q
    have d1 : (W == []) = false := by simpa using c1
    by_cases c2 : 3 < W.length
    · have d2 : decide ((3 : Int) < (W.length : Int)) = true := by simp; omega
      clear c1 c2
      refine enter Tryz.func63 rfl (by decide +kernel) (by rw [Tryz.ntmps63]; simp) (by rw [Tryz.ntmps63]; decide) (fun hO => ?_); rw [Tryz.ntmps63]
      repeat' first | apply x_seq | apply x_ops_nil | (apply x_region; simp only [List.toList_toArray]) | (apply x_step0; (· rfl); (· simp only [go_sem, *]; try rfl); (· rfl); simp only [putA]) | (apply x_callA []; (· simp only [go_sem, *]; try rfl); (· rfl); (· simp only [go_sem, *]; try rfl); (· rfl); (iterate 2 (· simp only [go_sem, *]; try rfl)); (first | apply Hwo.out | apply htr | apply Hfa.out); simp only [afterCall, putA]) | (apply x_step; (iterate 2 (· simp only [go_sem, *]; try rfl)); (· rfl); simp only [putA]) | (apply x_unwanted; (· simp only [go_sem, *]; try rfl); (· rfl); simp only [putA]) | (apply x_condT; (· simp only [go_sem, *]; try rfl)) | fail
      intro q
      rw [Hss.out]
      repeat' first | apply x_seq | apply x_ret | apply x_ops_nil | apply p_ret_it | apply p_end | (apply x_region; simp only [List.toList_toArray]) | (apply x_step0; (· rfl); (· simp only [go_sem, *]; try rfl); (· rfl); simp only [putA]) | fail
      apply f_retO (S2 := S.set a (.cells [.str t, .int .i64 (scP t (wordC s).2 : Nat), errV q])) (L := [])
      · (simp only [go_sem, *]; try rfl)
      · (simp only [go_sem, *]; try rfl)
      · simp
      · exact HO2 hO q
      · (simp only [go_sem, *, Tryz.results63]; try rfl)
      · (simp only [go_sem, *]; try rfl)
      · (simp only [go_sem, *]; try rfl)
      · exact h q
    have d2 : decide ((3 : Int) < (W.length : Int)) = false := by simp; omega
    have c3 : Lib.trimS W digs ≠ [] := fun e => by
      have := (trim_nil W).1 e
      rcases Hbad.out with b | b | b
      · exact c1 b
      · exact c2 b
      · rw [this] at b; cases b
    obtain ⟨X, hX⟩ : ∃ X, Lib.trimS W digs = X := ⟨_, rfl⟩
    rw [hX] at c3 htr
    have d3 : (X != []) = true := by simpa using c3
    have d4 : (X == []) = false := by simpa using c3
    clear c1 c2 c3 hX
    refine enter Tryz.func63 rfl (by decide +kernel) (by rw [Tryz.ntmps63]; simp) (by rw [Tryz.ntmps63]; decide) (fun hO => ?_); rw [Tryz.ntmps63]
    repeat' first | apply x_seq | apply x_ops_nil | (apply x_region; simp only [List.toList_toArray]) | (apply x_step0; (· rfl); (· simp only [go_sem, *]; try rfl); (· rfl); simp only [putA]) | (apply x_callA []; (· simp only [go_sem, *]; try rfl); (· rfl); (· simp only [go_sem, *]; try rfl); (· rfl); (iterate 2 (· simp only [go_sem, *]; try rfl)); (first | apply Hwo.out | apply htr | apply Hfa.out); simp only [afterCall, putA]) | (apply x_step; (iterate 2 (· simp only [go_sem, *]; try rfl)); (· rfl); simp only [putA]) | (apply x_condT; (· simp only [go_sem, *]; try rfl)) | fail
    intro q
    rw [Hss.out]
    repeat' first | apply x_seq | apply x_ret | apply x_ops_nil | apply p_ret_it | apply p_end | (apply x_region; simp only [List.toList_toArray]) | (apply x_step0; (· rfl); (· simp only [go_sem, *]; try rfl); (· rfl); simp only [putA]) | fail
    apply f_retO (S2 := S.set a (.cells [.str t, .int .i64 (scP t (wordC s).2 : Nat), errV q])) (L := [])
    · (simp only [go_sem, *]; try rfl)
    · (simp only [go_sem, *]; try rfl)
    · simp
    · exact HO2 hO q
    · (simp only [go_sem, *, Tryz.results63]; try rfl)
    · (simp only [go_sem, *]; try rfl)
    · (simp only [go_sem, *]; try rfl)
    · exact h q
end Go.Proofs.YtcobfilbmfokoaaGreatDoor
namespace Go.Proofs.YtcobfilbmfokoaaGreatDoor
open Go Go.Fen
set_option linter.unusedSimpArgs false
set_option linter.unusedVariables false
attribute [local irreducible] RunX WP ACall AnyP OpA ProtL
set_option maxRecDepth 8000
section
variable (w0 : World) (S : List Blk) (a : Nat) (t : List UInt8)
theorem byte1' (r : List UInt8) (c : UInt8) (e : AV) (ht : t.length ≤ 10000000) (he : ErrOk e) (hal : a < S.length) (hs : c :: r <:+ t) (R : AOut → List Blk → Prop) (h : R (.ret (.int .u8 (c.toNat : Nat))) (S.set a (.cells [.str t, .int .i64 (scP t r : Nat), e]))) :
    ACall Tryz.prog w0 85 [.own a 0] (S.set a (.cells [.str t, .int .i64 (scP t (c :: r) : Nat), e])) R :=
  cByte1 w0 _ a t r c e ht he (by simp [hal]) hs R (by rw [List.set_set]; exact h)
theorem byte0' (e : AV) (he : ErrOk e) (hal : a < S.length) (R : AOut → List Blk → Prop) (h : ∀ q, R (.ret (.int .u8 0)) (S.set a (.cells [.str t, .int .i64 (scP t [] : Nat), errV q]))) :
    ACall Tryz.prog w0 85 [.own a 0] (S.set a (.cells [.str t, .int .i64 (scP t [] : Nat), e])) R :=
  cByte0 w0 _ a t e he (by simp [hal]) R (fun q => by rw [List.set_set]; exact h q)
theorem fail' (p : Int) (e : AV) (he : ErrOk e) (hal : a < S.length) (L : List Blk) (R : AOut → List Blk → Prop) (h : ∀ q, R (.ret (.tup [])) (S.set a (.cells [.str t, .int .i64 p, errV q]) ++ L)) :
    ACall Tryz.prog w0 46 [.own a 0] (S.set a (.cells [.str t, .int .i64 p, e]) ++ L) R := by
  refine cFail w0 _ a t p e he ?_ R (fun q => ?_)
  · rw [List.getElem?_append_left (by simpa using hal)]; simp [hal]
  · rw [List.set_append_left _ _ (by simpa using hal), List.set_set]; exact h q
theorem fail0' (p : Int) (e : AV) (he : ErrOk e) (hal : a < S.length) (R : AOut → List Blk → Prop) (h : ∀ q, R (.ret (.tup [])) (S.set a (.cells [.str t, .int .i64 p, errV q]))) :
    ACall Tryz.prog w0 46 [.own a 0] (S.set a (.cells [.str t, .int .i64 p, e])) R := by
  have := fail' w0 S a t p e he hal [] R (by simpa using h)
  simpa using this
end
theorem outSet2 {S : List Blk} {a : Nat} {t : List UInt8} {x y : Int} {e' e2 : AV} (hO : OuterOk (S.set a (.cells [.str t, .int .i64 y, e2]))) (he' : ErrOk e') : OuterOk (S.set a (.cells [.str t, .int .i64 x, e'])) := by
  have := OuterOk.set (a := a) (B := .cells [.str t, .int .i64 x, e']) hO (by simp [Blk.ltB, ltL, AV.lt, (err_lt he' _).1])
  rwa [List.set_set] at this
def escP : List UInt8 → Option (UInt8 × List UInt8)
  | [] => none
  | c :: r => if c.toNat = 34 ∨ c.toNat = 92 then some (c, r) else if c.toNat = 120 then (match r with
    | b1 :: b2 :: r2 => (hexV b1 b2).map fun v => (UInt8.ofNat v, r2)
    | _ => none) else none
theorem escP_cons (c : UInt8) (r : List UInt8) : escP (c :: r) = if c.toNat = 34 ∨ c.toNat = 92 then some (c, r) else if c.toNat = 120 then (match r with
    | b1 :: b2 :: r2 => (hexV b1 b2).map fun v => (UInt8.ofNat v, r2)
    | _ => none) else none := rfl
set_option maxHeartbeats 4000000 in
theorem cEsc (w0 : World) (hPU : PU16 w0) (S : List Blk) (a : Nat) (t s : List UInt8) (e : AV) (ht : t.length ≤ 10000000) (he : ErrOk e) (hal : a < S.length) (hs : s <:+ t) (R : AOut → List Blk → Prop)
    (h1 : ∀ v r, escP s = some (v, r) → R (.ret (.int .u8 (v.toNat : Nat))) (S.set a (.cells [.str t, .int .i64 (scP t r : Nat), e])))
    (h0 : escP s = none → ∀ q r x, r <:+ t → R (.ret (.int .u8 x)) (S.set a (.cells [.str t, .int .i64 (scP t r : Nat), errV q]))) :
    ACall Tryz.prog w0 86 [.own a 0] (S.set a (.cells [.str t, .int .i64 (scP t s : Nat), e])) R := by
  have hgs : ∀ x e, (S.set a (.cells [.str t, .int .i64 x, e]))[a]? = some (.cells [.str t, .int .i64 x, e]) := fun x e => by simp [hal]
  have hgn : ∀ x e B, (S.set a (.cells [.str t, .int .i64 x, e]) ++ [B])[S.length]? = some B := fun x e B => by
    rw [List.getElem?_append_right (by simp)]; simp
  cases s with
  | nil =>
    have hb := byte0' w0 S a t e he hal
    have hf := fun q => fail0' w0 S a t (scP t [] : Nat) (errV q) (errOk_v q) hal
    have h := h0 rfl
    clear h0 h1
    refine enter Tryz.func86 rfl (by decide +kernel) (by rw [Tryz.ntmps86]; simp) (by rw [Tryz.ntmps86]; decide) (fun hO => ?_); rw [Tryz.ntmps86]
    repeat' first | apply x_seq | apply x_ops_nil | (apply x_region; simp only [List.toList_toArray]) | (apply x_step0; (· rfl); (· simp only [go_sem, *]; try rfl); (· rfl); simp only [putA]) | (apply x_callA []; (· simp only [go_sem, *]; try rfl); (· rfl); (· simp only [go_sem, *]; try rfl); (· rfl); (iterate 2 (· simp only [go_sem, *]; try rfl)); (first | apply hb); simp only [afterCall, putA]) | fail
    intro q
    repeat' first | apply x_seq | apply x_skip | apply x_block | apply x_ops_nil | apply p_blk | (apply x_region; simp only [List.toList_toArray]) | (apply x_step0; (· rfl); (· simp only [go_sem, *]; try rfl); (· rfl); simp only [putA]) | (apply x_callA []; (· simp only [go_sem, *]; try rfl); (· rfl); (· simp only [go_sem, *]; try rfl); (· rfl); (iterate 2 (· simp only [go_sem, *]; try rfl)); (first | apply hf); simp only [afterCall, putA]) | (apply x_condF; (· simp only [go_sem, *]; try rfl)) | fail
    intro q2
    repeat' first | apply x_seq | apply x_ret | apply x_ops_nil | apply p_end | (apply x_region; simp only [List.toList_toArray]) | (apply x_step0; (· rfl); (· simp only [go_sem, *]; try rfl); (· rfl); simp only [putA]) | fail
    apply f_retO (S2 := S.set a (.cells [.str t, .int .i64 (scP t [] : Nat), errV q2])) (L := [])
    · (simp only [go_sem, *]; try rfl)
    · (simp only [go_sem, *]; try rfl)
    · simp
    · exact outSet2 hO (errOk_v q2)
    · (simp only [go_sem, *, Tryz.results86]; try rfl)
    · (simp only [go_sem, *]; try rfl)
    · (simp only [go_sem, *]; try rfl)
    · exact h q2 [] 0 List.nil_suffix
  | cons c r =>
    have hr : r <:+ t := (suf_at hs rfl).1
    have hb := byte1' w0 S a t r c e ht he hal hs
    have hf := fail0' w0 S a t (scP t r : Nat) e he hal
    by_cases c1 : c.toNat = 34 ∨ c.toNat = 92
    · have h := h1 c r (by rw [escP_cons, if_pos c1])
      have hd : ((c.toNat : Int) == 34) = true ∨ (((c.toNat : Int) == 34) = false ∧ ((c.toNat : Int) == 92) = true) := by
        rcases c1 with e | e
        · left; rw [e]; rfl
        · right; rw [e]; exact ⟨rfl, rfl⟩
      clear h0 h1 c1 hs hf
      rcases hd with d1 | ⟨d1, d2⟩
      all_goals
        refine enter Tryz.func86 rfl (by decide +kernel) (by rw [Tryz.ntmps86]; simp) (by rw [Tryz.ntmps86]; decide) (fun hO => ?_); rw [Tryz.ntmps86]
        repeat' first | apply x_seq | apply x_skip | apply x_block | apply x_ret | apply x_ops_nil | apply p_ret_it | apply p_ret_blk | apply p_end | (apply x_region; simp only [List.toList_toArray]) | (apply x_step0; (· rfl); (· simp only [go_sem, *]; try rfl); (· rfl); simp only [putA]) | (apply x_callA []; (· simp only [go_sem, *]; try rfl); (· rfl); (· simp only [go_sem, *]; try rfl); (· rfl); (iterate 2 (· simp only [go_sem, *]; try rfl)); (first | apply hb); simp only [afterCall, putA]) | (apply x_condT; (· simp only [go_sem, *]; try rfl)) | (apply x_condF; (· simp only [go_sem, *]; try rfl)) | fail
        apply f_retO (S2 := S.set a (.cells [.str t, .int .i64 (scP t r : Nat), e])) (L := [])
        · (simp only [go_sem, *]; try rfl)
        · (simp only [go_sem, *]; try rfl)
        · simp
        · exact outSet2 hO he
        · (simp only [go_sem, *, Tryz.results86]; try rfl)
        · (simp only [go_sem, *]; try rfl)
        · (simp only [go_sem, *]; try rfl)
        · exact h
    have d1 : ((c.toNat : Int) == 34) = false := by rw [beq_eq_false_iff_ne]; omega
    have d2 : ((c.toNat : Int) == 92) = false := by rw [beq_eq_false_iff_ne]; omega
    by_cases c2 : c.toNat = 120
    · have d3 : ((c.toNat : Int) == 120) = true := by rw [c2]; rfl
      have hx0 : ∀ b, hexV b 0 = none := fun b => by
        unfold hexV
        rw [show hexD1 0 = none by decide]
        cases hexD1 b <;> rfl
      match r, hs, hr, hb, hf, h0, h1 with
      | [], hs, hr, hb, hf, h0, h1 =>
        have h := h0 (by rw [escP_cons, if_neg c1, if_pos c2])
        have hb1 := byte0' w0 S a t e he hal
        have hb2 := fun q => byte0' w0 S a t (errV q) (errOk_v q) hal
        have hpu := fun S' R h => hPU S' 0 0 R (fun v hv => by rw [hx0] at hv; cases hv) (fun _ => h)
        have hfa := fun q => fail' w0 S a t (scP t [] : Nat) (errV q) (errOk_v q) hal
        clear h0 h1 hs hf hx0 c1 c2
        refine enter Tryz.func86 rfl (by decide +kernel) (by rw [Tryz.ntmps86]; simp) (by rw [Tryz.ntmps86]; decide) (fun hO => ?_); rw [Tryz.ntmps86]
        repeat' first | apply x_seq | apply x_block | apply x_ops_nil | (apply x_region; simp only [List.toList_toArray]) | (apply x_step0; (· rfl); (· simp only [go_sem, *]; try rfl); (· rfl); simp only [putA]) | (apply x_callA []; (· simp only [go_sem, *]; try rfl); (· rfl); (· simp only [go_sem, *]; try rfl); (· rfl); (iterate 2 (· simp only [go_sem, *]; try rfl)); (first | apply hb | apply hb1); simp only [afterCall, putA]) | (apply x_condT; (· simp only [go_sem, *]; try rfl)) | (apply x_condF; (· simp only [go_sem, *]; try rfl)) | fail
        intro q
        repeat' first | (apply x_step0; (· rfl); (· simp only [go_sem, *]; try rfl); (· rfl); simp only [putA]) | (apply x_callA []; (· simp only [go_sem, *]; try rfl); (· rfl); (· simp only [go_sem, *]; try rfl); (· rfl); (iterate 2 (· simp only [go_sem, *]; try rfl)); (first | apply hb2); simp only [afterCall, putA]) | fail
        intro q2
        repeat' first | (apply x_step0; (· rfl); (· simp only [go_sem, *]; try rfl); (· rfl); simp only [putA]) | (apply x_callA []; (· simp only [go_sem, *]; try rfl); (· rfl); (· simp only [go_sem, *]; try rfl); (· rfl); (iterate 2 (· simp only [go_sem, *]; try rfl)); (first | apply hpu); simp only [afterCall, putA]) | fail
        intro te xe
        repeat' first | apply x_seq | apply x_ops_nil | (apply x_region; simp only [List.toList_toArray]) | (apply x_step0; (· rfl); (· simp only [go_sem, *]; try rfl); (· rfl); simp only [putA]) | (apply x_callA []; (· simp only [go_sem, *]; try rfl); (· rfl); (· simp only [go_sem, *]; try rfl); (· rfl); (iterate 2 (· simp only [go_sem, *]; try rfl)); (first | apply hfa); simp only [afterCall, putA]) | (apply x_condT; (· simp only [go_sem, *]; try rfl)) | fail
        intro q3
        repeat' first | apply x_seq | apply x_ret | apply x_ops_nil | apply p_ret_it | apply p_ret_blk | apply p_end | (apply x_region; simp only [List.toList_toArray]) | (apply x_step0; (· rfl); (· simp only [go_sem, *]; try rfl); (· rfl); simp only [putA]) | fail
        apply f_retO (S2 := S.set a (.cells [.str t, .int .i64 (scP t [] : Nat), errV q3])) (L := [.arr 5 1 0 0 [.int .u8 0, .int .u8 0]])
        · (simp only [go_sem, *]; try rfl)
        · (simp only [go_sem, *]; try rfl)
        · simp
        · exact outSet2 hO (errOk_v q3)
        · (simp only [go_sem, *, Tryz.results86]; try rfl)
        · (simp only [go_sem, *]; try rfl)
        · (simp only [go_sem, *]; try rfl)
        · exact h q3 [] 0 List.nil_suffix
      | [b1], hs, hr, hb, hf, h0, h1 =>
        have h := h0 (by rw [escP_cons, if_neg c1, if_pos c2])
        have hb1 := byte1' w0 S a t [] b1 e ht he hal hr
        have hb2 := byte0' w0 S a t e he hal
        have hpu := fun S' R h => hPU S' b1 0 R (fun v hv => by rw [hx0] at hv; cases hv) (fun _ => h)
        have hfa := fun q => fail' w0 S a t (scP t [] : Nat) (errV q) (errOk_v q) hal
        clear h0 h1 hs hf hx0 c1 c2
        refine enter Tryz.func86 rfl (by decide +kernel) (by rw [Tryz.ntmps86]; simp) (by rw [Tryz.ntmps86]; decide) (fun hO => ?_); rw [Tryz.ntmps86]
        repeat' first | apply x_seq | apply x_block | apply x_ops_nil | (apply x_region; simp only [List.toList_toArray]) | (apply x_step0; (· rfl); (· simp only [go_sem, *, UInt8.ofNat_toNat]; try rfl); (· rfl); simp only [putA]) | (apply x_callA []; (· simp only [go_sem, *, UInt8.ofNat_toNat]; try rfl); (· rfl); (· simp only [go_sem, *, UInt8.ofNat_toNat]; try rfl); (· rfl); (iterate 2 (· simp only [go_sem, *, UInt8.ofNat_toNat]; try rfl)); (first | apply hb | apply hb1 | apply hb2); simp only [afterCall, putA]) | (apply x_condT; (· simp only [go_sem, *, UInt8.ofNat_toNat]; try rfl)) | (apply x_condF; (· simp only [go_sem, *, UInt8.ofNat_toNat]; try rfl)) | fail
        intro q2
        repeat' first | (apply x_step0; (· rfl); (· simp only [go_sem, *, UInt8.ofNat_toNat]; try rfl); (· rfl); simp only [putA]) | (apply x_callA []; (· simp only [go_sem, *, UInt8.ofNat_toNat]; try rfl); (· rfl); (· simp only [go_sem, *, UInt8.ofNat_toNat]; try rfl); (· rfl); (iterate 2 (· simp only [go_sem, *, UInt8.ofNat_toNat]; try rfl)); (first | apply hpu); simp only [afterCall, putA]) | fail
        intro te xe
        repeat' first | apply x_seq | apply x_ops_nil | (apply x_region; simp only [List.toList_toArray]) | (apply x_step0; (· rfl); (· simp only [go_sem, *]; try rfl); (· rfl); simp only [putA]) | (apply x_callA []; (· simp only [go_sem, *]; try rfl); (· rfl); (· simp only [go_sem, *]; try rfl); (· rfl); (iterate 2 (· simp only [go_sem, *]; try rfl)); (first | apply hfa); simp only [afterCall, putA]) | (apply x_condT; (· simp only [go_sem, *]; try rfl)) | fail
        intro q3
        repeat' first | apply x_seq | apply x_ret | apply x_ops_nil | apply p_ret_it | apply p_ret_blk | apply p_end | (apply x_region; simp only [List.toList_toArray]) | (apply x_step0; (· rfl); (· simp only [go_sem, *]; try rfl); (· rfl); simp only [putA]) | fail
        apply f_retO (S2 := S.set a (.cells [.str t, .int .i64 (scP t [] : Nat), errV q3])) (L := [.arr 5 1 0 0 [.int .u8 b1.toNat, .int .u8 0]])
        · (simp only [go_sem, *]; try rfl)
        · (simp only [go_sem, *]; try rfl)
        · simp
        · exact outSet2 hO (errOk_v q3)
        · (simp only [go_sem, *, Tryz.results86]; try rfl)
        · (simp only [go_sem, *]; try rfl)
        · (simp only [go_sem, *]; try rfl)
        · exact h q3 [] 0 List.nil_suffix
      | b1 :: b2 :: r2, hs, hr, hb, hf, h0, h1 =>
        have hr2 : b2 :: r2 <:+ t := (suf_at hr rfl).1
        have hr3 : r2 <:+ t := (suf_at hr2 rfl).1
        have hb1 := byte1' w0 S a t (b2 :: r2) b1 e ht he hal hr
        have hb2 := byte1' w0 S a t r2 b2 e ht he hal hr2
        cases hv : hexV b1 b2 with
        | none =>
          have h := h0 (by rw [escP_cons, if_neg c1, if_pos c2]; simp only [hv]; rfl)
          have hpu := fun S' R h => hPU S' b1 b2 R (fun v hv' => by rw [hv] at hv'; cases hv') (fun _ => h)
          have hfa := fail' w0 S a t (scP t r2 : Nat) e he hal
          clear h0 h1 hs hf hx0 c1 c2 hr hr2 hv
          refine enter Tryz.func86 rfl (by decide +kernel) (by rw [Tryz.ntmps86]; simp) (by rw [Tryz.ntmps86]; decide) (fun hO => ?_); rw [Tryz.ntmps86]
          repeat' first | apply x_seq | apply x_block | apply x_ops_nil | (apply x_region; simp only [List.toList_toArray]) | (apply x_step0; (· rfl); (· simp only [go_sem, *, UInt8.ofNat_toNat]; try rfl); (· rfl); simp only [putA]) | (apply x_callA []; (· simp only [go_sem, *, UInt8.ofNat_toNat]; try rfl); (· rfl); (· simp only [go_sem, *, UInt8.ofNat_toNat]; try rfl); (· rfl); (iterate 2 (· simp only [go_sem, *, UInt8.ofNat_toNat]; try rfl)); (first | apply hb | apply hb1 | apply hb2 | apply hpu); simp only [afterCall, putA]) | (apply x_condT; (· simp only [go_sem, *, UInt8.ofNat_toNat]; try rfl)) | (apply x_condF; (· simp only [go_sem, *, UInt8.ofNat_toNat]; try rfl)) | fail
          intro te xe
          repeat' first | apply x_seq | apply x_ops_nil | (apply x_region; simp only [List.toList_toArray]) | (apply x_step0; (· rfl); (· simp only [go_sem, *]; try rfl); (· rfl); simp only [putA]) | (apply x_callA []; (· simp only [go_sem, *]; try rfl); (· rfl); (· simp only [go_sem, *]; try rfl); (· rfl); (iterate 2 (· simp only [go_sem, *]; try rfl)); (first | apply hfa); simp only [afterCall, putA]) | (apply x_condT; (· simp only [go_sem, *]; try rfl)) | fail
          intro q3
          repeat' first | apply x_seq | apply x_ret | apply x_ops_nil | apply p_ret_it | apply p_ret_blk | apply p_end | (apply x_region; simp only [List.toList_toArray]) | (apply x_step0; (· rfl); (· simp only [go_sem, *]; try rfl); (· rfl); simp only [putA]) | fail
          apply f_retO (S2 := S.set a (.cells [.str t, .int .i64 (scP t r2 : Nat), errV q3])) (L := [.arr 5 1 0 0 [.int .u8 b1.toNat, .int .u8 b2.toNat]])
          · (simp only [go_sem, *]; try rfl)
          · (simp only [go_sem, *]; try rfl)
          · simp
          · exact outSet2 hO (errOk_v q3)
          · (simp only [go_sem, *, Tryz.results86]; try rfl)
          · (simp only [go_sem, *]; try rfl)
          · (simp only [go_sem, *]; try rfl)
          · exact h q3 r2 0 hr3
        | some v =>
          have hvl := hexV_lt hv
          have h := h1 (UInt8.ofNat v) r2 (by rw [escP_cons, if_neg c1, if_pos c2]; simp only [hv]; rfl)
          have hvt : (UInt8.ofNat v).toNat = v := by rw [UInt8.toNat_ofNat']; omega
          rw [hvt] at h
          have hpu := fun S' R (h : R (.ret (.tup [.int .u64 v, .inil])) S') => hPU S' b1 b2 R (fun v' hv' => by rw [hv] at hv'; cases hv'; exact h) (fun hn => by rw [hv] at hn; cases hn)
          have hw8 : IntKind.u8.wrap (v : Int) = v := IntWalk.u8_in _ (by omega)
          clear h0 h1 hs hf hx0 c1 c2 hr hr2 hv hvt hvl
          refine enter Tryz.func86 rfl (by decide +kernel) (by rw [Tryz.ntmps86]; simp) (by rw [Tryz.ntmps86]; decide) (fun hO => ?_); rw [Tryz.ntmps86]
          repeat' first | apply x_seq | apply x_skip | apply x_block | apply x_ret | apply x_ops_nil | apply p_ret_it | apply p_ret_blk | apply p_end | (apply x_region; simp only [List.toList_toArray]) | (apply x_step0; (· rfl); (· simp only [go_sem, *, UInt8.ofNat_toNat]; try rfl); (· rfl); simp only [putA]) | (apply x_callA []; (· simp only [go_sem, *, UInt8.ofNat_toNat]; try rfl); (· rfl); (· simp only [go_sem, *, UInt8.ofNat_toNat]; try rfl); (· rfl); (iterate 2 (· simp only [go_sem, *, UInt8.ofNat_toNat]; try rfl)); (first | apply hb | apply hb1 | apply hb2 | apply hpu); simp only [afterCall, putA]) | (apply x_condT; (· simp only [go_sem, *, UInt8.ofNat_toNat]; try rfl)) | (apply x_condF; (· simp only [go_sem, *, UInt8.ofNat_toNat]; try rfl)) | fail
          apply f_retO (S2 := S.set a (.cells [.str t, .int .i64 (scP t r2 : Nat), e])) (L := [.arr 5 1 0 0 [.int .u8 b1.toNat, .int .u8 b2.toNat]])
          · (simp only [go_sem, *]; try rfl)
          · (simp only [go_sem, *]; try rfl)
          · simp
          · exact outSet2 hO he
          · (simp only [go_sem, *, Tryz.results86]; try rfl)
          · (simp only [go_sem, *]; try rfl)
          · (simp only [go_sem, *]; try rfl)
          · exact h
    · have d3 : ((c.toNat : Int) == 120) = false := by rw [beq_eq_false_iff_ne]; omega
      have h := h0 (by rw [escP_cons, if_neg c1, if_neg c2])
      clear h0 h1 c1 c2 hs
      refine enter Tryz.func86 rfl (by decide +kernel) (by rw [Tryz.ntmps86]; simp) (by rw [Tryz.ntmps86]; decide) (fun hO => ?_); rw [Tryz.ntmps86]
      repeat' first | apply x_seq | apply x_skip | apply x_block | apply x_ops_nil | apply p_blk | (apply x_region; simp only [List.toList_toArray]) | (apply x_step0; (· rfl); (· simp only [go_sem, *]; try rfl); (· rfl); simp only [putA]) | (apply x_callA []; (· simp only [go_sem, *]; try rfl); (· rfl); (· simp only [go_sem, *]; try rfl); (· rfl); (iterate 2 (· simp only [go_sem, *]; try rfl)); (first | apply hb | apply hf); simp only [afterCall, putA]) | (apply x_condF; (· simp only [go_sem, *]; try rfl)) | fail
      intro q
      repeat' first | apply x_seq | apply x_ret | apply x_ops_nil | apply p_end | (apply x_region; simp only [List.toList_toArray]) | (apply x_step0; (· rfl); (· simp only [go_sem, *]; try rfl); (· rfl); simp only [putA]) | fail
      apply f_retO (S2 := S.set a (.cells [.str t, .int .i64 (scP t r : Nat), errV q])) (L := [])
      · (simp only [go_sem, *]; try rfl)
      · (simp only [go_sem, *]; try rfl)
      · simp
      · exact outSet2 hO (errOk_v q)
      · (simp only [go_sem, *, Tryz.results86]; try rfl)
      · (simp only [go_sem, *]; try rfl)
      · (simp only [go_sem, *]; try rfl)
      · exact h q r 0 hr
end Go.Proofs.YtcobfilbmfokoaaGreatDoor
namespace Go.Proofs.YtcobfilbmfokoaaGreatDoor
open Go Go.Fen
set_option linter.unusedSimpArgs false
set_option linter.unusedVariables false
attribute [local irreducible] RunX WP ACall AnyP OpA ProtL
set_option maxRecDepth 8000
section
variable (w0 : World) (S : List Blk) (a : Nat) (t : List UInt8)
theorem setL {S L : List Blk} {a : Nat} (hal : a < S.length) (B : Blk) : (S ++ L).set a B = S.set a B ++ L := List.set_append_left _ _ hal
theorem byte1L (r : List UInt8) (c : UInt8) (e : AV) (L : List Blk) (ht : t.length ≤ 10000000) (he : ErrOk e) (hal : a < S.length) (hs : c :: r <:+ t) (R : AOut → List Blk → Prop) (h : R (.ret (.int .u8 (c.toNat : Nat))) (S.set a (.cells [.str t, .int .i64 (scP t r : Nat), e]) ++ L)) :
    ACall Tryz.prog w0 85 [.own a 0] (S.set a (.cells [.str t, .int .i64 (scP t (c :: r) : Nat), e]) ++ L) R := by
  have := byte1' w0 (S ++ L) a t r c e ht he (by simp; omega) hs R (by rw [setL hal]; exact h)
  rwa [setL hal] at this
theorem byte0L (e : AV) (L : List Blk) (he : ErrOk e) (hal : a < S.length) (R : AOut → List Blk → Prop) (h : ∀ q, R (.ret (.int .u8 0)) (S.set a (.cells [.str t, .int .i64 (scP t [] : Nat), errV q]) ++ L)) :
    ACall Tryz.prog w0 85 [.own a 0] (S.set a (.cells [.str t, .int .i64 (scP t [] : Nat), e]) ++ L) R := by
  have := byte0' w0 (S ++ L) a t e he (by simp; omega) R (fun q => by rw [setL hal]; exact h q)
  rwa [setL hal] at this
theorem escL (hPU : PU16 w0) (s : List UInt8) (e : AV) (L : List Blk) (ht : t.length ≤ 10000000) (he : ErrOk e) (hal : a < S.length) (hs : s <:+ t) (R : AOut → List Blk → Prop)
    (h1 : ∀ v r, escP s = some (v, r) → R (.ret (.int .u8 (v.toNat : Nat))) (S.set a (.cells [.str t, .int .i64 (scP t r : Nat), e]) ++ L))
    (h0 : escP s = none → ∀ q r x, r <:+ t → R (.ret (.int .u8 x)) (S.set a (.cells [.str t, .int .i64 (scP t r : Nat), errV q]) ++ L)) :
    ACall Tryz.prog w0 86 [.own a 0] (S.set a (.cells [.str t, .int .i64 (scP t s : Nat), e]) ++ L) R := by
  have := cEsc w0 hPU (S ++ L) a t s e ht he (by simp; omega) hs R (fun v r hh => by rw [setL hal]; exact h1 v r hh) (fun hh q r x hr => by rw [setL hal]; exact h0 hh q r x hr)
  rwa [setL hal] at this
theorem skip' (s : List UInt8) (e : AV) (ht : t.length ≤ 10000000) (he : ErrOk e) (hal : a < S.length) (hs : s <:+ t) (R : AOut → List Blk → Prop) (h : R (.ret (.bool (decide (skipC s = [])))) (S.set a (.cells [.str t, .int .i64 (scP t (skipC s) : Nat), e]))) :
    ACall Tryz.prog w0 62 [.own a 0] (S.set a (.cells [.str t, .int .i64 (scP t s : Nat), e])) R :=
  cSkip w0 _ a t s e ht he (by simp [hal]) hs R (by rw [List.set_set]; exact h)
end
theorem unq_92 (acc r : List UInt8) (c : UInt8) (hc : c.toNat = 92) : unqC acc (c :: r) = match escP r with
    | none => none
    | some (v, r2) => unqC (acc ++ [v]) r2 := by
  rw [unqC_cons, if_neg (by omega), if_neg (by omega)]
  cases r with
  | nil => rfl
  | cons d s2 =>
    rw [escP_cons]
    simp only
    by_cases h1 : d.toNat = 34 ∨ d.toNat = 92
    · rw [if_pos h1, if_pos h1]
    · rw [if_neg h1, if_neg h1]
      by_cases h2 : d.toNat = 120
      · rw [if_pos h2, if_pos h2]
        match s2 with
        | [] => rfl
        | [b1] => rfl
        | b1 :: b2 :: s3 =>
          simp only
          cases hexV b1 b2 <;> rfl
      · rw [if_neg h2, if_neg h2]
theorem escP_suf {s r : List UInt8} {v : UInt8} (h : escP s = some (v, r)) : r <:+ s ∧ r.length < s.length := by
  cases s with
  | nil => cases h
  | cons c s2 =>
    rw [escP_cons] at h
    split at h
    · cases h; exact ⟨List.suffix_cons _ _, by simp⟩
    · split at h
      · match s2, h with
        | b1 :: b2 :: s3, h =>
          simp only [Option.map_eq_some_iff] at h
          obtain ⟨x, _, hx⟩ := h
          cases hx
          exact ⟨⟨[c, b1, b2], rfl⟩, by simp; omega⟩
        | [], h => cases h
        | [b1], h => cases h
      · cases h
set_option maxHeartbeats 8000000 in
theorem cQuoted (w0 : World) (hPU : PU16 w0) (S : List Blk) (a : Nat) (t s : List UInt8) (ht : t.length ≤ 10000000) (hal : a < S.length) (hs : s <:+ t) (R : AOut → List Blk → Prop)
    (h1 : ∀ x r, quoC s = some (x, r) → r <:+ t → R (.ret (.str x)) (S.set a (.cells [.str t, .int .i64 (scP t r : Nat), .inil])))
    (h0 : quoC s = none → ∀ q r, r <:+ t → R (.ret (.str [])) (S.set a (.cells [.str t, .int .i64 (scP t r : Nat), errV q]))) :
    ACall Tryz.prog w0 64 [.own a 0] (S.set a (.cells [.str t, .int .i64 (scP t s : Nat), .inil])) R := by
  have hgs : ∀ x e, (S.set a (.cells [.str t, .int .i64 x, e]))[a]? = some (.cells [.str t, .int .i64 x, e]) := fun x e => by simp [hal]
  have hgl : ∀ x e L, (S.set a (.cells [.str t, .int .i64 x, e]) ++ L)[a]? = some (.cells [.str t, .int .i64 x, e]) := fun x e L => by
    rw [List.getElem?_append_left (by simpa using hal)]; simp [hal]
  have hsk := skip' w0 S a t s .inil ht (.inl rfl) hal hs
  have hst := suf_skip hs
  have hi0 : ErrOk .inil := .inl rfl
  unfold quoC at h1 h0
  cases hq : skipC s with
  | nil =>
    rw [hq] at hsk h0
    have h := h0 rfl
    have hb := byte0' w0 S a t .inil hi0 hal
    have hf := fun q => fail0' w0 S a t (scP t [] : Nat) (errV q) (errOk_v q) hal
    simp only [errV] at hf hb
    clear h1 h0 hs hst hq
    refine enter Tryz.func64 rfl (by decide +kernel) (by rw [Tryz.ntmps64]; simp) (by rw [Tryz.ntmps64]; decide) (fun hO => ?_); rw [Tryz.ntmps64]
    repeat' first | apply x_seq | apply x_ops_nil | (apply x_region; simp only [List.toList_toArray]) | (apply x_step0; (· rfl); (· simp only [go_sem, *]; try rfl); (· rfl); simp only [putA]) | (apply x_callA []; (· simp only [go_sem, *]; try rfl); (· rfl); (· simp only [go_sem, *]; try rfl); (· rfl); (iterate 2 (· simp only [go_sem, *]; try rfl)); (first | apply hsk | apply hb); simp only [afterCall, putA]) | fail
    intro q
    repeat' first | apply x_ops_nil | (apply x_region; simp only [List.toList_toArray]) | (apply x_step0; (· rfl); (· simp only [go_sem, *]; try rfl); (· rfl); simp only [putA]) | (apply x_callA []; (· simp only [go_sem, *]; try rfl); (· rfl); (· simp only [go_sem, *]; try rfl); (· rfl); (iterate 2 (· simp only [go_sem, *]; try rfl)); (first | apply hf); simp only [afterCall, putA]) | (apply x_condT; (· simp only [go_sem, *]; try rfl)) | fail
    intro q2
    repeat' first | apply x_seq | apply x_block | apply x_exit | apply x_ret | apply x_ops_nil | apply p_exit_it | apply p_exit_hit | apply p_end | (apply x_region; simp only [List.toList_toArray]) | (apply x_step0; (· rfl); (· simp only [go_sem, *]; try rfl); (· rfl); simp only [putA]) | (apply x_condF; (· simp only [go_sem, *]; try rfl)) | apply x_loop | fail
    apply f_retO (S2 := S.set a (.cells [.str t, .int .i64 (scP t [] : Nat), errV q2])) (L := [])
    · (simp only [go_sem, *]; try rfl)
    · (simp only [go_sem, *]; try rfl)
    · simp
    · exact outSet2 hO (errOk_v q2)
    · (simp only [go_sem, *, Tryz.results64]; try rfl)
    · (simp only [go_sem, *]; try rfl)
    · (simp only [go_sem, *]; try rfl)
    · exact h q2 [] List.nil_suffix
  | cons c r =>
    rw [hq] at hsk h1 h0 hst
    have hr := (suf_at hst rfl).1
    have hb := byte1' w0 S a t r c .inil ht hi0 hal hst
    by_cases hc : c.toNat = 34
    · simp only [if_pos hc] at h1 h0
      have d1 : ((c.toNat : Int) == 34) = true := by rw [hc]; rfl
      have d2 : ((c.toNat : Int) != 34) = false := by rw [bne, d1]; rfl
      clear hq hst hs
      refine enter Tryz.func64 rfl (by decide +kernel) (by rw [Tryz.ntmps64]; simp) (by rw [Tryz.ntmps64]; decide) (fun hO => ?_); rw [Tryz.ntmps64]
      repeat' first | apply x_seq | apply x_skip | apply x_block | apply x_ops_nil | (apply x_region; simp only [List.toList_toArray]) | (apply x_step0; (· rfl); (· simp only [go_sem, *]; try rfl); (· rfl); simp only [putA]) | (apply x_callA []; (· simp only [go_sem, *]; try rfl); (· rfl); (· simp only [go_sem, *]; try rfl); (· rfl); (iterate 2 (· simp only [go_sem, *]; try rfl)); (first | apply hsk | apply hb); simp only [afterCall, putA]) | (apply x_condF; (· simp only [go_sem, *]; try rfl)) | fail
      refine x_thaw (t := 4) 5 1 (by (simp only [go_sem, *]; try rfl)) (by decide) ?_
      simp only [go_sem, *]
      refine x_ind (fun (g : Option (List UInt8 × List UInt8 × Nat)) env S' => match g with
        | some (acc, r', k) => r' <:+ t ∧ unqC acc r' = unqC [] r ∧ acc.length + r'.length ≤ t.length ∧ env 1000000 = .dfr [] ∧ env 0 = .own a 0 ∧ env 3 = .fn (.func 85) [.own a 0] [] ∧ env 4 = .sown S.length k acc.length ∧ S' = S.set a (.cells [.str t, .int .i64 (scP t r' : Nat), .inil]) ++ [.arr 5 1 0 k (acc.map bAV)]
        | none => unqC [] r = none ∧ env 1000000 = .dfr [] ∧ env 0 = .own a 0 ∧ ∃ q r' L, r' <:+ t ∧ S' = S.set a (.cells [.str t, .int .i64 (scP t r' : Nat), errV q]) ++ L) (fun g => match g with
        | some (_, r', _) => r'.length + 1
        | none => 0) (some ([], r, 0)) ?_ ?_
      · exact ⟨hr, rfl, by simpa using suf_le hr, by (simp only [go_sem, *]; try rfl), by (simp only [go_sem, *]; try rfl), by (simp only [go_sem, *]; try rfl), by (simp only [go_sem, *]; try rfl), rfl⟩
      · intro g env S' hg IH
        have HI := Lib.hid IH
        have H1 := Lib.hid h1
        have H0 := Lib.hid h0
        clear IH h1 h0 hsk hb
        match g, hg, HI with
        | none, hg, HI =>
          obtain ⟨hn, e0, f0, q, r', L, hr', rfl⟩ := hg
          have h := H0.out hn q r' hr'
          clear HI hn
          simp only [errV] at h ⊢
          repeat' first | apply x_seq | apply x_exit | apply x_ret | apply x_ops_nil | apply p_exit_it | apply p_exit_hit | apply p_end | (apply x_region; simp only [List.toList_toArray]) | (apply x_step0; (· rfl); (· simp only [go_sem, *]; try rfl); (· rfl); simp only [putA]) | (apply x_condF; (· simp only [go_sem, *]; try rfl)) | fail
          apply f_retO (S2 := S.set a (.cells [.str t, .int .i64 (scP t r' : Nat), .ifc 70 (.pro [.int .i64 q])])) (L := L)
          · (simp only [go_sem, *]; try rfl)
          · (simp only [go_sem, *]; try rfl)
          · simp
          · exact outSet2 hO (errOk_v q)
          · (simp only [go_sem, *, Tryz.results64]; try rfl)
          · (simp only [go_sem, *]; try rfl)
          · (simp only [go_sem, *]; try rfl)
          · exact h
        | some (acc, r', k), hg, HI =>
          obtain ⟨hr', hu, hl, e0, f0, f3, f4, rfl⟩ := hg
          have Hn := Lib.hid hu
          have okB := bAV_ok acc
          simp only [okEls, AV.cells] at okB
          have hgn : ∀ x e B, (S.set a (.cells [.str t, .int .i64 x, e]) ++ [B])[S.length]? = some B := fun x e B => by
            rw [List.getElem?_append_right (by simp)]; simp
          have hgm : ∀ x e B C, (S.set a (.cells [.str t, .int .i64 x, e]) ++ [B, C])[S.length]? = some B := fun x e B C => by
            rw [List.getElem?_append_right (by simp)]; simp
          have hgp : ∀ x e B C, (S.set a (.cells [.str t, .int .i64 x, e]) ++ [B, C])[S.length + 1]? = some C := fun x e B C => by
            rw [List.getElem?_append_right (by simp)]; simp
          have hsm : ∀ x e B C D, (S.set a (.cells [.str t, .int .i64 x, e]) ++ [B, C]).set S.length D = S.set a (.cells [.str t, .int .i64 x, e]) ++ [D, C] := fun x e B C D => by
            rw [List.set_append_right _ _ (by simp)]; simp
          have hmb : (List.map bAV acc).length = acc.length := by simp
          have hb1 : (acc.length + 1) * 1 ≤ 140737488355328 := by omega
          match r', hr', hu, hl, Hn, HI with
          | [], hr', hu, hl, Hn, HI =>
            have hn : unqC [] r = none := by rw [← hu]; rfl
            have Hn := Lib.hid hn
            have hb := byte0L w0 S a t .inil [.arr 5 1 0 k (acc.map bAV)] hi0 hal
            have hf := fun q => fail' w0 S a t (scP t [] : Nat) (errV q) (errOk_v q) hal [.arr 5 1 0 k (acc.map bAV)]
            clear hu hl hn
            repeat' first | apply x_seq | apply x_skip | apply x_block | apply x_ops_nil | (apply x_region; simp only [List.toList_toArray]) | (apply x_step0; (· rfl); (· simp only [go_sem, *]; try rfl); (· rfl); simp only [putA]) | (apply x_callA []; (· simp only [go_sem, *]; try rfl); (· rfl); (· simp only [go_sem, *]; try rfl); (· rfl); (iterate 2 (· simp only [go_sem, *]; try rfl)); (first | apply hb); simp only [afterCall, putA]) | (apply x_condT; (· simp only [go_sem, *]; try rfl)) | fail
            intro q
            repeat' first | apply x_seq | apply x_block | apply x_ops_nil | (apply x_region; simp only [List.toList_toArray]) | (apply x_step0; (· rfl); (· simp only [go_sem, *]; try rfl); (· rfl); simp only [putA]) | (apply x_callA []; (· simp only [go_sem, *]; try rfl); (· rfl); (· simp only [go_sem, *]; try rfl); (· rfl); (iterate 2 (· simp only [go_sem, *]; try rfl)); (first | apply hf); simp only [afterCall, putA]) | (apply x_unwanted; (· simp only [go_sem, *]; try rfl); (· rfl); simp only [putA]) | (apply x_condT; (· simp only [go_sem, *]; try rfl)) | (apply x_condF; (· simp only [go_sem, *]; try rfl)) | fail
            intro q2
            repeat' first | apply x_ops_nil | apply p_blk | fail
            refine HI.out none _ _ (by simp) ⟨?_, ?_, ?_, q2, [], _, hr', rfl⟩
            · exact Hn.out
            · (simp only [go_sem, *]; try rfl)
            · (simp only [go_sem, *]; try rfl)
          | c2 :: r2, hr', hu, hl, Hn, HI =>
            have hr2 := (suf_at hr' rfl).1
            have hb := byte1L w0 S a t r2 c2 .inil [.arr 5 1 0 k (acc.map bAV)] ht hi0 hal hr'
            simp only [List.length_cons] at hl
            by_cases z1 : c2.toNat = 34
            · have y1 : ((c2.toNat : Int) == 34) = true := by rw [z1]; rfl
              have h := H1.out acc r2 (by rw [← hu, unqC_cons, if_pos z1]) hr2
              have hby := bytesOf_map acc
              have hok8 := okBytes_map acc
              clear hu hl z1 HI Hn
              repeat' first | apply x_seq | apply x_skip | apply x_block | apply x_ret | apply x_ops_nil | apply p_ret_it | apply p_ret_blk | apply p_end | (apply x_region; simp only [List.toList_toArray]) | (apply x_step0; (· rfl); (· simp only [go_sem, *]; try rfl); (· rfl); simp only [putA]) | (apply x_callA []; (· simp only [go_sem, *]; try rfl); (· rfl); (· simp only [go_sem, *]; try rfl); (· rfl); (iterate 2 (· simp only [go_sem, *]; try rfl)); (first | apply hb); simp only [afterCall, putA]) | (apply x_condT; (· simp only [go_sem, *]; try rfl)) | fail
              apply f_retO (S2 := S.set a (.cells [.str t, .int .i64 (scP t r2 : Nat), .inil])) (L := [.arr 5 1 0 k (acc.map bAV)])
              · (simp only [go_sem, *]; try rfl)
              · (simp only [go_sem, *]; try rfl)
              · simp
              · exact outSet2 hO hi0
              · (simp only [go_sem, *, Tryz.results64]; try rfl)
              · (simp only [go_sem, *]; try rfl)
              · (simp only [go_sem, *]; try rfl)
              · exact h
            have y1 : ((c2.toNat : Int) == 34) = false := by rw [beq_eq_false_iff_ne]; omega
            by_cases z2 : c2.toNat = 92
            · have y2 : ((c2.toNat : Int) == 92) = true := by rw [z2]; rfl
              rw [unq_92 acc r2 c2 z2] at hu
              cases hes : escP r2 with
              | none =>
                simp only [hes] at hu
                have Hn := Lib.hid hu.symm
                have he := fun (R : AOut → List Blk → Prop) (hh : ∀ q r x, r <:+ t → R (.ret (.int .u8 x)) (S.set a (.cells [.str t, .int .i64 (scP t r : Nat), errV q]) ++ [.arr 5 1 0 k (acc.map bAV)])) => escL w0 S a t hPU r2 .inil [.arr 5 1 0 k (acc.map bAV)] ht hi0 hal hr2 R (fun v r hv => by rw [hes] at hv; cases hv) (fun _ => hh)
                clear hu hl z1 z2 hes
                repeat' first | apply x_seq | apply x_skip | apply x_block | apply x_ops_nil | (apply x_region; simp only [List.toList_toArray]) | (apply x_step0; (· rfl); (· simp only [go_sem, *]; try rfl); (· rfl); simp only [putA]) | (apply x_callA []; (· simp only [go_sem, *]; try rfl); (· rfl); (· simp only [go_sem, *]; try rfl); (· rfl); (iterate 2 (· simp only [go_sem, *]; try rfl)); (first | apply hb | apply he); simp only [afterCall, putA]) | (apply x_condT; (· simp only [go_sem, *]; try rfl)) | (apply x_condF; (· simp only [go_sem, *]; try rfl)) | fail
                intro q r3 x hr3
                repeat' first | apply x_ops_nil | apply p_blk | (apply x_step0; (· rfl); (· simp only [go_sem, *]; try rfl); (· rfl); simp only [putA]) | fail
                refine HI.out none _ _ (by simp) ⟨?_, ?_, ?_, q, r3, _, hr3, rfl⟩
                · exact Hn.out
                · (simp only [go_sem, *]; try rfl)
                · (simp only [go_sem, *]; try rfl)
              | some w =>
                obtain ⟨v, r3⟩ := w
                simp only [hes] at hu
                obtain ⟨e1, e2⟩ := escP_suf hes
                have hr3 : r3 <:+ t := e1.trans hr2
                have he := fun (R : AOut → List Blk → Prop) (hh : R (.ret (.int .u8 (v.toNat : Nat))) (S.set a (.cells [.str t, .int .i64 (scP t r3 : Nat), .inil]) ++ [.arr 5 1 0 k (acc.map bAV)])) => escL w0 S a t hPU r2 .inil [.arr 5 1 0 k (acc.map bAV)] ht hi0 hal hr2 R (fun v r hv => by rw [hes] at hv; cases hv; exact hh) (fun hn => by rw [hes] at hn; cases hn)
                have Hu := Lib.hid hu
                have Hl := Lib.hid hl
                have He2 := Lib.hid e2
                clear hu hl z1 z2 hes e1 e2 Hn
                repeat' first | apply x_seq | apply x_skip | apply x_block | apply x_ops_nil | apply p_blk | (apply x_region; simp only [List.toList_toArray]) | (apply x_step0; (· rfl); (· simp only [go_sem, *]; try rfl); (· rfl); simp only [putA]) | (apply x_callA []; (· simp only [go_sem, *]; try rfl); (· rfl); (· simp only [go_sem, *]; try rfl); (· rfl); (iterate 2 (· simp only [go_sem, *]; try rfl)); (first | apply hb | apply he); simp only [afterCall, putA]) | (apply x_condT; (· simp only [go_sem, *]; try rfl)) | (apply x_condF; (· simp only [go_sem, *]; try rfl)) | fail
                refine x_keepO (outSet2 hO hi0) 1 [0, 3, 4] (by simp) (by (simp only [go_sem, *]; try rfl)) (by (simp only [go_sem, *]; try rfl)) (by (simp only [go_sem, *]; try rfl)) ?_
                simp only [List.take_succ_cons, List.take_zero]
                refine HI.out (some (acc ++ [v], r3, k + 1)) _ _ (by have := He2.out; simp; omega) ⟨hr3, Hu.out, (by have := Hl.out; have := He2.out; simp; omega), ?_, ?_, ?_, ?_, ?_⟩
                · (simp only [go_sem, *]; try rfl)
                · (simp only [go_sem, *]; try rfl)
                · (simp only [go_sem, *]; try rfl)
                · rw [List.length_append]; (simp only [go_sem, *]; try rfl)
                · rw [List.map_append]; rfl
            have y2 : ((c2.toNat : Int) == 92) = false := by rw [beq_eq_false_iff_ne]; omega
            rw [unqC_cons, if_neg z1, if_pos z2] at hu
            by_cases z3 : 32 ≤ c2.toNat ∧ c2.toNat ≤ 126
            · rw [if_pos z3] at hu
              have y3 : decide ((c2.toNat : Int) < 32) = false := by simp; omega
              have y4 : decide ((126 : Int) < (c2.toNat : Int)) = false := by simp; omega
              have Hu := Lib.hid hu
              have Hl := Lib.hid hl
              clear hu hl z1 z2 z3 Hn
              repeat' first | apply x_seq | apply x_skip | apply x_block | apply x_ops_nil | apply p_blk | (apply x_region; simp only [List.toList_toArray]) | (apply x_step0; (· rfl); (· simp only [go_sem, *]; try rfl); (· rfl); simp only [putA]) | (apply x_callA []; (· simp only [go_sem, *]; try rfl); (· rfl); (· simp only [go_sem, *]; try rfl); (· rfl); (iterate 2 (· simp only [go_sem, *]; try rfl)); (first | apply hb); simp only [afterCall, putA]) | (apply x_step; (iterate 2 (· simp only [go_sem, *]; try rfl)); (· rfl); simp only [putA]) | (apply x_condT; (· simp only [go_sem, *]; try rfl)) | (apply x_condF; (· simp only [go_sem, *]; try rfl)) | fail
              refine x_keepO (outSet2 hO hi0) 1 [0, 3, 4] (by simp) (by (simp only [go_sem, *]; try rfl)) (by (simp only [go_sem, *]; try rfl)) (by (simp only [go_sem, *]; try rfl)) ?_
              simp only [List.take_succ_cons, List.take_zero]
              refine HI.out (some (acc ++ [c2], r2, k + 1)) _ _ (by simp) ⟨hr2, Hu.out, (by have := Hl.out; simp; omega), ?_, ?_, ?_, ?_, ?_⟩
              · (simp only [go_sem, *]; try rfl)
              · (simp only [go_sem, *]; try rfl)
              · (simp only [go_sem, *]; try rfl)
              · rw [List.length_append]; (simp only [go_sem, *]; try rfl)
              · rw [List.map_append]; rfl
            · rw [if_neg z3] at hu
              have Hn := Lib.hid hu.symm
              have hf := fail' w0 S a t (scP t r2 : Nat) .inil hi0 hal [.arr 5 1 0 k (acc.map bAV)]
              have hd : decide ((c2.toNat : Int) < 32) = true ∨ (decide ((c2.toNat : Int) < 32) = false ∧ decide ((126 : Int) < (c2.toNat : Int)) = true) := by simp; omega
              clear hu hl z1 z2 z3
              rcases hd with y3 | ⟨y3, y4⟩
              all_goals
                repeat' first | apply x_seq | apply x_skip | apply x_block | apply x_ops_nil | (apply x_region; simp only [List.toList_toArray]) | (apply x_step0; (· rfl); (· simp only [go_sem, *]; try rfl); (· rfl); simp only [putA]) | (apply x_callA []; (· simp only [go_sem, *]; try rfl); (· rfl); (· simp only [go_sem, *]; try rfl); (· rfl); (iterate 2 (· simp only [go_sem, *]; try rfl)); (first | apply hb | apply hf); simp only [afterCall, putA]) | (apply x_step; (iterate 2 (· simp only [go_sem, *]; try rfl)); (· rfl); simp only [putA]) | (apply x_unwanted; (· simp only [go_sem, *]; try rfl); (· rfl); simp only [putA]) | (apply x_condT; (· simp only [go_sem, *]; try rfl)) | (apply x_condF; (· simp only [go_sem, *]; try rfl)) | fail
                intro q2
                repeat' first | apply x_ops_nil | apply p_blk | fail
                refine HI.out none _ _ (by simp) ⟨?_, ?_, ?_, q2, r2, _, hr2, rfl⟩
                · exact Hn.out
                · (simp only [go_sem, *]; try rfl)
                · (simp only [go_sem, *]; try rfl)
    · simp only [if_neg hc] at h0
      have h := h0 trivial
      have d1 : ((c.toNat : Int) == 34) = false := by rw [beq_eq_false_iff_ne]; omega
      have d2 : ((c.toNat : Int) != 34) = true := by rw [bne, d1]; rfl
      have hf := fail0' w0 S a t (scP t r : Nat) .inil hi0 hal
      simp only [errV] at hf
      clear h1 h0 hs hst hq hc
      refine enter Tryz.func64 rfl (by decide +kernel) (by rw [Tryz.ntmps64]; simp) (by rw [Tryz.ntmps64]; decide) (fun hO => ?_); rw [Tryz.ntmps64]
      repeat' first | apply x_seq | apply x_ops_nil | (apply x_region; simp only [List.toList_toArray]) | (apply x_step0; (· rfl); (· simp only [go_sem, *]; try rfl); (· rfl); simp only [putA]) | (apply x_callA []; (· simp only [go_sem, *]; try rfl); (· rfl); (· simp only [go_sem, *]; try rfl); (· rfl); (iterate 2 (· simp only [go_sem, *]; try rfl)); (first | apply hsk | apply hb | apply hf); simp only [afterCall, putA]) | (apply x_condT; (· simp only [go_sem, *]; try rfl)) | fail
      intro q2
      repeat' first | apply x_seq | apply x_block | apply x_exit | apply x_ret | apply x_ops_nil | apply p_exit_it | apply p_exit_hit | apply p_end | (apply x_region; simp only [List.toList_toArray]) | (apply x_step0; (· rfl); (· simp only [go_sem, *]; try rfl); (· rfl); simp only [putA]) | (apply x_condF; (· simp only [go_sem, *]; try rfl)) | apply x_loop | fail
      apply f_retO (S2 := S.set a (.cells [.str t, .int .i64 (scP t r : Nat), errV q2])) (L := [])
      · (simp only [go_sem, *]; try rfl)
      · (simp only [go_sem, *]; try rfl)
      · simp
      · exact outSet2 hO (errOk_v q2)
      · (simp only [go_sem, *, Tryz.results64]; try rfl)
      · (simp only [go_sem, *]; try rfl)
      · (simp only [go_sem, *]; try rfl)
      · exact h q2 r hr
end Go.Proofs.YtcobfilbmfokoaaGreatDoor
