/- YtfnnjkbhmoomjaaGreatDoorWalk2. Texts of the proof of a law about texts: a layer of abstract values above the worlds, the types, the walks of the functions that the law reaches, the law and its card. Own work of an AI agent. -/
import Derived.Test.YtfnnjkbhmoomjaaGreatDoorWalk1
import Derived.Test.YtfnnjkbhmoomjaaGreatDoorCore1
import Derived.Shelf.Strings.Count
import Derived.Test.YtfnnjkbhmoomjaaGreatDoorShelf
import Derived.Test.YtfnnjkbhmoomjaaGreatDoorWalk0
import Derived.Shelf.Strconv.ToError
import Derived.Shelf.Strconv.ToErrorRange
import Derived.Shelf.Strconv.Atoi
import Derived.Lib.AtoiErrMem
import Derived.Test.YtfnnjkbhmoomjaaGreatDoorCore2
import Derived.Test.YtfnnjkbhmoomjaaGreatDoorCards
import Derived.Test.YtfnnjkbhmoomjaaGreatDoorTie
import Derived.ProofKit
import Derived.OpenShut
import Derived.LaidMore
import Derived.Lay
import Derived.SevenTiedAt
import Derived.Stop.Joined
set_option linter.all false
set_option linter.unusedVariables false
set_option linter.unusedSimpArgs false
namespace Go.Proofs.YtfnnjkbhmoomjaaGreatDoor
open Go Go.Fen
set_option linter.unusedSimpArgs false
set_option linter.unusedVariables false
attribute [local irreducible] RunX WP ACall AnyP OpA ProtL afterCall afterOp
set_option maxRecDepth 8000
set_option maxHeartbeats 10000000 in
theorem oDecode (w0 : World) (S : List Blk) (s : List UInt8) (hs : s.length ≤ 8192) (R : AOut → List Blk → Prop) (h : R (.ret (decW (decP s))) S) : ACall Tryz.prog w0 69 [.str s] S R := by
  have hr := fun S' => regroupK w0 S' 6 8 105 S.length (by decide)
  have d0 : decide ((8192 : Int) < (s.length : Int)) = false := by simp; omega
  have htr := fun S' => trimRight w0 S' s (by omega)
  have hva := oValues w0
  have htl := trim_len s
  have hmm : (s.length : Int).tmod 4 = ((s.length % 4 : Nat) : Int) := tmK s.length 4
  have hwd : IntKind.i64.wrap ((s.length : Int) - ((trimC s).length : Int)) = ((s.length - (trimC s).length : Nat) : Int) := by rw [IntWalk.i64_in _ (by omega)]; omega
  have hlk := fun S' c => lkV S' c
  unfold decP at h
  have bad : ((trimC s).length ≠ s.length ∧ (s.length % 4 ≠ 0 ∨ 2 < s.length - (trimC s).length)) → R (.ret (.tup [.str [], .int .i64 6])) S := fun e => by rw [if_pos e] at h; exact h
  have good : ¬ ((trimC s).length ≠ s.length ∧ (s.length % 4 ≠ 0 ∨ 2 < s.length - (trimC s).length)) → R (.ret (decW (match valsC (trimC s) with | none => none | some V => if (decV V).wait = 6 ∨ (decV V).rest ≠ 0 then none else some ((decV V).out.map UInt8.ofNat)))) S := fun e => by rw [if_neg e] at h; exact h
  clear h
  generalize trimC s = t at *
  generalize valsM 64 = M at hva hlk
  have Bad := Lib.hid bad
  have Good := Lib.hid good
  have Hlk := Lib.hid hlk
  have Hva := Lib.hid hva
  have Hr := Lib.hid hr
  clear bad good hlk hva hr
  by_cases hA : (t.length ≠ s.length ∧ (s.length % 4 ≠ 0 ∨ 2 < s.length - t.length))
  · have hh := Bad.out hA
    have b1 : ((t.length : Int) != (s.length : Int)) = true := by rw [bne_iff_ne]; omega
    by_cases hB : s.length % 4 = 0
    · have b2 : (((s.length % 4 : Nat) : Int) != 0) = false := by rw [hB]; rfl
      have b3 : decide ((2 : Int) < ((s.length - t.length : Nat) : Int)) = true := by simp; omega
      clear hA hB hs htl
      refine enter Tryz.func69 rfl (by decide +kernel) (by rw [Tryz.ntmps69]; simp) (by rw [Tryz.ntmps69]; decide) (fun hO => ?_); rw [Tryz.ntmps69]
      repeat' first | refine st ?_ | (refine ca ?_; first | apply htr) | (refine br ?_ ?_; all_goals (intro hb; try simp only [Bool.not_eq_true', Bool.not_eq_false'] at hb)) | fail
      (apply f_ret; iterate 7 (· simp only [go_sem, *, Tryz.results69]; try rfl))
      exact hh
    · have b2 : (((s.length % 4 : Nat) : Int) != 0) = true := by rw [bne_iff_ne]; omega
      clear hA hB hs htl
      refine enter Tryz.func69 rfl (by decide +kernel) (by rw [Tryz.ntmps69]; simp) (by rw [Tryz.ntmps69]; decide) (fun hO => ?_); rw [Tryz.ntmps69]
      repeat' first | refine st ?_ | (refine ca ?_; first | apply htr) | (refine br ?_ ?_; all_goals (intro hb; try simp only [Bool.not_eq_true', Bool.not_eq_false'] at hb)) | fail
      (apply f_ret; iterate 7 (· simp only [go_sem, *, Tryz.results69]; try rfl))
      exact hh
  have good := Good.out hA
  clear Bad Good
  by_cases ht0 : t = []
  · subst ht0
    have good : R (.ret (.tup [.str [], .int .i64 0])) S := good
    have hbe := fun S' ha => bldEmpty w0 S' S.length ha
    have hva := Hva.out
    have hr := Hr.out
    have hc0 : ((0 : Nat) : Int) = 0 := rfl
    by_cases hs0 : s.length = 0
    · have b1 : ((0 : Int) != (s.length : Int)) = false := by rw [hs0]; rfl
      clear hA hs0 hs htl
      refine enter Tryz.func69 rfl (by decide +kernel) (by rw [Tryz.ntmps69]; simp) (by rw [Tryz.ntmps69]; decide) (fun hO => ?_); rw [Tryz.ntmps69]
      repeat' first | refine st ?_ | (refine ca ?_; first | apply htr | apply hr | apply hva | (apply hbe; (· simp only [go_sem, *]; try rfl))) | (refine br ?_ ?_; all_goals (intro hb; try simp only [Bool.not_eq_true', Bool.not_eq_false'] at hb)) | apply x_loop | apply x_lp | fail
      (apply f_ret; iterate 7 (· simp only [go_sem, *, Tryz.results69]; try rfl))
      exact good
    · have b1 : ((0 : Int) != (s.length : Int)) = true := by rw [bne_iff_ne]; omega
      simp at hA
      have b2 : (((s.length % 4 : Nat) : Int) != 0) = false := by rw [bne_eq_false_iff_eq]; omega
      have b3 : decide ((2 : Int) < ((s.length - ([] : List UInt8).length : Nat) : Int)) = false := by simp; omega
      exfalso
      omega
  have Good := Lib.hid good
  have hpos : 0 < t.length := List.length_pos_iff.2 ht0
  clear good ht0
  have HA := Lib.hid (And.intro hA (And.intro hs htl))
  have Hpos := Lib.hid hpos
  clear hA hs htl hpos
  refine enter Tryz.func69 rfl (by decide +kernel) (by rw [Tryz.ntmps69]; simp) (by rw [Tryz.ntmps69]; decide) (fun hO => ?_); rw [Tryz.ntmps69]
  refine share ?K1 ?hK1 fun key1 => ?main
  case main =>
    have hva := Hva.out
    have hr := Hr.out
    replace key1 := Lib.hid key1
    obtain ⟨hA, hs, htl⟩ := HA.out
    by_cases h1 : t.length = s.length
    · have b1 : ((t.length : Int) != (s.length : Int)) = false := by rw [h1]; simp
      clear hA h1 hs htl
      repeat' first | refine st ?_ | (refine ca ?_; first | apply htr | apply hr | apply hva) | (refine br ?_ ?_; all_goals (intro hb; try simp only [Bool.not_eq_true', Bool.not_eq_false'] at hb)) | fail
      refine x_gen [1000000, 4, 5, 6, 7, 8, 9, 41, 42] ?_
      simp only [agreeL, go_sem]
      exact key1.out
    · have b1 : ((t.length : Int) != (s.length : Int)) = true := by rw [bne_iff_ne]; omega
      have b2 : (((s.length % 4 : Nat) : Int) != 0) = false := by rw [bne_eq_false_iff_eq]; omega
      have b3 : decide ((2 : Int) < ((s.length - t.length : Nat) : Int)) = false := by simp; omega
      clear hA h1 hs htl
      repeat' first | refine st ?_ | (refine ca ?_; first | apply htr | apply hr | apply hva) | (refine br ?_ ?_; all_goals (intro hb; try simp only [Bool.not_eq_true', Bool.not_eq_false'] at hb)) | fail
      refine x_gen [1000000, 4, 5, 6, 7, 8, 9, 41, 42] ?_
      simp only [agreeL, go_sem]
      exact key1.out
  case hK1 =>
    rintro env ⟨e0, f4, f5, f6, f7, f8, f9, f41, f42⟩
    clear htr
    refine x_thawC (a := S.length) (j := 1) 5 1 (by (simp only [go_sem, *]; try rfl)) (by (simp only [go_sem, *]; try rfl)) (by decide) ?_
    simp only [go_sem, *]
    refine x_ind (fun (p : Nat × Nat × AV × List Nat) env S' => p.1 ≤ t.length ∧ (p.2.2.1 = .nilp ∨ p.2.2.1 = .own S.length 0) ∧ valsC (t.take p.1) = some p.2.2.2 ∧ env 1000000 = .dfr [] ∧ env 4 = .str t ∧ env 5 = .own S.length 0 ∧ env 6 = .fn (.func 114) [] [.own (S.length + 5) 0, .own (S.length + 1) 0, .own (S.length + 4) 0, .own (S.length + 2) 0, .own (S.length + 3) 0] ∧
      env 7 = .mval M ∧ env 8 = .int .i64 ((stD p.2.2.2).wait : Nat) ∧ env 9 = .int .i64 ((stD p.2.2.2).rest : Nat) ∧ env 41 = .int .i64 t.length ∧ env 42 = .int .i64 (p.1 : Int) ∧
      S' = S ++ blkE S.length p.2.2.1 p.2.1 ((stD p.2.2.2).out.map UInt8.ofNat) 6 8 (.fn (.func 105) [] [.own S.length 0]) ((stD p.2.2.2).wait : Nat) ((stD p.2.2.2).rest : Nat)) (fun p => t.length - p.1) (0, 0, .nilp, []) ?_ ?_
    · exact ⟨Nat.zero_le _, .inl rfl, rfl, by (simp only [go_sem, *]; try rfl), by (simp only [go_sem, *]; try rfl), by (simp only [go_sem, *]; try rfl), by (simp only [go_sem, *]; try rfl), by (simp only [go_sem, *]; try rfl), by (simp only [go_sem, *]; try rfl), by (simp only [go_sem, *]; try rfl), by (simp only [go_sem, *]; try rfl), by (simp only [go_sem, *]; try rfl), rfl⟩
    · clear e0 f4 f5 f6 f7 f8 f9 f41 f42
      rintro ⟨k, i, ad, V⟩ env S' ⟨hk, had, hV, e0, f4, f5, f6, f7, f8, f9, f41, f42, rfl⟩ IH
      simp only at hk had hV f8 f9 f42
      have HI := Lib.hid IH
      obtain ⟨hVm, hV64⟩ := vals_some hV
      have hVl : V.length = k := by have := congrArg List.length hVm; simp at this; omega
      obtain ⟨hi1, hi2⟩ := stD_inv V.length V rfl hV64
      obtain ⟨hA, hs, htl⟩ := HA.out
      clear IH hVm
      by_cases hlt : k < t.length
      · obtain ⟨c, hx⟩ : ∃ c, t[k]? = some c := ⟨_, List.getElem?_eq_getElem hlt⟩
        have h1 : decide ((k : Int) < (t.length : Int)) = true := by simpa using hlt
        have hw : IntKind.i64.wrap ((k : Int) + 1) = (k : Int) + 1 := IntWalk.i64_in _ (by omega)
        have hlk := fun S' => Hlk.out S' c
        cases hc : valC c with
        | none =>
          have hbad : valsC t = none := vals_bad hx hc
          have hh := Good.out
          rw [hbad] at hh
          have hh : R (.ret (.tup [.str [], .int .i64 6])) S := hh
          simp only [hc, lkW] at hlk
          have Hlk2 := Lib.hid hlk
          clear hlk hbad hc hlt hk had hV hs htl hA hi1 hi2 hVl hV64 HI
          unfold blkE
          repeat' first | refine st ?_ | (refine br ?_ ?_; all_goals (intro hb; try simp only [Bool.not_eq_true', Bool.not_eq_false'] at hb)) | fail
          refine x_step (v := .tup [.int .i64 0, .bool false]) (by (simp only [go_sem, *]; try rfl)) (step_lk (Hlk2.out _)) (by (simp only [go_sem, *]; try rfl)) ?_
          simp only [putA]
          repeat' first | refine st ?_ | (refine br ?_ ?_; all_goals (intro hb; try simp only [Bool.not_eq_true', Bool.not_eq_false'] at hb)) | fail
          (apply f_ret; iterate 7 (· simp only [go_sem, *, Tryz.results69]; try rfl))
          exact hh
        | some v =>
          have hv : v < 64 := (val_some hc).1
          have hV2 : valsC (t.take (k + 1)) = some (V ++ [v]) := by
            rw [List.take_add_one, hx]
            show valsC (t.take k ++ [c]) = _
            rw [vals_snoc, hV, hc]
            rfl
          simp only [hc, lkW] at hlk
          have hg := regD w0 S hO ad had i (stD V) v hv hi1 (by omega)
          rw [← stD_snoc] at hg
          generalize hp1 : ((stD (V ++ [v])).wait : Int) = p1 at hg
          generalize hp2 : ((stD (V ++ [v])).rest : Int) = p2 at hg
          generalize hp3 : (stD (V ++ [v])).out.map UInt8.ofNat = p3 at hg
          have Hp := Lib.hid (And.intro hp1 (And.intro hp2 hp3))
          clear hp1 hp2 hp3
          unfold blkE at hg
          simp only at hg ⊢
          generalize ((stD V).wait : Int) = q1 at *
          generalize ((stD V).rest : Int) = q2 at *
          generalize (stD V).out.map UInt8.ofNat = q3 at *
          have Hlt := Lib.hid hlt
          have HO := Lib.hid hO
          have Hlk2 := Lib.hid hlk
          have HV2 := Lib.hid hV2
          clear hlk hc hlt hk had hV hs htl hA hi1 hi2 hVl hV64 hO hv hV2
          unfold blkE
          repeat' first | refine st ?_ | (refine br ?_ ?_; all_goals (intro hb; try simp only [Bool.not_eq_true', Bool.not_eq_false'] at hb)) | fail
          refine x_step (v := .tup [.int .i64 v, .bool true]) (by (simp only [go_sem, *]; try rfl)) (step_lk (Hlk2.out _)) (by (simp only [go_sem, *]; try rfl)) ?_
          simp only [putA]
          repeat' first | refine st ?_ | (refine ca ?_; first | apply hg) | (refine br ?_ ?_; all_goals (intro hb; try simp only [Bool.not_eq_true', Bool.not_eq_false'] at hb)) | fail
          intro ad' i' had'
          have Had := Lib.hid had'
          clear had'
          repeat' first | refine st ?_ | (refine br ?_ ?_; all_goals (intro hb; try simp only [Bool.not_eq_true', Bool.not_eq_false'] at hb)) | fail
          obtain ⟨hp1, hp2, hp3⟩ := Hp.out
          subst hp1 hp2 hp3
          refine HI.out (k + 1, i', ad', V ++ [v]) _ _ (by have := Hlt.out; simp only; omega) ⟨Hlt.out, Had.out, HV2.out, ?_, ?_, ?_, ?_, ?_, ?_, ?_, ?_, ?_, rfl⟩
          all_goals (simp only [go_sem, *]; try rfl)
      · have hkl : k = t.length := by omega
        subst hkl
        have h1 : decide ((t.length : Int) < (t.length : Int)) = false := by simp
        rw [List.take_length] at hV
        have hh := Good.out
        rw [hV] at hh
        simp only at hh
        rw [← stD_decV V hV64] at hh
        have hol := dec_outlen V
        have hwi := dec_wait V
        rw [← stD_decV V hV64] at hol hwi
        have hp := Hpos.out
        simp only
        by_cases hw6 : (stD V).wait = 6
        · rw [if_pos (.inl hw6)] at hh
          have hh : R (.ret (.tup [.str [], .int .i64 6])) S := hh
          have d1 : (((stD V).wait : Int) == 6) = true := by rw [hw6]; rfl
          clear hk had hV hs htl hA hi1 hi2 hVl hV64 HI hw6 hol hwi hp hlt
          unfold blkE
          generalize ((stD V).wait : Int) = q1 at *
          generalize ((stD V).rest : Int) = q2 at *
          repeat' first | refine st ?_ | (refine br ?_ ?_; all_goals (intro hb; try simp only [Bool.not_eq_true', Bool.not_eq_false'] at hb)) | fail
          (apply f_ret; iterate 7 (· simp only [go_sem, *, Tryz.results69]; try rfl))
          exact hh
        · have d1 : (((stD V).wait : Int) == 6) = false := by rw [beq_eq_false_iff_ne]; omega
          by_cases hr0 : (stD V).rest = 0
          · rw [if_neg (by omega)] at hh
            have hh : R (.ret (.tup [.str ((stD V).out.map UInt8.ofNat), .int .i64 0])) S := hh
            have d2 : (((stD V).rest : Int) != 0) = false := by rw [hr0]; rfl
            have hbl : 1 ≤ ((stD V).out.map UInt8.ofNat).length := by rw [List.length_map]; omega
            have hst := bsE w0 S ad had i ((stD V).out.map UInt8.ofNat) 6 8 (.fn (.func 105) [] [.own S.length 0]) ((stD V).wait : Nat) ((stD V).rest : Nat) hbl
            have HO := Lib.hid hO
            clear hk had hV hs htl hA hi1 hi2 hVl hV64 HI hw6 hol hwi hp hlt hr0 hbl hO
            generalize ((stD V).wait : Int) = q1 at *
            generalize ((stD V).rest : Int) = q2 at *
            generalize (stD V).out.map UInt8.ofNat = q3 at *
            unfold blkE at hst ⊢
            repeat' first | refine st ?_ | (refine ca ?_; first | apply hst) | (refine br ?_ ?_; all_goals (intro hb; try simp only [Bool.not_eq_true', Bool.not_eq_false'] at hb)) | fail
            (apply f_ret; iterate 7 (· simp only [go_sem, *, Tryz.results69]; try rfl))
            exact hh
          · rw [if_pos (.inr hr0)] at hh
            have hh : R (.ret (.tup [.str [], .int .i64 6])) S := hh
            have d2 : (((stD V).rest : Int) != 0) = true := by rw [bne_iff_ne]; omega
            clear hk had hV hs htl hA hi1 hi2 hVl hV64 HI hw6 hol hwi hp hlt hr0
            generalize ((stD V).wait : Int) = q1 at *
            generalize ((stD V).rest : Int) = q2 at *
            unfold blkE
            repeat' first | refine st ?_ | (refine br ?_ ?_; all_goals (intro hb; try simp only [Bool.not_eq_true', Bool.not_eq_false'] at hb)) | fail
            (apply f_ret; iterate 7 (· simp only [go_sem, *, Tryz.results69]; try rfl))
            exact hh
end Go.Proofs.YtfnnjkbhmoomjaaGreatDoor
namespace Go.Proofs.YtfnnjkbhmoomjaaGreatDoor
open Go Go.Fen
set_option linter.unusedSimpArgs false
set_option linter.unusedVariables false
attribute [local irreducible] RunX WP ACall AnyP OpA ProtL afterCall afterOp
set_option maxRecDepth 8000
def DeB (w0 : World) : Prop := gl w0 8 = .pro [.int .u8 0, .int .u8 1, .int .u8 56, .int .u8 2, .int .u8 57, .int .u8 49, .int .u8 28, .int .u8 3, .int .u8 61, .int .u8 58, .int .u8 42, .int .u8 50, .int .u8 38, .int .u8 29, .int .u8 17, .int .u8 4, .int .u8 62, .int .u8 47, .int .u8 59, .int .u8 36, .int .u8 45, .int .u8 43, .int .u8 51, .int .u8 22, .int .u8 53, .int .u8 39, .int .u8 33, .int .u8 30, .int .u8 24, .int .u8 18, .int .u8 12, .int .u8 5, .int .u8 63, .int .u8 55, .int .u8 48, .int .u8 27, .int .u8 60, .int .u8 41, .int .u8 37, .int .u8 16, .int .u8 46, .int .u8 35, .int .u8 44, .int .u8 21, .int .u8 52, .int .u8 32, .int .u8 23, .int .u8 11, .int .u8 54, .int .u8 26, .int .u8 40, .int .u8 15, .int .u8 34, .int .u8 20, .int .u8 31, .int .u8 10, .int .u8 25, .int .u8 14, .int .u8 19, .int .u8 9, .int .u8 13, .int .u8 8, .int .u8 7, .int .u8 6]
def Nam (w0 : World) : Prop := gl w0 1 = .pro [.int .i64 0, .int .i64 13434880, .int .i64 52480, .int .i64 13487360, .int .i64 238, .int .i64 13435085, .int .i64 52685, .int .i64 15066597, .int .i64 8355711, .int .i64 16711680, .int .i64 65280, .int .i64 16776960, .int .i64 6053119, .int .i64 16711935, .int .i64 65535, .int .i64 16777215]
def namL : List Nat := [0, 13434880, 52480, 13487360, 238, 13435085, 52685, 15066597, 8355711, 16711680, 65280, 16776960, 6053119, 16711935, 65535, 16777215]
theorem nam_at : ∀ n, n < 16 → ∃ v rr, List.drop (n * 1) ([.int .i64 0, .int .i64 13434880, .int .i64 52480, .int .i64 13487360, .int .i64 238, .int .i64 13435085, .int .i64 52685, .int .i64 15066597, .int .i64 8355711, .int .i64 16711680, .int .i64 65280, .int .i64 16776960, .int .i64 6053119, .int .i64 16711935, .int .i64 65535, .int .i64 16777215] : List AV) = .int .i64 (v : Nat) :: rr ∧ v ≤ 16777215 := by
  intro n hn
  have h1 : (namL.map (fun v : Nat => AV.int .i64 (v : Int))) = ([.int .i64 0, .int .i64 13434880, .int .i64 52480, .int .i64 13487360, .int .i64 238, .int .i64 13435085, .int .i64 52685, .int .i64 15066597, .int .i64 8355711, .int .i64 16711680, .int .i64 65280, .int .i64 16776960, .int .i64 6053119, .int .i64 16711935, .int .i64 65535, .int .i64 16777215] : List AV) := rfl
  have h2 : ∀ n, n < 16 → ∃ v, namL[n]? = some v ∧ v ≤ 16777215 := by
    have : ∀ n, n < 16 → namL.getD n 99999999 ≤ 16777215 ∧ n < namL.length := by decide
    intro n hn
    obtain ⟨h1, h2⟩ := this n hn
    refine ⟨namL[n], List.getElem?_eq_getElem h2, ?_⟩
    rwa [List.getD_eq_getElem?_getD, List.getElem?_eq_getElem h2] at h1
  obtain ⟨v, hv, hvl⟩ := h2 n hn
  refine ⟨v, (namL.map (fun v : Nat => AV.int .i64 (v : Int))).drop (n + 1), ?_, hvl⟩
  have hl := (List.getElem?_eq_some_iff.1 hv)
  rw [Nat.mul_one, ← h1, List.drop_eq_getElem_cons (by simpa using hl.1)]
  simp [hl.2]
theorem oLevel (w0 : World) (S : List Blk) (n : Nat) (hn : n < 6) (R : AOut → List Blk → Prop) (h : R (.ret (.int .i64 (if n = 0 then 0 else (55 + 40 * n : Nat) : Nat))) S) : ACall Tryz.prog w0 136 [.int .i64 n] S R := by
  by_cases h0 : n = 0
  · subst h0
    have h : R (.ret (.int .i64 0)) S := h
    refine enter Tryz.func136 rfl (by decide +kernel) (by rw [Tryz.ntmps136]; simp) (by rw [Tryz.ntmps136]; decide) (fun hO => ?_); rw [Tryz.ntmps136]
    repeat' first | refine st ?_ | (refine br ?_ ?_; all_goals (intro hb; try simp only [Bool.not_eq_true', Bool.not_eq_false'] at hb)) | fail
    (apply f_ret; iterate 7 (· simp only [go_sem, *, Tryz.results136]; try rfl))
    exact h
  · rw [if_neg h0] at h
    have d1 : ((n : Int) == 0) = false := by rw [beq_eq_false_iff_ne]; omega
    have w1 : IntKind.i64.wrap (40 * (n : Int)) = ((40 * n : Nat) : Int) := by rw [IntWalk.i64_in _ (by omega)]; omega
    have w2 : IntKind.i64.wrap (55 + ((40 * n : Nat) : Int)) = ((55 + 40 * n : Nat) : Int) := by rw [IntWalk.i64_in _ (by omega)]; omega
    clear hn h0
    refine enter Tryz.func136 rfl (by decide +kernel) (by rw [Tryz.ntmps136]; simp) (by rw [Tryz.ntmps136]; decide) (fun hO => ?_); rw [Tryz.ntmps136]
    repeat' first | refine st ?_ | (refine br ?_ ?_; all_goals (intro hb; try simp only [Bool.not_eq_true', Bool.not_eq_false'] at hb)) | fail
    (apply f_ret; iterate 7 (· simp only [go_sem, *, Tryz.results136]; try rfl))
    exact h
def lvl (n : Nat) : Nat := if n = 0 then 0 else 55 + 40 * n
theorem lvl_le {n : Nat} (h : n < 6) : lvl n < 256 := by unfold lvl; split <;> omega
end Go.Proofs.YtfnnjkbhmoomjaaGreatDoor
namespace Go.Proofs.YtfnnjkbhmoomjaaGreatDoor
open Go Go.Fen
set_option linter.unusedSimpArgs false
set_option linter.unusedVariables false
attribute [local irreducible] RunX WP ACall AnyP OpA ProtL afterCall afterOp
set_option maxRecDepth 8000
theorem orN {a b : Nat} (ha : a < 16777216) (hb : b < 16777216) : IntKind.i64.wrap (((BitVec.ofInt IntKind.i64.bits (a : Int) ||| BitVec.ofInt IntKind.i64.bits (b : Int)).toNat : Nat) : Int) = ((a ||| b : Nat) : Int) ∧ a ||| b < 16777216 := by
  have hl : a ||| b < 2 ^ 24 := Nat.or_lt_two_pow ha hb
  refine ⟨?_, hl⟩
  rw [BitVec.toNat_or]
  have e2 : (BitVec.ofInt IntKind.i64.bits (a : Int)).toNat = a := by
    show (BitVec.ofInt 64 _).toNat = _
    rw [BitVec.toNat_ofInt]; omega
  have e3 : (BitVec.ofInt IntKind.i64.bits (b : Int)).toNat = b := by
    show (BitVec.ofInt 64 _).toNat = _
    rw [BitVec.toNat_ofInt]; omega
  rw [e2, e3]
  exact IntWalk.i64_in _ (by omega)
theorem shlK {a k : Nat} (ha : a < 65536) (hk : k ≤ 16) : IntKind.i64.wrap ((a : Int) * 2 ^ min k 64) = ((a * 2 ^ k : Nat) : Int) := by
  have h2 : 2 ^ k ≤ 2 ^ 16 := Nat.pow_le_pow_right (by omega) hk
  have h3 : a * 2 ^ k ≤ 65536 * 65536 := Nat.mul_le_mul (by omega) h2
  rw [Nat.min_eq_left (by omega), show ((a : Int) * 2 ^ k) = ((a * 2 ^ k : Nat) : Int) by simp]
  exact IntWalk.i64_in _ (by omega)
set_option maxHeartbeats 4000000 in
theorem oAt (w0 : World) (hN : Nam w0) (S : List Blk) (n : Nat) (hn : n < 256) (R : AOut → List Blk → Prop) (h : ∀ v : Nat, v < 16777216 → R (.ret (.int .i64 v)) S) : ACall Tryz.prog w0 112 [.int .i64 n] S R := by
  unfold Nam at hN
  by_cases h16 : n < 16
  · have d1 : decide ((n : Int) < 16) = true := by simp; omega
    have hk6 : (n : Int) < ((16 : Nat) : Int) := by omega
    obtain ⟨v, rr, hv, hvl⟩ := nam_at n h16
    have hh := h v (by omega)
    clear h hn h16 hvl
    refine enter Tryz.func112 rfl (by decide +kernel) (by rw [Tryz.ntmps112]; simp) (by rw [Tryz.ntmps112]; decide) (fun hO => ?_); rw [Tryz.ntmps112]
    repeat' first | refine st ?_ | (refine br ?_ ?_; all_goals (intro hb; try simp only [Bool.not_eq_true', Bool.not_eq_false'] at hb)) | fail
    (apply f_ret; iterate 7 (· simp only [go_sem, *, Tryz.results112]; try rfl))
    exact hh
  have d1 : decide ((n : Int) < 16) = false := by simp; omega
  by_cases h232 : 232 ≤ n
  · have d2 : decide ((232 : Int) ≤ (n : Int)) = true := by simp; omega
    have w1 : IntKind.i64.wrap ((n : Int) - 232) = ((n - 232 : Nat) : Int) := by rw [IntWalk.i64_in _ (by omega)]; omega
    have w2 : IntKind.i64.wrap (10 * ((n - 232 : Nat) : Int)) = ((10 * (n - 232) : Nat) : Int) := by rw [IntWalk.i64_in _ (by omega)]; omega
    have w3 : IntKind.i64.wrap (8 + ((10 * (n - 232) : Nat) : Int)) = ((8 + 10 * (n - 232) : Nat) : Int) := by rw [IntWalk.i64_in _ (by omega)]; omega
    have w4 : IntKind.i64.wrap (((8 + 10 * (n - 232) : Nat) : Int) * 65793) = (((8 + 10 * (n - 232)) * 65793 : Nat) : Int) := by rw [IntWalk.i64_in _ (by omega)]; omega
    have hh := h ((8 + 10 * (n - 232)) * 65793) (by omega)
    clear h hn h16 h232 hN
    refine enter Tryz.func112 rfl (by decide +kernel) (by rw [Tryz.ntmps112]; simp) (by rw [Tryz.ntmps112]; decide) (fun hO => ?_); rw [Tryz.ntmps112]
    repeat' first | refine st ?_ | (refine br ?_ ?_; all_goals (intro hb; try simp only [Bool.not_eq_true', Bool.not_eq_false'] at hb)) | fail
    (apply f_ret; iterate 7 (· simp only [go_sem, *, Tryz.results112]; try rfl))
    exact hh
  · have d2 : decide ((232 : Int) ≤ (n : Int)) = false := by simp; omega
    obtain ⟨m, hm⟩ : ∃ m, m = n - 16 := ⟨_, rfl⟩
    have w1 : IntKind.i64.wrap ((n : Int) - 16) = (m : Int) := by rw [IntWalk.i64_in _ (by omega)]; omega
    have k1 : IntKind.i64.wrap ((m : Int).tdiv 36) = ((m / 36 : Nat) : Int) := tdK m 36 (by omega)
    have k2 : IntKind.i64.wrap ((m : Int).tdiv 6) = ((m / 6 : Nat) : Int) := tdK m 6 (by omega)
    have k3 : ((m / 6 : Nat) : Int).tmod 6 = ((m / 6 % 6 : Nat) : Int) := tmK (m / 6) 6
    have k4 : (m : Int).tmod 6 = ((m % 6 : Nat) : Int) := tmK m 6
    have l1 := fun S' => oLevel w0 S' (m / 36) (by omega)
    have l2 := fun S' => oLevel w0 S' (m / 6 % 6) (by omega)
    have l3 := fun S' => oLevel w0 S' (m % 6) (by omega)
    have b1 := lvl_le (n := m / 36) (by omega)
    have b2 := lvl_le (n := m / 6 % 6) (by omega)
    have b3 := lvl_le (n := m % 6) (by omega)
    rw [show (if m / 36 = 0 then 0 else (55 + 40 * (m / 36) : Nat)) = lvl (m / 36) from rfl] at l1
    rw [show (if m / 6 % 6 = 0 then 0 else (55 + 40 * (m / 6 % 6) : Nat)) = lvl (m / 6 % 6) from rfl] at l2
    rw [show (if m % 6 = 0 then 0 else (55 + 40 * (m % 6) : Nat)) = lvl (m % 6) from rfl] at l3
    generalize lvl (m / 36) = L1 at *
    generalize lvl (m / 6 % 6) = L2 at *
    generalize lvl (m % 6) = L3 at *
    have s1 := shlK (a := L1) (k := 16) (by omega) (by omega)
    have s2 := shlK (a := L2) (k := 8) (by omega) (by omega)
    obtain ⟨a1, ha1⟩ : ∃ a1, a1 = L1 * 2 ^ 16 := ⟨_, rfl⟩
    obtain ⟨a2, ha2⟩ : ∃ a2, a2 = L2 * 2 ^ 8 := ⟨_, rfl⟩
    rw [← ha1] at s1
    rw [← ha2] at s2
    obtain ⟨o1, q1⟩ := orN (a := a1) (b := a2) (by omega) (by omega)
    obtain ⟨o2, q2⟩ := orN (a := a1 ||| a2) (b := L3) q1 (by omega)
    simp only [IntKind.bits] at o1 o2
    have hh := h _ q2
    generalize a1 ||| a2 = a3 at *
    generalize a3 ||| L3 = a4 at *
    clear h hn h16 h232 hm b1 b2 b3 ha1 ha2 q1 q2 hN
    refine enter Tryz.func112 rfl (by decide +kernel) (by rw [Tryz.ntmps112]; simp) (by rw [Tryz.ntmps112]; decide) (fun hO => ?_); rw [Tryz.ntmps112]
    repeat' first | refine st ?_ | (refine ca ?_; first | apply l1 | apply l2 | apply l3) | (refine br ?_ ?_; all_goals (intro hb; try simp only [Bool.not_eq_true', Bool.not_eq_false'] at hb)) | fail
    (apply f_ret; iterate 7 (· simp only [go_sem, *, Tryz.results112]; try rfl))
    exact hh
end Go.Proofs.YtfnnjkbhmoomjaaGreatDoor
namespace Go.Proofs.YtfnnjkbhmoomjaaGreatDoor
open Go Go.Fen
set_option linter.unusedSimpArgs false
set_option linter.unusedVariables false
attribute [local irreducible] RunX WP ACall AnyP OpA ProtL afterCall afterOp
set_option maxRecDepth 8000
set_option maxHeartbeats 1000000 in
theorem isPow (w0 : World) (S : List Blk) (R : AOut → List Blk → Prop) (h : R (.ret (.bool true)) S) : ACall Tryz.prog w0 162 [.int .i64 16] S R := by
  have f1 : IntKind.i64.wrap 15 = 15 := by decide
  have f2 : IntKind.i64.wrap (((BitVec.ofInt IntKind.i64.bits 16 &&& BitVec.ofInt IntKind.i64.bits 15).toNat : Nat) : Int) = 0 := by decide
  simp only [IntKind.bits] at f2
  refine enter Tryz.func162 rfl (by decide +kernel) (by rw [Tryz.ntmps162]; simp) (by rw [Tryz.ntmps162]; decide) (fun hO => ?_); rw [Tryz.ntmps162]
  repeat' first | refine st ?_ | (refine br ?_ ?_; all_goals (intro hb; try simp only [Bool.not_eq_true', Bool.not_eq_false'] at hb)) | fail
  (apply f_ret; iterate 7 (· simp only [go_sem, *, Tryz.results162]; try rfl))
  exact h
set_option maxHeartbeats 1000000 in
theorem tz64 (w0 : World) (hD : DeB w0) (S : List Blk) (R : AOut → List Blk → Prop) (h : R (.ret (.int .i64 4)) S) : ACall Tryz.prog w0 173 [.int .u64 16] S R := by
  unfold DeB at hD
  have f1 : IntKind.u64.wrap (-16) = 18446744073709551600 := by decide
  have f2 : IntKind.u64.wrap (((BitVec.ofInt IntKind.u64.bits 16 &&& BitVec.ofInt IntKind.u64.bits 18446744073709551600).toNat : Nat) : Int) = 16 := by decide
  have f3 : IntKind.u64.wrap (16 * 285870213051353865) = 4573923408821661840 := by decide
  have f4 : (4573923408821661840 : Int).fdiv (2 ^ min 58 64) = 15 := by decide
  have f5 : IntKind.i64.wrap 4 = 4 := by decide
  simp only [IntKind.bits] at f2
  refine enter Tryz.func173 rfl (by decide +kernel) (by rw [Tryz.ntmps173]; simp) (by rw [Tryz.ntmps173]; decide) (fun hO => ?_); rw [Tryz.ntmps173]
  repeat' first | refine st ?_ | (refine br ?_ ?_; all_goals (intro hb; try simp only [Bool.not_eq_true', Bool.not_eq_false'] at hb)) | fail
  (apply f_ret; iterate 7 (· simp only [go_sem, *, Tryz.results173]; try rfl))
  exact h
set_option maxHeartbeats 1000000 in
theorem tz (w0 : World) (hD : DeB w0) (S : List Blk) (R : AOut → List Blk → Prop) (h : R (.ret (.int .i64 4)) S) : ACall Tryz.prog w0 163 [.int .u64 16] S R := by
  have ht := tz64 w0 hD
  refine enter Tryz.func163 rfl (by decide +kernel) (by rw [Tryz.ntmps163]; simp) (by rw [Tryz.ntmps163]; decide) (fun hO => ?_); rw [Tryz.ntmps163]
  repeat' first | refine st ?_ | (refine ca ?_; first | apply ht) | (refine br ?_ ?_; all_goals (intro hb; try simp only [Bool.not_eq_true', Bool.not_eq_false'] at hb)) | fail
  (apply f_ret; iterate 7 (· simp only [go_sem, *, Tryz.results163]; try rfl))
  exact h
theorem andU {m k : Nat} (hm : m < 4294967296) (hk : k ≤ 16) : IntKind.u64.wrap (((BitVec.ofInt IntKind.u64.bits (m : Int) &&& BitVec.ofInt IntKind.u64.bits ((2 ^ k - 1 : Nat) : Int)).toNat : Nat) : Int) = ((m % 2 ^ k : Nat) : Int) := by
  rw [BitVec.toNat_and]
  have h2 : 2 ^ k ≤ 2 ^ 16 := Nat.pow_le_pow_right (by omega) hk
  have h0 : 0 < 2 ^ k := Nat.two_pow_pos k
  have e1 : (BitVec.ofInt IntKind.u64.bits (m : Int)).toNat = m := by
    show (BitVec.ofInt 64 _).toNat = _
    rw [BitVec.toNat_ofInt]; omega
  have e2 : (BitVec.ofInt IntKind.u64.bits ((2 ^ k - 1 : Nat) : Int)).toNat = 2 ^ k - 1 := by
    show (BitVec.ofInt 64 _).toNat = _
    rw [BitVec.toNat_ofInt]; omega
  rw [e1, e2, Nat.and_two_pow_sub_one_eq_mod m k]
  have := Nat.mod_lt m h0
  exact IntWalk.u64_in _ (by omega)
theorem ze65 : Go.Fen.zeroA Tryz.prog 177 = some [.int .u8 0, .int .u8 0, .int .u8 0, .int .u8 0, .int .u8 0, .int .u8 0, .int .u8 0, .int .u8 0, .int .u8 0, .int .u8 0, .int .u8 0, .int .u8 0, .int .u8 0, .int .u8 0, .int .u8 0, .int .u8 0, .int .u8 0, .int .u8 0, .int .u8 0, .int .u8 0, .int .u8 0, .int .u8 0, .int .u8 0, .int .u8 0, .int .u8 0, .int .u8 0, .int .u8 0, .int .u8 0, .int .u8 0, .int .u8 0, .int .u8 0, .int .u8 0, .int .u8 0, .int .u8 0, .int .u8 0, .int .u8 0, .int .u8 0, .int .u8 0, .int .u8 0, .int .u8 0, .int .u8 0, .int .u8 0, .int .u8 0, .int .u8 0, .int .u8 0, .int .u8 0, .int .u8 0, .int .u8 0, .int .u8 0, .int .u8 0, .int .u8 0, .int .u8 0, .int .u8 0, .int .u8 0, .int .u8 0, .int .u8 0, .int .u8 0, .int .u8 0, .int .u8 0, .int .u8 0, .int .u8 0, .int .u8 0, .int .u8 0, .int .u8 0, .int .u8 0] := by kernel_rfl
theorem dig_at : ∀ d, d < 16 → ([48, 49, 50, 51, 52, 53, 54, 55, 56, 57, 97, 98, 99, 100, 101, 102, 103, 104, 105, 106, 107, 108, 109, 110, 111, 112, 113, 114, 115, 116, 117, 118, 119, 120, 121, 122] : List UInt8)[d]? = some (hexC d) := by decide +kernel
set_option maxHeartbeats 10000000 in
theorem fmtBits (w0 : World) (hD : DeB w0) (S : List Blk) (m : Nat) (h1 : 16777216 ≤ m) (h2 : m < 33554432) (R : AOut → List Blk → Prop)
    (h : ∀ v, R (.ret (.tup [v, .str [49, hexC (m / 16 / 16 / 16 / 16 / 16 % 16), hexC (m / 16 / 16 / 16 / 16 % 16), hexC (m / 16 / 16 / 16 % 16), hexC (m / 16 / 16 % 16), hexC (m / 16 % 16), hexC (m % 16)]])) S) :
    ACall Tryz.prog w0 140 [.sval false [], .int .u64 m, .int .i64 16, .bool false, .bool false] S R := by
  have hp := isPow w0
  have hz := ze65
  have wk58 : IntKind.i64.wrap 58 = 58 := by decide
  have wk59 : IntKind.i64.wrap 59 = 59 := by decide
  have wk60 : IntKind.i64.wrap 60 = 60 := by decide
  have wk61 : IntKind.i64.wrap 61 = 61 := by decide
  have wk62 : IntKind.i64.wrap 62 = 62 := by decide
  have wk63 : IntKind.i64.wrap 63 = 63 := by decide
  have wk64 : IntKind.i64.wrap 64 = 64 := by decide
  have wk65 : IntKind.i64.wrap 65 = 65 := by decide
  have htz := tz w0 hD
  have f1 : IntKind.u64.wrap 16 = 16 := by decide
  have f2 : IntKind.u64.wrap 4 = 4 := by decide
  have f3 : IntKind.u64.wrap 15 = 15 := by decide
  obtain ⟨u1, hu1⟩ : ∃ u, u = m / 16 := ⟨_, rfl⟩
  obtain ⟨u2, hu2⟩ : ∃ u, u = u1 / 16 := ⟨_, rfl⟩
  obtain ⟨u3, hu3⟩ : ∃ u, u = u2 / 16 := ⟨_, rfl⟩
  obtain ⟨u4, hu4⟩ : ∃ u, u = u3 / 16 := ⟨_, rfl⟩
  obtain ⟨u5, hu5⟩ : ∃ u, u = u4 / 16 := ⟨_, rfl⟩
  have g0 : decide ((16 : Int) ≤ (m : Int)) = true := by simp; omega
  have a0 : IntKind.u64.wrap (((BitVec.ofInt IntKind.u64.bits (m : Int) &&& BitVec.ofInt IntKind.u64.bits 15).toNat : Nat) : Int) = ((m % 16 : Nat) : Int) := andU (m := m) (k := 4) (by omega) (by omega)
  simp only [IntKind.bits] at a0
  have x0 := dig_at (m % 16) (by omega)
  have s0 : (m : Int).fdiv (2 ^ min 4 64) = (u1 : Int) := by rw [hu1]; exact fdivK m 4 (by omega)
  have g1 : decide ((16 : Int) ≤ (u1 : Int)) = true := by simp; omega
  have a1 : IntKind.u64.wrap (((BitVec.ofInt IntKind.u64.bits (u1 : Int) &&& BitVec.ofInt IntKind.u64.bits 15).toNat : Nat) : Int) = ((u1 % 16 : Nat) : Int) := andU (m := u1) (k := 4) (by omega) (by omega)
  simp only [IntKind.bits] at a1
  have x1 := dig_at (u1 % 16) (by omega)
  have s1 : (u1 : Int).fdiv (2 ^ min 4 64) = (u2 : Int) := by rw [hu2]; exact fdivK u1 4 (by omega)
  have g2 : decide ((16 : Int) ≤ (u2 : Int)) = true := by simp; omega
  have a2 : IntKind.u64.wrap (((BitVec.ofInt IntKind.u64.bits (u2 : Int) &&& BitVec.ofInt IntKind.u64.bits 15).toNat : Nat) : Int) = ((u2 % 16 : Nat) : Int) := andU (m := u2) (k := 4) (by omega) (by omega)
  simp only [IntKind.bits] at a2
  have x2 := dig_at (u2 % 16) (by omega)
  have s2 : (u2 : Int).fdiv (2 ^ min 4 64) = (u3 : Int) := by rw [hu3]; exact fdivK u2 4 (by omega)
  have g3 : decide ((16 : Int) ≤ (u3 : Int)) = true := by simp; omega
  have a3 : IntKind.u64.wrap (((BitVec.ofInt IntKind.u64.bits (u3 : Int) &&& BitVec.ofInt IntKind.u64.bits 15).toNat : Nat) : Int) = ((u3 % 16 : Nat) : Int) := andU (m := u3) (k := 4) (by omega) (by omega)
  simp only [IntKind.bits] at a3
  have x3 := dig_at (u3 % 16) (by omega)
  have s3 : (u3 : Int).fdiv (2 ^ min 4 64) = (u4 : Int) := by rw [hu4]; exact fdivK u3 4 (by omega)
  have g4 : decide ((16 : Int) ≤ (u4 : Int)) = true := by simp; omega
  have a4 : IntKind.u64.wrap (((BitVec.ofInt IntKind.u64.bits (u4 : Int) &&& BitVec.ofInt IntKind.u64.bits 15).toNat : Nat) : Int) = ((u4 % 16 : Nat) : Int) := andU (m := u4) (k := 4) (by omega) (by omega)
  simp only [IntKind.bits] at a4
  have x4 := dig_at (u4 % 16) (by omega)
  have s4 : (u4 : Int).fdiv (2 ^ min 4 64) = (u5 : Int) := by rw [hu5]; exact fdivK u4 4 (by omega)
  have g5 : decide ((16 : Int) ≤ (u5 : Int)) = true := by simp; omega
  have a5 : IntKind.u64.wrap (((BitVec.ofInt IntKind.u64.bits (u5 : Int) &&& BitVec.ofInt IntKind.u64.bits 15).toNat : Nat) : Int) = ((u5 % 16 : Nat) : Int) := andU (m := u5) (k := 4) (by omega) (by omega)
  simp only [IntKind.bits] at a5
  have x5 := dig_at (u5 % 16) (by omega)
  have s5 : (u5 : Int).fdiv (2 ^ min 4 64) = 1 := by rw [fdivK u5 4 (by omega)]; omega
  rw [← hu1] at h
  rw [← hu2] at h
  rw [← hu3] at h
  rw [← hu4] at h
  rw [← hu5] at h
  generalize hexC (m % 16) = c0 at h x0
  generalize m % 16 = e0 at a0 x0
  generalize hexC (u1 % 16) = c1 at h x1
  generalize u1 % 16 = e1 at a1 x1
  generalize hexC (u2 % 16) = c2 at h x2
  generalize u2 % 16 = e2 at a2 x2
  generalize hexC (u3 % 16) = c3 at h x3
  generalize u3 % 16 = e3 at a3 x3
  generalize hexC (u4 % 16) = c4 at h x4
  generalize u4 % 16 = e4 at a4 x4
  generalize hexC (u5 % 16) = c5 at h x5
  generalize u5 % 16 = e5 at a5 x5
  clear h1 h2 hu1 hu2 hu3 hu4 hu5 hD
  refine enter Tryz.func140 rfl (by decide +kernel) (by rw [Tryz.ntmps140]; simp) (by rw [Tryz.ntmps140]; decide) (fun hO => ?_); rw [Tryz.ntmps140]
  repeat' first | refine st ?_ | (refine ca ?_; first | apply hp | apply htz) | (refine br ?_ ?_; all_goals (intro hb; try simp only [Bool.not_eq_true', Bool.not_eq_false'] at hb)) | apply x_loop | apply x_lp | fail
  refine x_frz (t := 12) (a := S.length) (o := 0) (by (simp only [go_sem, *]; try rfl)) (by (simp only [go_sem, *]; try rfl)) ?_
  simp only [go_sem, *]
  refine x_sliceP (i := 58) (kk := .i64) (e := 5) (m := 65) (by (simp only [go_sem, *]; try rfl)) rfl (by (simp only [go_sem, *]; try rfl)) (by (simp only [go_sem, *]; try rfl)) (by (simp only [go_sem, *]; try rfl)) (by show _ = AV.int .i64 58; (simp only [go_sem, *]; try rfl)) (by (simp only [go_sem, *]; try rfl)) (by decide) (by (simp only [go_sem, *]; try rfl)) ?_
  simp only [putA]
  repeat' first | apply x_seq | apply x_skip | apply x_block | apply x_exit | apply x_ret | apply x_ops_nil | apply p_blk | apply p_exit_it | apply p_exit_hit | apply p_ret_it | apply p_ret_blk | apply p_panic_it | apply p_panic_blk | apply p_end | (apply p_exit_miss; (· rfl)) | (apply x_region; simp only [List.toList_toArray]) | (apply x_step0; (· rfl); (· simp only [go_sem, *, UInt8.ofNat_toNat]; try rfl); (· rfl); simp only [putA]) | (apply ac_ret; simp only [putA]) | apply ac_panic | (apply x_panic; (· simp only [go_sem, *, UInt8.ofNat_toNat]; try rfl); (· rfl); (· simp only [go_sem, *, UInt8.ofNat_toNat]; try rfl)) | (apply x_step; (iterate 2 (· simp only [go_sem, *, UInt8.ofNat_toNat]; try rfl)); (· rfl); simp only [putA]) | (apply x_unwanted; (· simp only [go_sem, *, UInt8.ofNat_toNat]; try rfl); (· rfl); simp only [putA]) | (apply x_condT; (· simp only [go_sem, *, UInt8.ofNat_toNat]; try rfl)) | (apply x_condF; (· simp only [go_sem, *, UInt8.ofNat_toNat]; try rfl)) | (apply x_guardS; (· rfl); (fail_if_success (focus (show _ = some true; (· simp only [go_sem, *, UInt8.ofNat_toNat]; try rfl)))); (· simp only [go_sem, *, UInt8.ofNat_toNat]; try rfl); all_goals (intro hb; try simp only [Bool.not_eq_true', Bool.not_eq_false'] at hb)) | (apply x_condS; (· simp only [go_sem, *, UInt8.ofNat_toNat]; try rfl); all_goals (intro hb; try simp only [Bool.not_eq_true', Bool.not_eq_false'] at hb)) | fail
  (apply f_ret; iterate 7 (· simp only [go_sem, *, Tryz.results140]; try rfl))
  exact h _
end Go.Proofs.YtfnnjkbhmoomjaaGreatDoor
namespace Go.Proofs.YtfnnjkbhmoomjaaGreatDoor
open Go Go.Fen
set_option linter.unusedSimpArgs false
set_option linter.unusedVariables false
attribute [local irreducible] RunX WP ACall AnyP OpA ProtL afterCall afterOp
set_option maxRecDepth 8000
theorem orB {v : Nat} (hv : v < 16777216) : IntKind.i64.wrap (((BitVec.ofInt IntKind.i64.bits (v : Int) ||| BitVec.ofInt IntKind.i64.bits 16777216).toNat : Nat) : Int) = ((v + 16777216 : Nat) : Int) := by
  rw [BitVec.toNat_or]
  have e2 : (BitVec.ofInt IntKind.i64.bits (v : Int)).toNat = v := by
    show (BitVec.ofInt 64 _).toNat = _
    rw [BitVec.toNat_ofInt]; omega
  have e3 : (BitVec.ofInt IntKind.i64.bits 16777216).toNat = 16777216 := by decide
  rw [e2, e3]
  have e4 : v ||| 16777216 = v + 16777216 := by
    have := Nat.shiftLeft_add_eq_or_of_lt (b := v) (i := 24) (by omega) 1
    rw [Nat.shiftLeft_eq, Nat.or_comm, show (1 : Nat) * 2 ^ 24 = 16777216 by decide] at this
    omega
  rw [e4]
  exact IntWalk.i64_in _ (by omega)
theorem fmtIn (w0 : World) (hD : DeB w0) (S : List Blk) (m : Nat) (h1 : 16777216 ≤ m) (h2 : m < 33554432) (R : AOut → List Blk → Prop)
    (h : R (.ret (.str [49, hexC (m / 16 / 16 / 16 / 16 / 16 % 16), hexC (m / 16 / 16 / 16 / 16 % 16), hexC (m / 16 / 16 / 16 % 16), hexC (m / 16 / 16 % 16), hexC (m / 16 % 16), hexC (m % 16)])) S) :
    ACall Tryz.prog w0 113 [.int .i64 m, .int .i64 16] S R := by
  have hf := fun S' => fmtBits w0 hD S' m h1 h2
  generalize [49, hexC (m / 16 / 16 / 16 / 16 / 16 % 16), hexC (m / 16 / 16 / 16 / 16 % 16), hexC (m / 16 / 16 / 16 % 16), hexC (m / 16 / 16 % 16), hexC (m / 16 % 16), hexC (m % 16)] = T at hf h
  have w1 : IntKind.u64.wrap (m : Int) = (m : Int) := IntWalk.u64_in _ (by omega)
  have d1 : decide ((m : Int) < 0) = false := by simp
  clear h1 h2 hD
  refine enter Tryz.func113 rfl (by decide +kernel) (by rw [Tryz.ntmps113]; simp) (by rw [Tryz.ntmps113]; decide) (fun hO => ?_); rw [Tryz.ntmps113]
  repeat' first | refine st ?_ | (refine ca ?_; first | apply hf) | (refine br ?_ ?_; all_goals (intro hb; try simp only [Bool.not_eq_true', Bool.not_eq_false'] at hb)) | fail
  intro v
  repeat' first | refine st ?_ | (refine br ?_ ?_; all_goals (intro hb; try simp only [Bool.not_eq_true', Bool.not_eq_false'] at hb)) | fail
  (apply f_ret; iterate 7 (· simp only [go_sem, *, Tryz.results113]; try rfl))
  exact h
theorem fmtI (w0 : World) (hD : DeB w0) (S : List Blk) (m : Nat) (h1 : 16777216 ≤ m) (h2 : m < 33554432) (R : AOut → List Blk → Prop)
    (h : R (.ret (.str [49, hexC (m / 16 / 16 / 16 / 16 / 16 % 16), hexC (m / 16 / 16 / 16 / 16 % 16), hexC (m / 16 / 16 / 16 % 16), hexC (m / 16 / 16 % 16), hexC (m / 16 % 16), hexC (m % 16)])) S) :
    ACall Tryz.prog w0 82 [.int .i64 m, .int .i64 16] S R := by
  have hf := fun S' => fmtIn w0 hD S' m h1 h2
  generalize [49, hexC (m / 16 / 16 / 16 / 16 / 16 % 16), hexC (m / 16 / 16 / 16 / 16 % 16), hexC (m / 16 / 16 / 16 % 16), hexC (m / 16 / 16 % 16), hexC (m / 16 % 16), hexC (m % 16)] = T at hf h
  clear h1 h2 hD
  refine enter Tryz.func82 rfl (by decide +kernel) (by rw [Tryz.ntmps82]; simp) (by rw [Tryz.ntmps82]; decide) (fun hO => ?_); rw [Tryz.ntmps82]
  repeat' first | refine st ?_ | (refine ca ?_; first | apply hf) | (refine br ?_ ?_; all_goals (intro hb; try simp only [Bool.not_eq_true', Bool.not_eq_false'] at hb)) | fail
  (apply f_ret; iterate 7 (· simp only [go_sem, *, Tryz.results82]; try rfl))
  exact h
theorem rgb_dig {n : Nat} (h : n < 16777216) : (n + 16777216) / 16 / 16 / 16 / 16 / 16 % 16 = n / 1048576 ∧ (n + 16777216) / 16 / 16 / 16 / 16 % 16 = n / 65536 % 16 ∧ (n + 16777216) / 16 / 16 / 16 % 16 = n / 4096 % 16 ∧ (n + 16777216) / 16 / 16 % 16 = n / 256 % 16 ∧ (n + 16777216) / 16 % 16 = n / 16 % 16 ∧ (n + 16777216) % 16 = n % 16 := by
  omega
theorem oRgb0 (w0 : World) (S : List Blk) (n : Int) (hn : colB 0 n = true) (R : AOut → List Blk → Prop) (h : R (.ret (.tup [.int .i64 0, .bool false])) S) : ACall Tryz.prog w0 81 [.agg [.int .i64 0, .int .i64 n]] S R := by
  have hc := fun S' => oColCheck w0 S' 0 n
  rw [hn, if_pos rfl] at hc
  clear hn
  refine enter Tryz.func81 rfl (by decide +kernel) (by rw [Tryz.ntmps81]; simp) (by rw [Tryz.ntmps81]; decide) (fun hO => ?_); rw [Tryz.ntmps81]
  repeat' first | refine st ?_ | (refine ca ?_; first | apply hc) | (refine br ?_ ?_; all_goals (intro hb; try simp only [Bool.not_eq_true', Bool.not_eq_false'] at hb)) | fail
  (apply f_ret; iterate 7 (· simp only [go_sem, *, Tryz.results81]; try rfl))
  exact h
theorem oRgb1 (w0 : World) (hN : Nam w0) (S : List Blk) (n : Int) (hn : colB 1 n = true) (R : AOut → List Blk → Prop) (h : ∀ v : Nat, v < 16777216 → R (.ret (.tup [.int .i64 v, .bool true])) S) : ACall Tryz.prog w0 81 [.agg [.int .i64 1, .int .i64 n]] S R := by
  have hc := fun S' => oColCheck w0 S' 1 n
  rw [hn, if_pos rfl] at hc
  have hb : 0 ≤ n ∧ n ≤ 255 := by simpa [colB, limO] using hn
  obtain ⟨u, rfl⟩ : ∃ u : Nat, n = u := ⟨n.toNat, by omega⟩
  have ha := fun S' => oAt w0 hN S' u (by omega)
  clear hn hb
  refine enter Tryz.func81 rfl (by decide +kernel) (by rw [Tryz.ntmps81]; simp) (by rw [Tryz.ntmps81]; decide) (fun hO => ?_); rw [Tryz.ntmps81]
  repeat' first | refine st ?_ | (refine ca ?_; first | apply hc | apply ha) | (refine br ?_ ?_; all_goals (intro hb; try simp only [Bool.not_eq_true', Bool.not_eq_false'] at hb)) | fail
  intro v hv
  have hh := h v hv
  clear h hv
  repeat' first | refine st ?_ | (refine br ?_ ?_; all_goals (intro hb; try simp only [Bool.not_eq_true', Bool.not_eq_false'] at hb)) | fail
  (apply f_ret; iterate 7 (· simp only [go_sem, *, Tryz.results81]; try rfl))
  exact hh
def ColR (w0 : World) (k n : Int) (v : Nat) : Prop := ∀ (S : List Blk) (R : AOut → List Blk → Prop), R (.ret (.tup [.int .i64 v, .bool true])) S → ACall Tryz.prog w0 81 [.agg [.int .i64 k, .int .i64 n]] S R
theorem oText (w0 : World) (hD : DeB w0) (S : List Blk) (k n : Int) (v : Nat) (hv : v < 16777216) (hk : colB k n = true) (hR : ColR w0 k n v) (R : AOut → List Blk → Prop) (h : R (.ret (.tup [.str (rgbT v), .int .i64 0])) S) : ACall Tryz.prog w0 52 [.agg [.int .i64 k, .int .i64 n]] S R := by
  have hc := fun S' => oColCheck w0 S' k n
  rw [hk, if_pos rfl] at hc
  unfold ColR at hR
  have ho := orB hv
  have hf := fun S' => fmtI w0 hD S' (v + 16777216) (by omega) (by omega)
  obtain ⟨g1, g2, g3, g4, g5, g6⟩ := rgb_dig hv
  rw [g1, g2, g3, g4, g5, g6] at hf
  unfold rgbT at h
  generalize hexC (v / 1048576) = c1 at *
  generalize hexC (v / 65536 % 16) = c2 at *
  generalize hexC (v / 4096 % 16) = c3 at *
  generalize hexC (v / 256 % 16) = c4 at *
  generalize hexC (v / 16 % 16) = c5 at *
  generalize hexC (v % 16) = c6 at *
  generalize v + 16777216 = m at ho hf
  simp only [IntKind.bits] at ho
  clear hv hk hD g1 g2 g3 g4 g5 g6
  refine enter Tryz.func52 rfl (by decide +kernel) (by rw [Tryz.ntmps52]; simp) (by rw [Tryz.ntmps52]; decide) (fun hO => ?_); rw [Tryz.ntmps52]
  repeat' first | apply x_seq | apply x_skip | apply x_block | apply x_exit | apply x_ret | apply x_ops_nil | apply p_blk | apply p_exit_it | apply p_exit_hit | apply p_ret_it | apply p_ret_blk | apply p_panic_it | apply p_panic_blk | apply p_end | (apply p_exit_miss; (· rfl)) | (apply x_region; simp only [List.toList_toArray]) | (apply x_step0; (· rfl); (· simp only [go_sem, *, List.length_append]; try rfl); (· rfl); simp only [putA]) | (apply ac_ret; simp only [putA]) | apply ac_panic | (apply x_callA []; (· simp only [go_sem, *, List.length_append]; try rfl); (· rfl); (· simp only [go_sem, *, List.length_append]; try rfl); (· rfl); (iterate 2 (· simp only [go_sem, *, List.length_append]; try rfl)); (first | apply hc | apply hR | apply hf); simp only [afterCall, putA]) | (apply x_panic; (· simp only [go_sem, *, List.length_append]; try rfl); (· rfl); (· simp only [go_sem, *, List.length_append]; try rfl)) | (apply x_step; (iterate 2 (· simp only [go_sem, *, List.length_append]; try rfl)); (· rfl); simp only [putA]) | (apply x_unwanted; (· simp only [go_sem, *, List.length_append]; try rfl); (· rfl); simp only [putA]) | (apply x_condT; (· simp only [go_sem, *, List.length_append]; try rfl)) | (apply x_condF; (· simp only [go_sem, *, List.length_append]; try rfl)) | (apply x_guardS; (· rfl); (fail_if_success (focus (show _ = some true; (· simp only [go_sem, *, List.length_append]; try rfl)))); (· simp only [go_sem, *, List.length_append]; try rfl); all_goals (intro hb; try simp only [Bool.not_eq_true', Bool.not_eq_false'] at hb)) | (apply x_condS; (· simp only [go_sem, *, List.length_append]; try rfl); all_goals (intro hb; try simp only [Bool.not_eq_true', Bool.not_eq_false'] at hb)) | (apply d_draw; (· exact mixed); (· simp only [List.size_toArray, List.length_cons, List.length_nil, Nat.reduceAdd]; try rfl)) | (apply d_done; (· decide +kernel)) | (apply a_0; (repeat (apply a_s; (· decide +kernel))); apply a_take; (· decide +kernel); (· first | exact qds_FPost | exact qds_RPost | exact qds_YB | assumption); (· rfl); (iterate 3 (· simp only [go_sem, *, List.length_append]; try rfl)); (· rfl); (· simp only [go_sem, *, List.length_append]; try rfl); simp only [putA]) | (apply a_0; (repeat (apply a_s; (· decide +kernel))); apply a_unw; (· decide +kernel); (· first | exact qds_FPost | exact qds_RPost | exact qds_YB | assumption); (· rfl); (iterate 2 (· simp only [go_sem, *, List.length_append]; try rfl)); (· rfl); simp only [putA]) | (apply a_0; (repeat (apply a_o; (· decide +kernel))); apply a_one; (· decide +kernel)) | (apply o_step; (iterate 3 (· simp only [go_sem, *, List.length_append]; try rfl)); (· rfl); simp only [putA]) | (apply o_unw; (iterate 2 (· simp only [go_sem, *, List.length_append]; try rfl)); (· rfl); simp only [putA]) | apply pr_nil | apply pr_same | apply pr_go | apply pl_nil | apply pl_none | (apply pl_skip; (· decide +kernel)) | (apply pl_one; (· simp only [go_sem, *, List.length_append]; try rfl)) | (apply o_call []; (iterate 2 (· simp only [go_sem, *, List.length_append]; try rfl)); (· rfl); (· simp only [go_sem, *, List.length_append]; try rfl); (· rfl); (iterate 2 (· simp only [go_sem, *, List.length_append]; try rfl)); (first | apply hc | apply hR | apply hf); simp only [afterOp, putA]) | fail
  all_goals (apply f_ret; iterate 7 (· simp only [go_sem, *, Tryz.results52]; try rfl))
  all_goals exact h
end Go.Proofs.YtfnnjkbhmoomjaaGreatDoor
namespace Go.Proofs.YtfnnjkbhmoomjaaGreatDoor
open Go Go.Fen
set_option linter.unusedSimpArgs false
set_option linter.unusedVariables false
attribute [local irreducible] RunX WP ACall AnyP OpA ProtL afterCall afterOp
set_option maxRecDepth 8000
set_option maxHeartbeats 2000000 in
theorem oText1 (w0 : World) (hD : DeB w0) (hN : Nam w0) (S : List Blk) (n : Int) (hk : colB 1 n = true) (R : AOut → List Blk → Prop) (h : ∀ x, R (.ret (.tup [.str x, .int .i64 0])) S) : ACall Tryz.prog w0 52 [.agg [.int .i64 1, .int .i64 n]] S R := by
  have hc := fun S' => oColCheck w0 S' 1 n
  rw [hk, if_pos rfl] at hc
  have hR := fun S' => oRgb1 w0 hN S' n hk
  have HD := Lib.hid hD
  clear hk hN hD
  refine enter Tryz.func52 rfl (by decide +kernel) (by rw [Tryz.ntmps52]; simp) (by rw [Tryz.ntmps52]; decide) (fun hO => ?_); rw [Tryz.ntmps52]
  repeat' first | refine st ?_ | (refine ca ?_; first | apply hc | apply hR) | (refine br ?_ ?_; all_goals (intro hb; try simp only [Bool.not_eq_true', Bool.not_eq_false'] at hb)) | fail
  intro v hv
  have ho := orB hv
  have hf := fun S' => fmtI w0 HD.out S' (v + 16777216) (by omega) (by omega)
  obtain ⟨g1, g2, g3, g4, g5, g6⟩ := rgb_dig hv
  rw [g1, g2, g3, g4, g5, g6] at hf
  generalize hexC (v / 1048576) = c1 at *
  generalize hexC (v / 65536 % 16) = c2 at *
  generalize hexC (v / 4096 % 16) = c3 at *
  generalize hexC (v / 256 % 16) = c4 at *
  generalize hexC (v / 16 % 16) = c5 at *
  generalize hexC (v % 16) = c6 at *
  generalize v + 16777216 = m at ho hf
  simp only [IntKind.bits] at ho
  clear hv g1 g2 g3 g4 g5 g6
  repeat' first | apply x_seq | apply x_skip | apply x_block | apply x_exit | apply x_ret | apply x_ops_nil | apply p_blk | apply p_exit_it | apply p_exit_hit | apply p_ret_it | apply p_ret_blk | apply p_panic_it | apply p_panic_blk | apply p_end | (apply p_exit_miss; (· rfl)) | (apply x_region; simp only [List.toList_toArray]) | (apply x_step0; (· rfl); (· simp only [go_sem, *, List.length_append]; try rfl); (· rfl); simp only [putA]) | (apply ac_ret; simp only [putA]) | apply ac_panic | (apply x_callA []; (· simp only [go_sem, *, List.length_append]; try rfl); (· rfl); (· simp only [go_sem, *, List.length_append]; try rfl); (· rfl); (iterate 2 (· simp only [go_sem, *, List.length_append]; try rfl)); (first | apply hf); simp only [afterCall, putA]) | (apply x_panic; (· simp only [go_sem, *, List.length_append]; try rfl); (· rfl); (· simp only [go_sem, *, List.length_append]; try rfl)) | (apply x_step; (iterate 2 (· simp only [go_sem, *, List.length_append]; try rfl)); (· rfl); simp only [putA]) | (apply x_unwanted; (· simp only [go_sem, *, List.length_append]; try rfl); (· rfl); simp only [putA]) | (apply x_condT; (· simp only [go_sem, *, List.length_append]; try rfl)) | (apply x_condF; (· simp only [go_sem, *, List.length_append]; try rfl)) | (apply x_guardS; (· rfl); (fail_if_success (focus (show _ = some true; (· simp only [go_sem, *, List.length_append]; try rfl)))); (· simp only [go_sem, *, List.length_append]; try rfl); all_goals (intro hb; try simp only [Bool.not_eq_true', Bool.not_eq_false'] at hb)) | (apply x_condS; (· simp only [go_sem, *, List.length_append]; try rfl); all_goals (intro hb; try simp only [Bool.not_eq_true', Bool.not_eq_false'] at hb)) | (apply d_draw; (· exact mixed); (· simp only [List.size_toArray, List.length_cons, List.length_nil, Nat.reduceAdd]; try rfl)) | (apply d_done; (· decide +kernel)) | (apply a_0; (repeat (apply a_s; (· decide +kernel))); apply a_take; (· decide +kernel); (· first | exact qds_FPost | exact qds_RPost | exact qds_YB | assumption); (· rfl); (iterate 3 (· simp only [go_sem, *, List.length_append]; try rfl)); (· rfl); (· simp only [go_sem, *, List.length_append]; try rfl); simp only [putA]) | (apply a_0; (repeat (apply a_s; (· decide +kernel))); apply a_unw; (· decide +kernel); (· first | exact qds_FPost | exact qds_RPost | exact qds_YB | assumption); (· rfl); (iterate 2 (· simp only [go_sem, *, List.length_append]; try rfl)); (· rfl); simp only [putA]) | (apply a_0; (repeat (apply a_o; (· decide +kernel))); apply a_one; (· decide +kernel)) | (apply o_step; (iterate 3 (· simp only [go_sem, *, List.length_append]; try rfl)); (· rfl); simp only [putA]) | (apply o_unw; (iterate 2 (· simp only [go_sem, *, List.length_append]; try rfl)); (· rfl); simp only [putA]) | apply pr_nil | apply pr_same | apply pr_go | apply pl_nil | apply pl_none | (apply pl_skip; (· decide +kernel)) | (apply pl_one; (· simp only [go_sem, *, List.length_append]; try rfl)) | (apply o_call []; (iterate 2 (· simp only [go_sem, *, List.length_append]; try rfl)); (· rfl); (· simp only [go_sem, *, List.length_append]; try rfl); (· rfl); (iterate 2 (· simp only [go_sem, *, List.length_append]; try rfl)); (first | apply hf); simp only [afterOp, putA]) | fail
  all_goals (apply f_ret; iterate 7 (· simp only [go_sem, *, Tryz.results52]; try rfl))
  all_goals exact h _
theorem oText0 (w0 : World) (S : List Blk) (n : Int) (hk : colB 0 n = true) (R : AOut → List Blk → Prop) (h : R (.ret (.tup [.str [], .int .i64 2])) S) : ACall Tryz.prog w0 52 [.agg [.int .i64 0, .int .i64 n]] S R := by
  have hc := fun S' => oColCheck w0 S' 0 n
  rw [hk, if_pos rfl] at hc
  have hR := fun S' => oRgb0 w0 S' n hk
  clear hk
  refine enter Tryz.func52 rfl (by decide +kernel) (by rw [Tryz.ntmps52]; simp) (by rw [Tryz.ntmps52]; decide) (fun hO => ?_); rw [Tryz.ntmps52]
  repeat' first | refine st ?_ | (refine ca ?_; first | apply hc | apply hR) | (refine br ?_ ?_; all_goals (intro hb; try simp only [Bool.not_eq_true', Bool.not_eq_false'] at hb)) | fail
  (apply f_ret; iterate 7 (· simp only [go_sem, *, Tryz.results52]; try rfl))
  exact h
theorem oTextF (w0 : World) (S : List Blk) (k n : Int) (hk : colB k n = false) (R : AOut → List Blk → Prop) (h : R (.ret (.tup [.str [], .int .i64 130])) S) : ACall Tryz.prog w0 52 [.agg [.int .i64 k, .int .i64 n]] S R := by
  have hc := fun S' => oColCheck w0 S' k n
  rw [hk, if_neg (by decide)] at hc
  clear hk
  refine enter Tryz.func52 rfl (by decide +kernel) (by rw [Tryz.ntmps52]; simp) (by rw [Tryz.ntmps52]; decide) (fun hO => ?_); rw [Tryz.ntmps52]
  repeat' first | refine st ?_ | (refine ca ?_; first | apply hc) | (refine br ?_ ?_; all_goals (intro hb; try simp only [Bool.not_eq_true', Bool.not_eq_false'] at hb)) | fail
  (apply f_ret; iterate 7 (· simp only [go_sem, *, Tryz.results52]; try rfl))
  exact h
theorem oTextX (w0 : World) (hD : DeB w0) (hN : Nam w0) (S : List Blk) (k n : Int) (R : AOut → List Blk → Prop)
    (hG : k = 2 → colB 2 n = true → R (.ret (.tup [.str (rgbT n.toNat), .int .i64 0])) S) (hB : ∀ x e, ¬ (k = 2 ∧ colB 2 n = true) → (((e : Int) == 0) && ((k : Int) == 2)) = false → R (.ret (.tup [.str x, .int .i64 e])) S) : ACall Tryz.prog w0 52 [.agg [.int .i64 k, .int .i64 n]] S R := by
  cases hc : colB k n with
  | false => exact oTextF w0 S k n hc R (hB [] 130 (by rintro ⟨rfl, e⟩; rw [e] at hc; cases hc) rfl)
  | true =>
    have hk : k = 0 ∨ k = 1 ∨ k = 2 := by
      simp [colB] at hc
      omega
    rcases hk with rfl | rfl | rfl
    · exact oText0 w0 S n hc R (hB _ _ (by simp) rfl)
    · exact oText1 w0 hD hN S n hc R (fun x => hB x 0 (by simp) rfl)
    · have hb : 0 ≤ n ∧ n ≤ 16777215 := by simpa [colB, limO] using hc
      obtain ⟨v, rfl⟩ : ∃ v : Nat, n = v := ⟨n.toNat, by omega⟩
      exact oText w0 hD S 2 v v (by omega) hc (fun S' R h => oRgb w0 S' v hc R h) R (hG rfl hc)
end Go.Proofs.YtfnnjkbhmoomjaaGreatDoor
namespace Go.Proofs.YtfnnjkbhmoomjaaGreatDoor
open Go Go.Fen
set_option linter.unusedSimpArgs false
set_option linter.unusedVariables false
attribute [local irreducible] RunX WP ACall AnyP OpA ProtL afterCall afterOp
set_option maxRecDepth 8000
theorem countByte_eq (l : List UInt8) (c : UInt8) : (Lib.countByte l c : Int) = (l.count c : Nat) := rfl
theorem cntSl (w0 : World) (S : List Blk) (s : List UInt8) (R : AOut → List Blk → Prop) (h : R (.ret (.int .i64 (s.count 47 : Nat))) S) : ACall Tryz.prog w0 152 [.str s, .str [47]] S R := by
  refine ACall.lib (vs := [.string ⟨s.toArray⟩, .string ⟨#[47]⟩]) (v := .int .i64 (s.count 47 : Nat)) (c := .int .i64 (s.count 47 : Nat)) (Go.Proofs.enters_of Tryz.func152 (by kernel_rfl) rfl) rfl rfl ?_ h
  intro w hb
  refine (Go.Proofs.Any.strings_Count_one Go.Proofs.Tryz.lays138 ⟨s.toArray⟩ 47 w).mono ?_
  rintro e w' ⟨rfl, rfl⟩
  refine ⟨by rw [← countByte_eq], RowKit.Below.refl _ _⟩
theorem pIdx (w0 : World) (S : List Blk) (s : List UInt8) (R : AOut → List Blk → Prop) (h : R (.ret (.int .i64 (Lib.indexByte s 47))) S) : ACall Tryz.prog w0 142 [.str s, .int .u8 47] S R := by
  refine ACall.lib (vs := [.string ⟨s.toArray⟩, .int .u8 47]) (v := .int .i64 (Lib.indexByte s 47)) (c := .int .i64 (Lib.indexByte s 47)) (Go.Proofs.enters_of Tryz.func142 (by kernel_rfl) rfl) rfl rfl ?_ h
  intro w hb
  refine (Go.Proofs.Any.stringslite_IndexByte Go.Proofs.Tryz.lays217 ⟨s.toArray⟩ 47 w).mono ?_
  rintro e w' ⟨rfl, rfl⟩
  exact ⟨rfl, RowKit.Below.refl _ _⟩
theorem pIndexL (w0 : World) (S : List Blk) (s : List UInt8) (R : AOut → List Blk → Prop) (h : R (.ret (.int .i64 (Lib.indexByte s 47))) S) : ACall Tryz.prog w0 118 [.str s, .str [47]] S R := by
  have hi := fun S' => pIdx w0 S' s
  by_cases hs : s = [47]
  · subst hs
    have h : R (.ret (.int .i64 0)) S := h
    clear hi
    refine enter Tryz.func118 rfl (by decide +kernel) (by rw [Tryz.ntmps118]; simp) (by rw [Tryz.ntmps118]; decide) (fun hO => ?_); rw [Tryz.ntmps118]
    repeat' first | refine st ?_ | (refine br ?_ ?_; all_goals (intro hb; try simp only [Bool.not_eq_true', Bool.not_eq_false'] at hb)) | fail
    (apply f_ret; iterate 7 (· simp only [go_sem, *, Tryz.results118]; try rfl))
    exact h
  · have hne : (([47] : List UInt8) == s) = false := by
      rw [beq_eq_false_iff_ne]
      exact fun e => hs e.symm
    generalize Lib.indexByte s 47 = i at h hi
    clear hs
    refine enter Tryz.func118 rfl (by decide +kernel) (by rw [Tryz.ntmps118]; simp) (by rw [Tryz.ntmps118]; decide) (fun hO => ?_); rw [Tryz.ntmps118]
    repeat' first | refine st ?_ | (refine ca ?_; first | apply hi) | (refine br ?_ ?_; all_goals (intro hb; try simp only [Bool.not_eq_true', Bool.not_eq_false'] at hb)) | fail
    (apply f_ret; iterate 7 (· simp only [go_sem, *, Tryz.results118]; try rfl))
    exact h
theorem pIndex (w0 : World) (S : List Blk) (s : List UInt8) (R : AOut → List Blk → Prop) (h : R (.ret (.int .i64 (Lib.indexByte s 47))) S) : ACall Tryz.prog w0 153 [.str s, .str [47]] S R := by
  have hi := fun S' => pIndexL w0 S' s
  generalize Lib.indexByte s 47 = i at h hi
  refine enter Tryz.func153 rfl (by decide +kernel) (by rw [Tryz.ntmps153]; simp) (by rw [Tryz.ntmps153]; decide) (fun hO => ?_); rw [Tryz.ntmps153]
  repeat' first | refine st ?_ | (refine ca ?_; first | apply hi) | (refine br ?_ ?_; all_goals (intro hb; try simp only [Bool.not_eq_true', Bool.not_eq_false'] at hb)) | fail
  (apply f_ret; iterate 7 (· simp only [go_sem, *, Tryz.results153]; try rfl))
  exact h
def splL : List UInt8 → List (List UInt8)
  | [] => [[]]
  | b :: r => if b = 47 then [] :: splL r else match splL r with
    | [] => [[b]]
    | w :: ws => (b :: w) :: ws
theorem spl_ne : ∀ s, splL s ≠ []
  | [] => by simp [splL]
  | b :: r => by
    unfold splL
    split
    · simp
    · split <;> simp
theorem spl_cut : ∀ {w r : List UInt8}, (∀ b ∈ w, b ≠ 47) → splL (w ++ 47 :: r) = w :: splL r
  | [], r, _ => by simp [splL]
  | b :: w, r, h => by
    have ih := spl_cut (w := w) (r := r) (fun x hx => h x (by simp [hx]))
    simp only [List.cons_append]
    rw [splL, if_neg (h b (by simp)), ih]
theorem spl_one : ∀ {w : List UInt8}, w.count 47 = 0 → splL w = [w]
  | [], _ => rfl
  | b :: w, h => by
    have hb : b ≠ 47 := by rintro rfl; simp at h
    rw [List.count_cons_of_ne (by simpa using hb)] at h
    rw [splL, if_neg hb, spl_one h]
theorem idx47 : ∀ {s : List UInt8}, 0 < s.count 47 → ∃ w r, s = w ++ 47 :: r ∧ (∀ b ∈ w, b ≠ 47) ∧ Lib.indexByte s 47 = (w.length : Int)
  | [], h => by simp at h
  | b :: l, h => by
    by_cases hb : b = 47
    · subst hb
      exact ⟨[], l, rfl, by simp, by simp [Lib.indexByte]⟩
    · rw [List.count_cons_of_ne (by simpa using hb)] at h
      obtain ⟨w, r, h1, h2, h3⟩ := idx47 h
      refine ⟨b :: w, r, by rw [h1]; rfl, ?_, ?_⟩
      · intro x hx
        rcases List.mem_cons.1 hx with rfl | hx
        · exact hb
        · exact h2 x hx
      · have h1' : (b == 47) = false := by simpa using hb
        rw [Lib.indexByte, h1', h3]
        simp
        try omega
end Go.Proofs.YtfnnjkbhmoomjaaGreatDoor
namespace Go.Proofs.YtfnnjkbhmoomjaaGreatDoor
open Go Go.Fen
set_option linter.unusedSimpArgs false
set_option linter.unusedVariables false
attribute [local irreducible] RunX WP ACall AnyP OpA ProtL afterCall afterOp
set_option maxRecDepth 8000
def seqE (D : List (List UInt8)) (k : Nat) : List AV := D.map AV.str ++ List.replicate k (.str [])
theorem seq_get (D : List (List UInt8)) (k : Nat) : (seqE D (k + 1))[D.length]? = some (.str []) := by
  unfold seqE
  rw [List.getElem?_append_right (by simp)]
  simp
theorem seq_set (D : List (List UInt8)) (k : Nat) (w : List UInt8) : (seqE D (k + 1)).set D.length (.str w) = seqE (D ++ [w]) k := by
  unfold seqE
  rw [List.set_append_right _ _ (by simp)]
  simp [List.replicate_succ]
theorem seq_len (D : List (List UInt8)) (k : Nat) : (seqE D k).length = D.length + k := by
  unfold seqE; simp
theorem seq_plain (D : List (List UInt8)) (k : Nat) : plainL (seqE D k) = true := by
  unfold seqE
  induction D with
  | nil =>
    simp only [List.map_nil, List.nil_append]
    induction k with
    | zero => rfl
    | succ k ih => rw [List.replicate_succ, plainL, ih]; rfl
  | cons d D ih => simp only [List.map_cons, List.cons_append, plainL, ih]; rfl
set_option maxHeartbeats 10000000 in
theorem gSplit (w0 : World) (S : List Blk) (s : List UInt8) (hs : s.length ≤ 100000) (R : AOut → List Blk → Prop) (h : ∀ b, R (.ret (.sval b ((splL s).map AV.str))) S) : ACall Tryz.prog w0 129 [.str s, .str [47], .int .i64 0, .int .i64 (-1)] S R := by
  have hct := fun S' => cntSl w0 S' s
  have hcl : s.count 47 ≤ s.length := List.count_le_length
  obtain ⟨c, hc⟩ : ∃ c, c = s.count 47 := ⟨_, rfl⟩
  rw [← hc] at hct
  have w1 : IntKind.i64.wrap ((c : Int) + 1) = ((c + 1 : Nat) : Int) := by rw [IntWalk.i64_in _ (by omega)]; omega
  have w2 : IntKind.i64.wrap ((s.length : Int) + 1) = ((s.length + 1 : Nat) : Int) := by rw [IntWalk.i64_in _ (by omega)]; omega
  have hmn : (if ((s.length + 1 : Nat) : Int) < ((c + 1 : Nat) : Int) then ((s.length + 1 : Nat) : Int) else ((c + 1 : Nat) : Int)) = ((c + 1 : Nat) : Int) := by rw [if_neg (by omega)]
  have w3 : IntKind.i64.wrap (((c + 1 : Nat) : Int) - 1) = (c : Int) := by rw [IntWalk.i64_in _ (by omega)]; omega
  have b1 : ((c + 1 : Nat) : Int) * 16 ≤ 140737488355328 := by omega
  have b2 : ((c + 1 : Nat) : Int) * ((16 : Nat) : Int) ≤ 140737488355328 := by omega
  have b3 : ((c + 1 : Nat) : Int) ≤ ((c + 1 : Nat) : Int) := Int.le_refl _
  have hrp : List.replicate (c + 1) (AV.str []) = seqE [] (c + 1) := rfl
  have H := Lib.hid h
  have Hs := Lib.hid (And.intro hs (And.intro hcl hc))
  clear h hs hcl hc
  refine enter Tryz.func129 rfl (by decide +kernel) (by rw [Tryz.ntmps129]; simp) (by rw [Tryz.ntmps129]; decide) (fun hO => ?_); rw [Tryz.ntmps129]
  repeat' first | refine st ?_ | (refine ca ?_; first | apply hct) | (refine br ?_ ?_; all_goals (intro hb; try simp only [Bool.not_eq_true', Bool.not_eq_false'] at hb)) | fail
  refine x_ind (fun (p : List (List UInt8) × List UInt8) env S' => p.1 ++ splL p.2 = splL s ∧ p.1.length + p.2.count 47 = c ∧ p.2.length ≤ s.length ∧ env 1000000 = .dfr [] ∧ env 0 = .str p.2 ∧ env 1 = .str [47] ∧ env 2 = .int .i64 0 ∧ env 3 = .int .i64 c ∧ env 9 = .sown S.length 0 (c + 1) ∧ env 10 = .int .i64 (p.1.length : Int) ∧
    S' = S ++ [Blk.arr 9 1 0 0 (seqE p.1 (c + 1 - p.1.length))]) (fun p => p.2.length) ([], s) ?_ ?_
  · obtain ⟨hs, hcl, hc⟩ := Hs.out
    exact ⟨rfl, by simp [hc], Nat.le_refl _, by (simp only [go_sem, *]; try rfl), by (simp only [go_sem, *]; try rfl), by (simp only [go_sem, *]; try rfl), by (simp only [go_sem, *]; try rfl), by (simp only [go_sem, *]; try rfl), by (simp only [go_sem, *]; try rfl), by (simp only [go_sem, *]; try rfl), rfl⟩
  · rintro ⟨D, u⟩ env S' ⟨hD, hDc, hul, e0, f0, f1, f2, f3, f9, f10, rfl⟩ IH
    simp only at hD hDc hul f0 f10
    have HI := Lib.hid IH
    obtain ⟨hs, hcl, hc⟩ := Hs.out
    clear IH hct hrp hmn w1 w2 w3
    by_cases hu : 0 < u.count 47
    · obtain ⟨w, r, hwr, hw47, hix⟩ := idx47 hu
      have hix2 := fun S' => pIndex w0 S' u
      rw [hix] at hix2
      have hul2 : u.length = w.length + 1 + r.length := by rw [hwr]; simp; omega
      have hcu : u.count 47 = r.count 47 + 1 := by
        have hw0 : w.count 47 = 0 := List.count_eq_zero.2 (fun hh => hw47 47 hh rfl)
        rw [hwr, List.count_append, hw0, List.count_cons_self]; omega
      have h1 : decide ((D.length : Int) < (c : Int)) = true := by simp; omega
      have d1 : decide ((w.length : Int) < 0) = false := by simp
      have k1 : IntKind.i64.wrap ((w.length : Int) + 0) = ((w.length : Nat) : Int) := by rw [IntWalk.i64_in _ (by omega)]; omega
      have k2 : IntKind.i64.wrap ((w.length : Int) + ((1 : Nat) : Int)) = ((w.length + 1 : Nat) : Int) := by rw [IntWalk.i64_in _ (by omega)]; omega
      have k3 : IntKind.i64.wrap ((D.length : Int) + 1) = ((D.length + 1 : Nat) : Int) := by rw [IntWalk.i64_in _ (by omega)]; omega
      have l1 : ((w.length : Nat) : Int) ≤ (u.length : Int) := by omega
      have l2 : ((w.length + 1 : Nat) : Int) ≤ (u.length : Int) := by omega
      have t1 : List.take w.length u = w := by rw [hwr]; simp
      have t2 : List.drop (w.length + 1) u = r := by rw [hwr, ← List.drop_drop]; simp
      have t3 : List.take u.length u = u := List.take_length
      have q1 : (D.length : Int) < ((c + 1 : Nat) : Int) := by omega
      have hk : c + 1 - D.length = (c + 1 - (D.length + 1)) + 1 := by omega
      have hg := seq_get D (c + 1 - (D.length + 1))
      have hse := seq_set D (c + 1 - (D.length + 1)) w
      rw [← hk] at hg hse
      have hsl := seq_len D (c + 1 - D.length)
      rw [show D.length + (c + 1 - D.length) = c + 1 by omega] at hsl
      have hi1 : (D ++ [w]) ++ splL r = splL s := by rw [← hD, hwr, spl_cut hw47]; simp
      have hi2 : (D ++ [w]).length + r.count 47 = c := by simp; omega
      have hdl : (D ++ [w]).length = D.length + 1 := by simp
      have Hi := Lib.hid (And.intro hi1 (And.intro hi2 (And.intro hdl (show r.length < u.length by omega))))
      have Hul := Lib.hid hul
      simp only
      generalize hE : seqE D (c + 1 - D.length) = E at *
      generalize hE1 : seqE (D ++ [w]) (c + 1 - (D.length + 1)) = E1 at *
      have HE1 := Lib.hid hE1
      clear hE hE1 hD hDc hul hs hcl hc hu hwr hw47 hix hul2 hcu hk hi1 hi2 hdl
      repeat' first | refine st ?_ | (refine ca ?_; first | apply hix2) | (refine br ?_ ?_; all_goals (intro hb; try simp only [Bool.not_eq_true', Bool.not_eq_false'] at hb)) | fail
      obtain ⟨hi1, hi2, hdl, hrl⟩ := Hi.out
      rw [← HE1.out]
      refine HI.out (D ++ [w], r) _ _ hrl ⟨hi1, hi2, by have := Hul.out; simp only; omega, ?_, ?_, ?_, ?_, ?_, ?_, ?_, ?_⟩
      · (simp only [go_sem, *]; try rfl)
      · (simp only [go_sem, *]; try rfl)
      · (simp only [go_sem, *]; try rfl)
      · (simp only [go_sem, *]; try rfl)
      · (simp only [go_sem, *]; try rfl)
      · (simp only [go_sem, *]; try rfl)
      · simp only [hdl]; (simp only [go_sem, *]; try rfl)
      · simp only [hdl]
    · have hu0 : u.count 47 = 0 := by omega
      have hDl : D.length = c := by omega
      rw [spl_one hu0] at hD
      have h1 : decide ((D.length : Int) < (c : Int)) = false := by simp; omega
      have k3 : IntKind.i64.wrap ((D.length : Int) + 1) = ((D.length + 1 : Nat) : Int) := by rw [IntWalk.i64_in _ (by omega)]; omega
      have q1 : (D.length : Int) < ((c + 1 : Nat) : Int) := by omega
      have hk : c + 1 - D.length = 0 + 1 := by omega
      have hg := seq_get D 0
      have hse := seq_set D 0 u
      rw [← hk] at hg hse
      have hsl := seq_len D (c + 1 - D.length)
      rw [show D.length + (c + 1 - D.length) = c + 1 by omega] at hsl
      have hE2 : seqE (D ++ [u]) 0 = (splL s).map AV.str := by rw [hD]; simp [seqE]
      rw [hE2] at hse
      have hh := H.out
      have hpl : plainL ((splL s).map AV.str) = true := by rw [← hE2]; exact seq_plain _ _
      have hl2 : ((splL s).map AV.str).length = c + 1 := by rw [← hE2, seq_len]; simp; omega
      have hall : ((splL s).map AV.str).all (fun el => el.cells.length == 1) = true := by
        rw [List.all_eq_true]
        intro x hx
        obtain ⟨y, _, rfl⟩ := List.mem_map.1 hx
        rfl
      simp only [AV.cells] at hall
      have q2 : ((D.length + 1 : Nat) : Int) ≤ ((c + 1 : Nat) : Int) := by omega
      have htk : List.take (D.length + 1) ((splL s).map AV.str) = (splL s).map AV.str := List.take_of_length_le (by omega)
      have hlt : ltL S.length ((splL s).map AV.str) = true := ltL_iff.2 fun x hx => by obtain ⟨y, _, rfl⟩ := List.mem_map.1 hx; rfl
      simp only
      generalize hE : seqE D (c + 1 - D.length) = E at *
      generalize (splL s).map AV.str = F at *
      clear hE hE2 hD hDc hul hs hcl hc hu hk HI hu0 hDl
      repeat' first | refine st ?_ | (refine br ?_ ?_; all_goals (intro hb; try simp only [Bool.not_eq_true', Bool.not_eq_false'] at hb)) | fail
      refine x_frzS (t := 62) (a := S.length) (by decide) (by (simp only [go_sem, *]; try rfl)) (by (simp only [go_sem, *]; try rfl)) ?_
      repeat' first | refine st ?_ | (refine br ?_ ?_; all_goals (intro hb; try simp only [Bool.not_eq_true', Bool.not_eq_false'] at hb)) | fail
      (apply f_ret; iterate 7 (· simp only [go_sem, *, Tryz.results129]; try rfl))
      exact hh _
end Go.Proofs.YtfnnjkbhmoomjaaGreatDoor
namespace Go.Proofs.YtfnnjkbhmoomjaaGreatDoor
open Go Go.Fen
set_option linter.unusedSimpArgs false
set_option linter.unusedVariables false
attribute [local irreducible] RunX WP ACall AnyP OpA ProtL afterCall afterOp
set_option maxRecDepth 8000
def PU16 (w0 : World) : Prop := ∀ (S : List Blk) (b1 b2 : UInt8) (R : AOut → List Blk → Prop), (∀ v, hexV b1 b2 = some v → R (.ret (.tup [.int .u64 v, .inil])) S) → (hexV b1 b2 = none → ∀ t x, R (.ret (.tup [.int .u64 0, .ifc t x])) S) →
  ACall Tryz.prog w0 103 [.str [b1, b2], .int .i64 16, .int .i64 8] S R
theorem or32 (c : UInt8) : IntKind.u8.wrap (↑(BitVec.ofInt IntKind.u8.bits (c.toNat : Int) ||| BitVec.ofInt IntKind.u8.bits 32).toNat) = (((c ||| 32).toNat : Nat) : Int) := by
  have : ∀ n : Nat, n < 256 → IntKind.u8.wrap (↑(BitVec.ofInt IntKind.u8.bits (n : Int) ||| BitVec.ofInt IntKind.u8.bits 32).toNat) = (((UInt8.ofNat n ||| 32).toNat : Nat) : Int) := by decide +kernel
  have h := this c.toNat c.toNat_lt
  rwa [UInt8.ofNat_toNat] at h
set_option maxHeartbeats 400000 in
theorem lower (w0 : World) (S : List Blk) (c : UInt8) (R : AOut → List Blk → Prop) (h : R (.ret (.int .u8 ((c ||| 32).toNat : Nat))) S) : ACall Tryz.prog w0 154 [.int .u8 c.toNat] S R := by
  have g := or32 c
  simp only [IntKind.bits] at g
  refine enter Tryz.func154 rfl (by decide +kernel) (by rw [Tryz.ntmps154]; simp) (by rw [Tryz.ntmps154]; decide) (fun hO => ?_); rw [Tryz.ntmps154]
  repeat' first | refine st ?_ | (refine br ?_ ?_; all_goals (intro hb; try simp only [Bool.not_eq_true', Bool.not_eq_false'] at hb)) | fail
  (apply f_ret; iterate 7 (· simp only [go_sem, *, Tryz.results154]; try rfl))
  exact h
def lowN (b : UInt8) : Nat := (b ||| 32).toNat
def dv (b : UInt8) : Option Nat := if 48 ≤ b.toNat ∧ b.toNat ≤ 57 then some (b.toNat - 48) else if 97 ≤ lowN b ∧ lowN b ≤ 122 then some (lowN b - 87) else none
theorem dv_hex (b : UInt8) : hexD1 b = (dv b).bind fun d => if d < 16 then some d else none := by
  have : ∀ n : Nat, n < 256 → hexD1 (UInt8.ofNat n) = (dv (UInt8.ofNat n)).bind fun d => if d < 16 then some d else none := by decide +kernel
  have h := this b.toNat b.toNat_lt
  rwa [UInt8.ofNat_toNat] at h
theorem lower2 (w0 : World) (S : List Blk) (c : UInt8) (R : AOut → List Blk → Prop) (h : R (.ret (.int .u8 (lowN c : Nat))) S) : ACall Tryz.prog w0 154 [.int .u8 c.toNat] S R := lower w0 S c R h
def synV : AV := .ifc 153 (.int .i64 2)
def puS (b1 b2 : UInt8) (i acc : Nat) : Prop := (i = 0 ∧ acc = 0) ∨ (i = 1 ∧ hexD1 b1 = some acc) ∨ (i = 2 ∧ hexV b1 b2 = some acc)
theorem pu_step {b1 b2 : UInt8} {i acc : Nat} (hp : (i = 0 ∧ acc = 0) ∨ (i = 1 ∧ hexD1 b1 = some acc)) : ∃ b : UInt8, [AV.int .u8 b1.toNat, AV.int .u8 b2.toNat][i]? = some (.int .u8 b.toNat) ∧ i < 2 ∧ acc < 16 ∧ (hexD1 b = none → hexV b1 b2 = none) ∧ (∀ d, hexD1 b = some d → puS b1 b2 (i + 1) (acc * 16 + d)) := by
  rcases hp with ⟨rfl, rfl⟩ | ⟨rfl, ha⟩
  · exact ⟨b1, rfl, by omega, by omega, fun h => by simp [hexV, h], fun d h => .inr (.inl ⟨rfl, by simpa using h⟩)⟩
  · refine ⟨b2, rfl, by omega, hexD1_lt ha, fun h => by simp [hexV, ha, h], fun d h => .inr (.inr ⟨rfl, ?_⟩)⟩
    simp [hexV, ha, h]; try omega
set_option maxHeartbeats 4000000 in
theorem puIn (w0 : World) (S : List Blk) (b1 b2 : UInt8) (R : AOut → List Blk → Prop) (h : R (.ret (match hexV b1 b2 with | some v => .tup [.int .u64 v, .inil] | none => .tup [.int .u64 0, synV])) S) :
    ACall Tryz.prog w0 130 [.str [b1, b2], .int .i64 16, .int .i64 8] S R := by
  refine enter Tryz.func130 rfl (by decide +kernel) (by rw [Tryz.ntmps130]; simp) (by rw [Tryz.ntmps130]; decide) (fun hO => ?_); rw [Tryz.ntmps130]
  repeat' first | refine st ?_ | (refine br ?_ ?_; all_goals (intro hb; try simp only [Bool.not_eq_true', Bool.not_eq_false'] at hb)) | fail
  apply x_bytes
  · (simp only [go_sem, *]; try rfl)
  · rfl
  · (simp only [go_sem, *]; try rfl)
  · (simp only [go_sem, *]; try rfl)
  · (simp only [go_sem, *]; try rfl)
  · (simp only [go_sem, *]; try rfl)
  · rfl
  simp only [putA, List.map_cons, List.map_nil, byteAV]
  repeat' first | refine st ?_ | (refine br ?_ ?_; all_goals (intro hb; try simp only [Bool.not_eq_true', Bool.not_eq_false'] at hb)) | fail
  have hffw : IntKind.u64.wrap (IntKind.u64.wrap (1 * 2 ^ min (IntKind.u64.wrap 8).toNat 64) - 1) = 255 := by decide +kernel
  refine x_ind (fun (p : Nat × Nat) env S' => puS b1 b2 p.1 p.2 ∧ env 1000000 = .dfr [] ∧ env 1 = .int .i64 16 ∧ env 8 = .bool false ∧ env 9 = .str [b1, b2] ∧ env 10 = .int .u64 1152921504606846976 ∧ env 11 = .int .u64 255 ∧ env 12 = .bool false ∧ env 13 = .int .u64 p.2 ∧
    env 99 = .sval false [.int .u8 b1.toNat, .int .u8 b2.toNat] ∧ env 100 = .int .i64 2 ∧ env 101 = .int .i64 p.1 ∧ S' = S) (fun p => 2 - p.1) (0, 0) ?_ ?_
  · exact ⟨.inl ⟨rfl, rfl⟩, by (simp only [go_sem, *]; try rfl), by (simp only [go_sem, *]; try rfl), by (simp only [go_sem, *]; try rfl), by (simp only [go_sem, *]; try rfl), by (simp only [go_sem, *]; try rfl), by (simp only [go_sem, *]; try rfl), by (simp only [go_sem, *]; try rfl), by (simp only [go_sem, *]; try rfl), by (simp only [go_sem, *]; try rfl), by (simp only [go_sem, *]; try rfl), by (simp only [go_sem, *]; try rfl), rfl⟩
  · rintro ⟨i, acc⟩ env S' ⟨hp, e0, f1, f8, f9, f10, f11, f12, f13, f99, f100, f101, rfl⟩ IH
    have HI := Lib.hid IH
    have hw16 : IntKind.u8.wrap 16 = 16 := by decide
    have hw16' : IntKind.u64.wrap 16 = 16 := by decide
    have hlw := lower2 w0
    clear IH hffw
    simp only at f13 f101
    rcases or_assoc.2 hp with hp | ⟨rfl, ha⟩
    · have hps := pu_step (b2 := b2) hp
      clear hp
      obtain ⟨b, hb, hlt, hacc, hnone, hsome⟩ := hps
      have h1 : decide ((i : Int) < 2) = true := by simp; omega
      have hwi : IntKind.i64.wrap ((i : Int) + 1) = ((i + 1 : Nat) : Int) := by rw [IntWalk.i64_in _ (by omega)]; rfl
      have Hlt := Lib.hid hlt
      have d5 : decide ((1152921504606846976 : Int) ≤ (acc : Int)) = false := by simp; omega
      have w5 : IntKind.u64.wrap ((acc : Int) * 16) = ((acc * 16 : Nat) : Int) := by rw [IntWalk.u64_in _ (by omega)]; omega
      have key : ∀ d : Nat, d < 16 → IntKind.u64.wrap (d : Int) = (d : Int) ∧ IntKind.u64.wrap (((acc * 16 : Nat) : Int) + (d : Int)) = ((acc * 16 + d : Nat) : Int) ∧ decide (((acc * 16 + d : Nat) : Int) < ((acc * 16 : Nat) : Int)) = false ∧ decide ((255 : Int) < ((acc * 16 + d : Nat) : Int)) = false := by
        intro d hd
        refine ⟨IntWalk.u64_in _ (by omega), by rw [IntWalk.u64_in _ (by omega)]; omega, by simp; omega, by simp; omega⟩
      clear hlt hacc
      have Hnone := Lib.hid hnone
      have Hsome := Lib.hid hsome
      clear hnone hsome
      have Key := Lib.hid key
      clear key
      have hdv := dv_hex b
      by_cases c1 : 48 ≤ b.toNat ∧ b.toNat ≤ 57
      · have d1 : decide ((48 : Int) ≤ (b.toNat : Int)) = true := by simp; omega
        have d2 : decide ((b.toNat : Int) ≤ 57) = true := by simp; omega
        have d3 : ((b.toNat : Int) == 95) = false := by simp; omega
        have w1 : IntKind.u8.wrap ((b.toNat : Int) - 48) = ((b.toNat - 48 : Nat) : Int) := by rw [IntWalk.u8_in _ (by omega)]; omega
        have hd : hexD1 b = some (b.toNat - 48) := by rw [hdv]; simp [dv, c1]; omega
        have hd16 : b.toNat - 48 < 16 := by omega
        have d4 : decide ((16 : Int) ≤ ((b.toNat - 48 : Nat) : Int)) = false := by simp; omega
        clear hdv c1
        generalize hdd : b.toNat - 48 = d at *
        obtain ⟨k1, k2, k3, k4⟩ := Key.out d hd16
        have Hd := Lib.hid hd
        clear hdd hd hd16
        repeat' first | refine st ?_ | (refine ca ?_; first | apply hlw) | (refine br ?_ ?_; all_goals (intro hb; try simp only [Bool.not_eq_true', Bool.not_eq_false'] at hb)) | fail
        refine HI.out (i + 1, acc * 16 + d) _ _ (by have := Hlt.out; simp only; omega) ⟨Hsome.out d Hd.out, ?_, ?_, ?_, ?_, ?_, ?_, ?_, ?_, ?_, ?_, ?_, rfl⟩
        all_goals (simp only [go_sem, *]; try rfl)
      · have hnd : (decide ((48 : Int) ≤ (b.toNat : Int)) && decide ((b.toNat : Int) ≤ 57)) = false := by
          rw [Bool.and_eq_false_iff]; simp; omega
        by_cases c2 : 97 ≤ lowN b ∧ lowN b ≤ 122
        · have e1 : decide ((97 : Int) ≤ (lowN b : Int)) = true := by simp; omega
          have e2 : decide ((lowN b : Int) ≤ 122) = true := by simp; omega
          have w1 : IntKind.u8.wrap ((lowN b : Int) - 97) = ((lowN b - 97 : Nat) : Int) := by rw [IntWalk.u8_in _ (by omega)]; omega
          have w2 : IntKind.u8.wrap (((lowN b - 97 : Nat) : Int) + 10) = ((lowN b - 87 : Nat) : Int) := by rw [IntWalk.u8_in _ (by omega)]; omega
          have hd : hexD1 b = if lowN b - 87 < 16 then some (lowN b - 87) else none := by rw [hdv]; simp only [dv, c1, c2, and_self, if_false, if_true, Option.bind_some]
          clear hdv c1 c2
          generalize lowN b - 87 = d at *
          generalize lowN b - 97 = e at *
          by_cases hd16 : d < 16
          · rw [if_pos hd16] at hd
            have d4 : decide ((16 : Int) ≤ (d : Int)) = false := by simp; omega
            obtain ⟨k1, k2, k3, k4⟩ := Key.out d hd16
            have Hd := Lib.hid hd
            clear hd hd16
            cases q1 : decide ((48 : Int) ≤ (b.toNat : Int)) <;> cases q2 : decide ((b.toNat : Int) ≤ 57) <;> cases q3 : ((b.toNat : Int) == 95) <;> simp only [q1, q2] at hnd <;> try (exfalso; cases hnd; done)
            all_goals clear hnd
            all_goals
              repeat' first | refine st ?_ | (refine ca ?_; first | apply hlw) | (refine br ?_ ?_; all_goals (intro hb; try simp only [Bool.not_eq_true', Bool.not_eq_false'] at hb)) | fail
              refine HI.out (i + 1, acc * 16 + d) _ _ (by have := Hlt.out; simp only; omega) ⟨Hsome.out d Hd.out, ?_, ?_, ?_, ?_, ?_, ?_, ?_, ?_, ?_, ?_, ?_, rfl⟩
              all_goals (simp only [go_sem, *]; try rfl)
          · rw [if_neg hd16] at hd
            have d4 : decide ((16 : Int) ≤ (d : Int)) = true := by simp; omega
            rw [Hnone.out hd] at h
            clear hd hd16
            cases q1 : decide ((48 : Int) ≤ (b.toNat : Int)) <;> cases q2 : decide ((b.toNat : Int) ≤ 57) <;> cases q3 : ((b.toNat : Int) == 95) <;> simp only [q1, q2] at hnd <;> try (exfalso; cases hnd; done)
            all_goals clear hnd
            all_goals
              repeat' first | refine st ?_ | (refine ca ?_; first | apply hlw) | (refine br ?_ ?_; all_goals (intro hb; try simp only [Bool.not_eq_true', Bool.not_eq_false'] at hb)) | fail
              (apply f_ret; iterate 7 (· simp only [go_sem, *, Tryz.results130]; try rfl))
              exact h
        · have hd : hexD1 b = none := by
            rw [hdv]; unfold dv; rw [if_neg c1, if_neg c2]; rfl
          rw [Hnone.out hd] at h
          have hle : (decide ((97 : Int) ≤ (lowN b : Int)) && decide ((lowN b : Int) ≤ 122)) = false := by
            rw [Bool.and_eq_false_iff]; simp; omega
          clear hd hdv c1 c2
          cases q1 : decide ((48 : Int) ≤ (b.toNat : Int)) <;> cases q2 : decide ((b.toNat : Int) ≤ 57) <;> cases q3 : ((b.toNat : Int) == 95) <;> simp only [q1, q2] at hnd <;> try (exfalso; cases hnd; done)
          all_goals clear hnd
          all_goals
            cases q4 : decide ((97 : Int) ≤ (lowN b : Int)) <;> cases q5 : decide ((lowN b : Int) ≤ 122) <;> simp only [q4, q5] at hle <;> try (exfalso; cases hle; done)
          all_goals clear hle
          all_goals
            repeat' first | refine st ?_ | (refine ca ?_; first | apply hlw) | (refine br ?_ ?_; all_goals (intro hb; try simp only [Bool.not_eq_true', Bool.not_eq_false'] at hb)) | fail
            (apply f_ret; iterate 7 (· simp only [go_sem, *, Tryz.results130]; try rfl))
            exact h
    · simp only at ha
      rw [ha] at h
      clear ha
      repeat' first | refine st ?_ | (refine br ?_ ?_; all_goals (intro hb; try simp only [Bool.not_eq_true', Bool.not_eq_false'] at hb)) | fail
      (apply f_ret; iterate 7 (· simp only [go_sem, *, Tryz.results130]; try rfl))
      exact h
def Syn (w0 : World) : Prop := ∃ ev, w0.cell? ⟨2, 0, none⟩ = some ev ∧ (ev = .nilIface ∨ ∃ te pe, ev = .iface te pe)
theorem toErr (w0 : World) (hS : Syn w0) (S : List Blk) (s : List UInt8) (hs : s.length ≤ 1000) (R : AOut → List Blk → Prop) (h : ∀ v : Value, R (.ret (.ifc 156 (.val v))) S) :
    ACall Tryz.prog w0 100 [.str [80, 97, 114, 115, 101, 85, 105, 110, 116], .str s, .int .i64 16, .int .i64 8, synV] S R := by
  refine ACall.libR (vs := [.string ⟨#[80, 97, 114, 115, 101, 85, 105, 110, 116]⟩, .string ⟨s.toArray⟩, .int .i64 16, .int .i64 8, .iface 153 (.int .i64 2)]) (Go.Proofs.enters_of Tryz.func100 (by kernel_rfl) rfl) rfl ?_
  intro w hb
  obtain ⟨ev, hv, hev⟩ := hS
  refine (Go.Proofs.Any.strconv_toError_syntax Go.Proofs.Tryz.laysC245 ⟨#[80, 97, 114, 115, 101, 85, 105, 110, 116]⟩ ⟨s.toArray⟩ 16 8 ev w ?_ ?_ hev).mono ?_
  · show s.toArray.size ≤ _
    simp; omega
  · exact (hb.cell (World.block_lt_of_cell? _ _ hv)).trans hv
  · rintro e w' ⟨N, rfl, hN, hc, hbw⟩
    exact ⟨_, rfl, hbw, .ifc 156 (.val (.pointer (some ⟨N, 0, none⟩))), fun ι ψ => .ifc _ _ _ (.val _ rfl), h _⟩
set_option maxHeartbeats 4000000 in
theorem parseUint (w0 : World) (hS : Syn w0) : PU16 w0 := by
  intro S b1 b2 R h1 h2
  have hte := fun S' => toErr w0 hS S' [b1, b2] (by simp)
  cases hh : hexV b1 b2 with
  | some v =>
    have hpu := fun S' (R : AOut → List Blk → Prop) (h : R (.ret (.tup [.int .u64 v, .inil])) S') => puIn w0 S' b1 b2 R (by rw [hh]; exact h)
    have h := h1 v hh
    clear hte h1 h2 hh
    refine enter Tryz.func103 rfl (by decide +kernel) (by rw [Tryz.ntmps103]; simp) (by rw [Tryz.ntmps103]; decide) (fun hO => ?_); rw [Tryz.ntmps103]
    repeat' first | refine st ?_ | (refine ca ?_; first | apply hpu) | (refine br ?_ ?_; all_goals (intro hb; try simp only [Bool.not_eq_true', Bool.not_eq_false'] at hb)) | fail
    (apply f_ret; iterate 7 (· simp only [go_sem, *, Tryz.results103]; try rfl))
    exact h
  | none =>
    have hpu := fun S' (R : AOut → List Blk → Prop) (h : R (.ret (.tup [.int .u64 0, synV])) S') => puIn w0 S' b1 b2 R (by rw [hh]; exact h)
    have h := h2 hh
    clear h1 h2 hh
    unfold synV at hpu hte
    refine enter Tryz.func103 rfl (by decide +kernel) (by rw [Tryz.ntmps103]; simp) (by rw [Tryz.ntmps103]; decide) (fun hO => ?_); rw [Tryz.ntmps103]
    repeat' first | refine st ?_ | (refine ca ?_; first | apply hpu | apply hte) | (refine br ?_ ?_; all_goals (intro hb; try simp only [Bool.not_eq_true', Bool.not_eq_false'] at hb)) | fail
    intro v
    repeat' first | refine st ?_ | (refine br ?_ ?_; all_goals (intro hb; try simp only [Bool.not_eq_true', Bool.not_eq_false'] at hb)) | fail
    (apply f_ret; iterate 7 (· simp only [go_sem, *, Tryz.results103]; try rfl))
    exact h _ _
end Go.Proofs.YtfnnjkbhmoomjaaGreatDoor
namespace Go.Proofs.YtfnnjkbhmoomjaaGreatDoor
open Go Go.Fen
set_option linter.unusedSimpArgs false
set_option linter.unusedVariables false
attribute [local irreducible] RunX WP ACall AnyP OpA ProtL afterCall afterOp
set_option maxRecDepth 8000
def rngV : AV := .ifc 153 (.int .i64 1)
theorem byte_at {s : List UInt8} {i : Nat} {b : UInt8} (h : s[i]? = some b) : (s.map byteAV)[i]? = some (.int .u8 (b.toNat : Int)) := by rw [List.getElem?_map, h]; rfl
theorem puX0 (w0 : World) (S : List Blk) (R : AOut → List Blk → Prop) (h2 : R (.ret (.tup [.int .u64 0, synV])) S) : ACall Tryz.prog w0 130 [.str [], .int .i64 16, .int .i64 8] S R := by
  unfold synV at h2
  refine enter Tryz.func130 rfl (by decide +kernel) (by rw [Tryz.ntmps130]; simp) (by rw [Tryz.ntmps130]; decide) (fun hO => ?_); rw [Tryz.ntmps130]
  repeat' first | refine st ?_ | (refine br ?_ ?_; all_goals (intro hb; try simp only [Bool.not_eq_true', Bool.not_eq_false'] at hb)) | fail
  (apply f_ret; iterate 7 (· simp only [go_sem, *, Tryz.results130]; try rfl))
  exact h2
set_option maxHeartbeats 8000000 in
theorem puX (w0 : World) (S : List Blk) (s : List UInt8) (hne : s ≠ []) (hs : s.length ≤ 100000) (R : AOut → List Blk → Prop) (h1 : ∀ v : Nat, R (.ret (.tup [.int .u64 v, .inil])) S) (h2 : R (.ret (.tup [.int .u64 0, synV])) S) (h3 : R (.ret (.tup [.int .u64 255, rngV])) S) :
    ACall Tryz.prog w0 130 [.str s, .int .i64 16, .int .i64 8] S R := by
  have hn0 : (s == []) = false := by simpa using hne
  have Hs := Lib.hid hs
  clear hne hs
  unfold synV at h2
  unfold rngV at h3
  have H1 := Lib.hid h1
  have H2 := Lib.hid h2
  have H3 := Lib.hid h3
  clear h1 h2 h3
  refine enter Tryz.func130 rfl (by decide +kernel) (by rw [Tryz.ntmps130]; simp) (by rw [Tryz.ntmps130]; decide) (fun hO => ?_); rw [Tryz.ntmps130]
  repeat' first | refine st ?_ | (refine br ?_ ?_; all_goals (intro hb; try simp only [Bool.not_eq_true', Bool.not_eq_false'] at hb)) | fail
  apply x_bytes
  · (simp only [go_sem, *]; try rfl)
  · rfl
  · (simp only [go_sem, *]; try rfl)
  · (simp only [go_sem, *]; try rfl)
  · (simp only [go_sem, *]; try rfl)
  · (simp only [go_sem, *]; try rfl)
  · rfl
  simp only [putA]
  repeat' first | refine st ?_ | (refine br ?_ ?_; all_goals (intro hb; try simp only [Bool.not_eq_true', Bool.not_eq_false'] at hb)) | fail
  have hffw : IntKind.u64.wrap (IntKind.u64.wrap (1 * 2 ^ min (IntKind.u64.wrap 8).toNat 64) - 1) = 255 := by decide +kernel
  have hlm : (s.map byteAV).length = s.length := List.length_map _
  refine x_ind (fun (p : Nat × Nat) env S' => p.1 ≤ s.length ∧ p.2 ≤ 255 ∧ env 1000000 = .dfr [] ∧ env 1 = .int .i64 16 ∧ env 8 = .bool false ∧ env 9 = .str s ∧ env 10 = .int .u64 1152921504606846976 ∧ env 11 = .int .u64 255 ∧ env 12 = .bool false ∧ env 13 = .int .u64 p.2 ∧
    env 99 = .sval false (s.map byteAV) ∧ env 100 = .int .i64 s.length ∧ env 101 = .int .i64 p.1 ∧ S' = S) (fun p => s.length - p.1) (0, 0) ?_ ?_
  · exact ⟨Nat.zero_le _, by omega, by (simp only [go_sem, *]; try rfl), by (simp only [go_sem, *]; try rfl), by (simp only [go_sem, *]; try rfl), by (simp only [go_sem, *]; try rfl), by (simp only [go_sem, *]; try rfl), by (simp only [go_sem, *]; try rfl), by (simp only [go_sem, *]; try rfl), by (simp only [go_sem, *]; try rfl), by (simp only [go_sem, *]; try rfl), by (simp only [go_sem, *]; try rfl), by (simp only [go_sem, *]; try rfl), rfl⟩
  · rintro ⟨i, acc⟩ env S' ⟨hi, hacc, e0, f1, f8, f9, f10, f11, f12, f13, f99, f100, f101, rfl⟩ IH
    have HI := Lib.hid IH
    have hw16 : IntKind.u8.wrap 16 = 16 := by decide
    have hw16' : IntKind.u64.wrap 16 = 16 := by decide
    have hlw := lower2 w0
    clear IH hffw hlm
    simp only at f13 f101 hi hacc
    have hs := Hs.out
    by_cases hlt : i < s.length
    · obtain ⟨b, hx⟩ : ∃ b, s[i]? = some b := ⟨_, List.getElem?_eq_getElem hlt⟩
      have hb := byte_at hx
      clear hx
      have h1 : decide ((i : Int) < (s.length : Int)) = true := by simpa using hlt
      have hwi : IntKind.i64.wrap ((i : Int) + 1) = ((i + 1 : Nat) : Int) := by rw [IntWalk.i64_in _ (by omega)]; rfl
      have Hlt := Lib.hid hlt
      have d5 : decide ((1152921504606846976 : Int) ≤ (acc : Int)) = false := by simp; omega
      have w5 : IntKind.u64.wrap ((acc : Int) * 16) = ((acc * 16 : Nat) : Int) := by rw [IntWalk.u64_in _ (by omega)]; omega
      have key : ∀ d : Nat, d < 16 → IntKind.u64.wrap (d : Int) = (d : Int) ∧ IntKind.u64.wrap (((acc * 16 : Nat) : Int) + (d : Int)) = ((acc * 16 + d : Nat) : Int) ∧ decide (((acc * 16 + d : Nat) : Int) < ((acc * 16 : Nat) : Int)) = false := by
        intro d hd
        refine ⟨IntWalk.u64_in _ (by omega), by rw [IntWalk.u64_in _ (by omega)]; omega, by simp; omega⟩
      clear hlt hacc hi hs
      have Key := Lib.hid key
      clear key
      generalize s.map byteAV = B at *
      by_cases c1 : 48 ≤ b.toNat ∧ b.toNat ≤ 57
      · have d1 : decide ((48 : Int) ≤ (b.toNat : Int)) = true := by simp; omega
        have d2 : decide ((b.toNat : Int) ≤ 57) = true := by simp; omega
        have d3 : ((b.toNat : Int) == 95) = false := by simp; omega
        have w1 : IntKind.u8.wrap ((b.toNat : Int) - 48) = ((b.toNat - 48 : Nat) : Int) := by rw [IntWalk.u8_in _ (by omega)]; omega
        have hd16 : b.toNat - 48 < 16 := by omega
        have d4 : decide ((16 : Int) ≤ ((b.toNat - 48 : Nat) : Int)) = false := by simp; omega
        clear c1
        generalize hdd : b.toNat - 48 = d at *
        obtain ⟨k1, k2, k3⟩ := Key.out d hd16
        clear hdd hd16
        by_cases hm : acc * 16 + d ≤ 255
        · have k4 : decide ((255 : Int) < ((acc * 16 + d : Nat) : Int)) = false := by simp; omega
          have Hm := Lib.hid hm
          clear hm
          repeat' first | refine st ?_ | (refine ca ?_; first | apply hlw) | (refine br ?_ ?_; all_goals (intro hb; try simp only [Bool.not_eq_true', Bool.not_eq_false'] at hb)) | fail
          refine HI.out (i + 1, acc * 16 + d) _ _ (by have := Hlt.out; simp only; omega) ⟨Hlt.out, Hm.out, ?_, ?_, ?_, ?_, ?_, ?_, ?_, ?_, ?_, ?_, ?_, rfl⟩
          all_goals (simp only [go_sem, *]; try rfl)
        · have k4 : decide ((255 : Int) < ((acc * 16 + d : Nat) : Int)) = true := by simp; omega
          have h3 := H3.out
          clear hm
          repeat' first | refine st ?_ | (refine ca ?_; first | apply hlw) | (refine br ?_ ?_; all_goals (intro hb; try simp only [Bool.not_eq_true', Bool.not_eq_false'] at hb)) | fail
          (apply f_ret; iterate 7 (· simp only [go_sem, *, Tryz.results130]; try rfl))
          exact h3
      · have hnd : (decide ((48 : Int) ≤ (b.toNat : Int)) && decide ((b.toNat : Int) ≤ 57)) = false := by
          rw [Bool.and_eq_false_iff]; simp; omega
        by_cases c2 : 97 ≤ lowN b ∧ lowN b ≤ 122
        · have e1 : decide ((97 : Int) ≤ (lowN b : Int)) = true := by simp; omega
          have e2 : decide ((lowN b : Int) ≤ 122) = true := by simp; omega
          have w1 : IntKind.u8.wrap ((lowN b : Int) - 97) = ((lowN b - 97 : Nat) : Int) := by rw [IntWalk.u8_in _ (by omega)]; omega
          have w2 : IntKind.u8.wrap (((lowN b - 97 : Nat) : Int) + 10) = ((lowN b - 87 : Nat) : Int) := by rw [IntWalk.u8_in _ (by omega)]; omega
          clear c1 c2
          generalize lowN b - 87 = d at *
          generalize lowN b - 97 = e at *
          by_cases hd16 : d < 16
          · have d4 : decide ((16 : Int) ≤ (d : Int)) = false := by simp; omega
            obtain ⟨k1, k2, k3⟩ := Key.out d hd16
            clear hd16
            cases q1 : decide ((48 : Int) ≤ (b.toNat : Int)) <;> cases q2 : decide ((b.toNat : Int) ≤ 57) <;> cases q3 : ((b.toNat : Int) == 95) <;> simp only [q1, q2] at hnd <;> try (exfalso; cases hnd; done)
            all_goals clear hnd
            all_goals
              by_cases hm : acc * 16 + d ≤ 255
              · have k4 : decide ((255 : Int) < ((acc * 16 + d : Nat) : Int)) = false := by simp; omega
                have Hm := Lib.hid hm
                clear hm
                repeat' first | refine st ?_ | (refine ca ?_; first | apply hlw) | (refine br ?_ ?_; all_goals (intro hb; try simp only [Bool.not_eq_true', Bool.not_eq_false'] at hb)) | fail
                refine HI.out (i + 1, acc * 16 + d) _ _ (by have := Hlt.out; simp only; omega) ⟨Hlt.out, Hm.out, ?_, ?_, ?_, ?_, ?_, ?_, ?_, ?_, ?_, ?_, ?_, rfl⟩
                all_goals (simp only [go_sem, *]; try rfl)
              · have k4 : decide ((255 : Int) < ((acc * 16 + d : Nat) : Int)) = true := by simp; omega
                have h3 := H3.out
                clear hm
                repeat' first | refine st ?_ | (refine ca ?_; first | apply hlw) | (refine br ?_ ?_; all_goals (intro hb; try simp only [Bool.not_eq_true', Bool.not_eq_false'] at hb)) | fail
                (apply f_ret; iterate 7 (· simp only [go_sem, *, Tryz.results130]; try rfl))
                exact h3
          · have d4 : decide ((16 : Int) ≤ (d : Int)) = true := by simp; omega
            have h2 := H2.out
            clear hd16
            cases q1 : decide ((48 : Int) ≤ (b.toNat : Int)) <;> cases q2 : decide ((b.toNat : Int) ≤ 57) <;> cases q3 : ((b.toNat : Int) == 95) <;> simp only [q1, q2] at hnd <;> try (exfalso; cases hnd; done)
            all_goals clear hnd
            all_goals
              repeat' first | refine st ?_ | (refine ca ?_; first | apply hlw) | (refine br ?_ ?_; all_goals (intro hb; try simp only [Bool.not_eq_true', Bool.not_eq_false'] at hb)) | fail
              (apply f_ret; iterate 7 (· simp only [go_sem, *, Tryz.results130]; try rfl))
              exact h2
        · have hle : (decide ((97 : Int) ≤ (lowN b : Int)) && decide ((lowN b : Int) ≤ 122)) = false := by
            rw [Bool.and_eq_false_iff]; simp; omega
          have h2 := H2.out
          clear c1 c2
          cases q1 : decide ((48 : Int) ≤ (b.toNat : Int)) <;> cases q2 : decide ((b.toNat : Int) ≤ 57) <;> cases q3 : ((b.toNat : Int) == 95) <;> simp only [q1, q2] at hnd <;> try (exfalso; cases hnd; done)
          all_goals clear hnd
          all_goals
            cases q4 : decide ((97 : Int) ≤ (lowN b : Int)) <;> cases q5 : decide ((lowN b : Int) ≤ 122) <;> simp only [q4, q5] at hle <;> try (exfalso; cases hle; done)
          all_goals clear hle
          all_goals
            repeat' first | refine st ?_ | (refine ca ?_; first | apply hlw) | (refine br ?_ ?_; all_goals (intro hb; try simp only [Bool.not_eq_true', Bool.not_eq_false'] at hb)) | fail
            (apply f_ret; iterate 7 (· simp only [go_sem, *, Tryz.results130]; try rfl))
            exact h2
    · have hil : i = s.length := by omega
      subst hil
      have h1 : decide ((s.length : Int) < (s.length : Int)) = false := by simp
      have hh := H1.out acc
      clear hlt hi hacc hs
      repeat' first | refine st ?_ | (refine br ?_ ?_; all_goals (intro hb; try simp only [Bool.not_eq_true', Bool.not_eq_false'] at hb)) | fail
      (apply f_ret; iterate 7 (· simp only [go_sem, *, Tryz.results130]; try rfl))
      exact hh
def Rng (w0 : World) : Prop := ∃ ev, w0.cell? ⟨3, 0, none⟩ = some ev ∧ (ev = .nilIface ∨ ∃ te pe, ev = .iface te pe)
theorem toErrR (w0 : World) (hS : Rng w0) (S : List Blk) (s : List UInt8) (hs : s.length ≤ 100000) (R : AOut → List Blk → Prop) (h : ∀ v : Value, R (.ret (.ifc 156 (.val v))) S) :
    ACall Tryz.prog w0 100 [.str [80, 97, 114, 115, 101, 85, 105, 110, 116], .str s, .int .i64 16, .int .i64 8, rngV] S R := by
  refine ACall.libR (vs := [.string ⟨#[80, 97, 114, 115, 101, 85, 105, 110, 116]⟩, .string ⟨s.toArray⟩, .int .i64 16, .int .i64 8, .iface 153 (.int .i64 1)]) (Go.Proofs.enters_of Tryz.func100 (by kernel_rfl) rfl) rfl ?_
  intro w hb
  obtain ⟨ev, hv, hev⟩ := hS
  refine (Go.Proofs.Any.strconv_toError_range Go.Proofs.Tryz.laysC245 ⟨#[80, 97, 114, 115, 101, 85, 105, 110, 116]⟩ ⟨s.toArray⟩ 16 8 ev w ?_ ?_ hev).mono ?_
  · show s.toArray.size ≤ _
    simp; omega
  · exact (hb.cell (World.block_lt_of_cell? _ _ hv)).trans hv
  · rintro e w' ⟨N, rfl, hN, hc, hbw⟩
    exact ⟨_, rfl, hbw, .ifc 156 (.val (.pointer (some ⟨N, 0, none⟩))), fun ι ψ => .ifc _ _ _ (.val _ rfl), h _⟩
theorem toErrS (w0 : World) (hS : Syn w0) (S : List Blk) (s : List UInt8) (hs : s.length ≤ 100000) (R : AOut → List Blk → Prop) (h : ∀ v : Value, R (.ret (.ifc 156 (.val v))) S) :
    ACall Tryz.prog w0 100 [.str [80, 97, 114, 115, 101, 85, 105, 110, 116], .str s, .int .i64 16, .int .i64 8, synV] S R := by
  refine ACall.libR (vs := [.string ⟨#[80, 97, 114, 115, 101, 85, 105, 110, 116]⟩, .string ⟨s.toArray⟩, .int .i64 16, .int .i64 8, .iface 153 (.int .i64 2)]) (Go.Proofs.enters_of Tryz.func100 (by kernel_rfl) rfl) rfl ?_
  intro w hb
  obtain ⟨ev, hv, hev⟩ := hS
  refine (Go.Proofs.Any.strconv_toError_syntax Go.Proofs.Tryz.laysC245 ⟨#[80, 97, 114, 115, 101, 85, 105, 110, 116]⟩ ⟨s.toArray⟩ 16 8 ev w ?_ ?_ hev).mono ?_
  · show s.toArray.size ≤ _
    simp; omega
  · exact (hb.cell (World.block_lt_of_cell? _ _ hv)).trans hv
  · rintro e w' ⟨N, rfl, hN, hc, hbw⟩
    exact ⟨_, rfl, hbw, .ifc 156 (.val (.pointer (some ⟨N, 0, none⟩))), fun ι ψ => .ifc _ _ _ (.val _ rfl), h _⟩
end Go.Proofs.YtfnnjkbhmoomjaaGreatDoor
namespace Go.Proofs.YtfnnjkbhmoomjaaGreatDoor
open Go Go.Fen
set_option linter.unusedSimpArgs false
set_option linter.unusedVariables false
attribute [local irreducible] RunX WP ACall AnyP OpA ProtL afterCall afterOp
set_option maxRecDepth 8000
theorem pU2 (w0 : World) (hS : Syn w0) (S : List Blk) (a b : UInt8) (v : Nat) (hv : hexV a b = some v) (R : AOut → List Blk → Prop) (h : R (.ret (.tup [.int .u64 v, .inil])) S) : ACall Tryz.prog w0 103 [.str [a, b], .int .i64 16, .int .i64 8] S R :=
  parseUint w0 hS S a b R (fun v' hv' => by rw [hv] at hv'; cases hv'; exact h) (fun e => by rw [hv] at e; cases e)
theorem pU2F (w0 : World) (hS : Syn w0) (S : List Blk) (a b : UInt8) (hv : hexV a b = none) (R : AOut → List Blk → Prop) (h : ∀ t x, R (.ret (.tup [.int .u64 0, .ifc t x])) S) : ACall Tryz.prog w0 103 [.str [a, b], .int .i64 16, .int .i64 8] S R :=
  parseUint w0 hS S a b R (fun v' hv' => by rw [hv] at hv'; cases hv') (fun _ => h)
set_option maxHeartbeats 2000000 in
theorem pUX (w0 : World) (hS : Syn w0) (hG : Rng w0) (S : List Blk) (s : List UInt8) (hs : s.length ≤ 100000) (R : AOut → List Blk → Prop) (h1 : ∀ v : Nat, R (.ret (.tup [.int .u64 v, .inil])) S) (h2 : ∀ (v : Nat) t x, R (.ret (.tup [.int .u64 v, .ifc t x])) S) : ACall Tryz.prog w0 103 [.str s, .int .i64 16, .int .i64 8] S R := by
  have heS := fun S' => toErrS w0 hS S' s hs
  have heR := fun S' => toErrR w0 hG S' s hs
  have hc0 : ((0 : Nat) : Int) = 0 := rfl
  have h20 : ∀ t x, R (.ret (.tup [.int .u64 0, .ifc t x])) S := h2 0
  have h21 : ∀ t x, R (.ret (.tup [.int .u64 255, .ifc t x])) S := h2 255
  unfold synV at heS
  unfold rngV at heR
  by_cases hn : s = []
  · subst hn
    have hp := puX0 w0
    unfold synV at hp
    clear hS hG h1 h2 h21 heR
    refine enter Tryz.func103 rfl (by decide +kernel) (by rw [Tryz.ntmps103]; simp) (by rw [Tryz.ntmps103]; decide) (fun hO => ?_); rw [Tryz.ntmps103]
    repeat' first | refine st ?_ | (refine ca ?_; first | apply hp | apply heS) | (refine br ?_ ?_; all_goals (intro hb; try simp only [Bool.not_eq_true', Bool.not_eq_false'] at hb)) | fail
    intro v
    repeat' first | refine st ?_ | (refine br ?_ ?_; all_goals (intro hb; try simp only [Bool.not_eq_true', Bool.not_eq_false'] at hb)) | fail
    (apply f_ret; iterate 7 (· simp only [go_sem, *, Tryz.results103]; try rfl))
    exact h20 _ _
  · have hp := fun S' => puX w0 S' s hn hs
    unfold synV rngV at hp
    clear hS hG h2 hs hn
    refine enter Tryz.func103 rfl (by decide +kernel) (by rw [Tryz.ntmps103]; simp) (by rw [Tryz.ntmps103]; decide) (fun hO => ?_); rw [Tryz.ntmps103]
    repeat' first | refine st ?_ | (refine ca ?_; first | apply hp) | (refine br ?_ ?_; all_goals (intro hb; try simp only [Bool.not_eq_true', Bool.not_eq_false'] at hb)) | fail
    · intro v
      repeat' first | refine st ?_ | (refine br ?_ ?_; all_goals (intro hb; try simp only [Bool.not_eq_true', Bool.not_eq_false'] at hb)) | fail
      (apply f_ret; iterate 7 (· simp only [go_sem, *, Tryz.results103]; try rfl))
      exact h1 _
    · repeat' first | refine st ?_ | (refine ca ?_; first | apply heS) | (refine br ?_ ?_; all_goals (intro hb; try simp only [Bool.not_eq_true', Bool.not_eq_false'] at hb)) | fail
      intro v
      repeat' first | refine st ?_ | (refine br ?_ ?_; all_goals (intro hb; try simp only [Bool.not_eq_true', Bool.not_eq_false'] at hb)) | fail
      (apply f_ret; iterate 7 (· simp only [go_sem, *, Tryz.results103]; try rfl))
      exact h20 _ _
    · repeat' first | refine st ?_ | (refine ca ?_; first | apply heR) | (refine br ?_ ?_; all_goals (intro hb; try simp only [Bool.not_eq_true', Bool.not_eq_false'] at hb)) | fail
      intro v
      repeat' first | refine st ?_ | (refine br ?_ ?_; all_goals (intro hb; try simp only [Bool.not_eq_true', Bool.not_eq_false'] at hb)) | fail
      (apply f_ret; iterate 7 (· simp only [go_sem, *, Tryz.results103]; try rfl))
      exact h21 _ _
theorem oSplit (w0 : World) (S : List Blk) (s : List UInt8) (hs : s.length ≤ 100000) (R : AOut → List Blk → Prop) (h : ∀ b, R (.ret (.sval b ((splL s).map AV.str))) S) : ACall Tryz.prog w0 102 [.str s, .str [47]] S R := by
  have hg := fun S' => gSplit w0 S' s hs
  have hlt : ltL S.length ((splL s).map AV.str) = true := ltL_iff.2 fun x hx => by obtain ⟨y, _, rfl⟩ := List.mem_map.1 hx; rfl
  have hpl : plainL ((splL s).map AV.str) = true := by
    have := seq_plain (splL s) 0
    simpa [seqE] using this
  generalize (splL s).map AV.str = F at h hg hlt hpl
  clear hs
  refine enter Tryz.func102 rfl (by decide +kernel) (by rw [Tryz.ntmps102]; simp) (by rw [Tryz.ntmps102]; decide) (fun hO => ?_); rw [Tryz.ntmps102]
  repeat' first | refine st ?_ | (refine ca ?_; first | apply hg) | (refine br ?_ ?_; all_goals (intro hb; try simp only [Bool.not_eq_true', Bool.not_eq_false'] at hb)) | fail
  intro b
  cases b
  all_goals
    repeat' first | refine st ?_ | (refine br ?_ ?_; all_goals (intro hb; try simp only [Bool.not_eq_true', Bool.not_eq_false'] at hb)) | fail
    (apply f_ret; iterate 7 (· simp only [go_sem, *, Tryz.results102]; try rfl))
    exact h _
def pfxB (s : List UInt8) : Bool := decide (4 ≤ s.length) && (s.take 4 == [114, 103, 98, 58])
theorem hasPfx (w0 : World) (S : List Blk) (s : List UInt8) (R : AOut → List Blk → Prop) (h : R (.ret (.bool (pfxB s))) S) : ACall Tryz.prog w0 75 [.str s, .str [114, 103, 98, 58]] S R := by
  unfold pfxB at h
  by_cases hl : 4 ≤ s.length
  · have d1 : decide ((4 : Int) ≤ (s.length : Int)) = true := by simp; omega
    have hk : ((4 : Nat) : Int) ≤ (s.length : Int) := by omega
    have hk2 : (4 : Int) ≤ (s.length : Int) := by omega
    have hc4 : ((4 : Nat) : Int) = 4 := rfl
    have d2 : decide (((4 : Nat) : Int) ≤ (s.length : Int)) = true := by simp; omega
    rw [decide_eq_true hl, Bool.true_and] at h
    clear hl
    refine enter Tryz.func75 rfl (by decide +kernel) (by rw [Tryz.ntmps75]; simp) (by rw [Tryz.ntmps75]; decide) (fun hO => ?_); rw [Tryz.ntmps75]
    repeat' first | refine st ?_ | (refine br ?_ ?_; all_goals (intro hb; try simp only [Bool.not_eq_true', Bool.not_eq_false'] at hb)) | fail
    (apply f_ret; iterate 7 (· simp only [go_sem, *, Tryz.results75]; try rfl))
    exact h
  · have d1 : decide ((4 : Int) ≤ (s.length : Int)) = false := by simp; omega
    have d2 : decide (((4 : Nat) : Int) ≤ (s.length : Int)) = false := by simp; omega
    rw [decide_eq_false hl, Bool.false_and] at h
    clear hl
    refine enter Tryz.func75 rfl (by decide +kernel) (by rw [Tryz.ntmps75]; simp) (by rw [Tryz.ntmps75]; decide) (fun hO => ?_); rw [Tryz.ntmps75]
    repeat' first | refine st ?_ | (refine br ?_ ?_; all_goals (intro hb; try simp only [Bool.not_eq_true', Bool.not_eq_false'] at hb)) | fail
    (apply f_ret; iterate 7 (· simp only [go_sem, *, Tryz.results75]; try rfl))
    exact h
def cutPV (s : List UInt8) : AV := if pfxB s then .tup [.str (s.drop 4), .bool true] else .tup [.str s, .bool false]
theorem cutP0 (w0 : World) (S : List Blk) (s : List UInt8) (R : AOut → List Blk → Prop) (h : R (.ret (cutPV s)) S) : ACall Tryz.prog w0 128 [.str s, .str [114, 103, 98, 58]] S R := by
  have hp := fun S' => hasPfx w0 S' s
  unfold cutPV at h
  cases hb : pfxB s with
  | false =>
    rw [hb] at h hp
    have h : R (.ret (.tup [.str s, .bool false])) S := h
    clear hb
    refine enter Tryz.func128 rfl (by decide +kernel) (by rw [Tryz.ntmps128]; simp) (by rw [Tryz.ntmps128]; decide) (fun hO => ?_); rw [Tryz.ntmps128]
    repeat' first | refine st ?_ | (refine ca ?_; first | apply hp) | (refine br ?_ ?_; all_goals (intro hb; try simp only [Bool.not_eq_true', Bool.not_eq_false'] at hb)) | fail
    (apply f_ret; iterate 7 (· simp only [go_sem, *, Tryz.results128]; try rfl))
    exact h
  | true =>
    have hl : 4 ≤ s.length := by unfold pfxB at hb; simp at hb; exact hb.1
    have hk : ((4 : Nat) : Int) ≤ (s.length : Int) := by omega
    have hts : List.take s.length s = s := List.take_length
    rw [hb] at h hp
    have h : R (.ret (.tup [.str (s.drop 4), .bool true])) S := h
    clear hb hl
    refine enter Tryz.func128 rfl (by decide +kernel) (by rw [Tryz.ntmps128]; simp) (by rw [Tryz.ntmps128]; decide) (fun hO => ?_); rw [Tryz.ntmps128]
    repeat' first | refine st ?_ | (refine ca ?_; first | apply hp) | (refine br ?_ ?_; all_goals (intro hb; try simp only [Bool.not_eq_true', Bool.not_eq_false'] at hb)) | fail
    (apply f_ret; iterate 7 (· simp only [go_sem, *, Tryz.results128]; try rfl))
    exact h
theorem cutP (w0 : World) (S : List Blk) (s : List UInt8) (R : AOut → List Blk → Prop) (h : R (.ret (cutPV s)) S) : ACall Tryz.prog w0 101 [.str s, .str [114, 103, 98, 58]] S R := by
  have hp := fun S' => cutP0 w0 S' s
  unfold cutPV at h hp
  cases hb : pfxB s with
  | false =>
    rw [hb] at h hp
    have h : R (.ret (.tup [.str s, .bool false])) S := h
    have hp : ∀ S' (R : AOut → List Blk → Prop), R (.ret (.tup [.str s, .bool false])) S' → ACall Tryz.prog w0 128 [.str s, .str [114, 103, 98, 58]] S' R := hp
    clear hb
    refine enter Tryz.func101 rfl (by decide +kernel) (by rw [Tryz.ntmps101]; simp) (by rw [Tryz.ntmps101]; decide) (fun hO => ?_); rw [Tryz.ntmps101]
    repeat' first | refine st ?_ | (refine ca ?_; first | apply hp) | (refine br ?_ ?_; all_goals (intro hb; try simp only [Bool.not_eq_true', Bool.not_eq_false'] at hb)) | fail
    (apply f_ret; iterate 7 (· simp only [go_sem, *, Tryz.results101]; try rfl))
    exact h
  | true =>
    rw [hb] at h hp
    have h : R (.ret (.tup [.str (s.drop 4), .bool true])) S := h
    have hp : ∀ S' (R : AOut → List Blk → Prop), R (.ret (.tup [.str (s.drop 4), .bool true])) S' → ACall Tryz.prog w0 128 [.str s, .str [114, 103, 98, 58]] S' R := hp
    clear hb
    generalize s.drop 4 = d at h hp
    refine enter Tryz.func101 rfl (by decide +kernel) (by rw [Tryz.ntmps101]; simp) (by rw [Tryz.ntmps101]; decide) (fun hO => ?_); rw [Tryz.ntmps101]
    repeat' first | refine st ?_ | (refine ca ?_; first | apply hp) | (refine br ?_ ?_; all_goals (intro hb; try simp only [Bool.not_eq_true', Bool.not_eq_false'] at hb)) | fail
    (apply f_ret; iterate 7 (· simp only [go_sem, *, Tryz.results101]; try rfl))
    exact h
end Go.Proofs.YtfnnjkbhmoomjaaGreatDoor
namespace Go.Proofs.YtfnnjkbhmoomjaaGreatDoor
open Go Go.Fen
set_option linter.unusedSimpArgs false
set_option linter.unusedVariables false
attribute [local irreducible] RunX WP ACall AnyP OpA ProtL afterCall afterOp
set_option maxRecDepth 8000
def hx2 : List UInt8 → Option Nat
  | [a, b] => hexV a b
  | _ => none
def accP : Nat → List (List UInt8) → Option Nat
  | n, [] => some n
  | n, p :: ps => match hx2 p with | some k => accP (n * 256 + k) ps | none => none
def joinL : List (List UInt8) → List UInt8
  | [] => []
  | [w] => w
  | w :: ws => w ++ 47 :: joinL ws
theorem spl_join : ∀ s, joinL (splL s) = s
  | [] => rfl
  | b :: r => by
    have ih := spl_join r
    unfold splL
    split
    · next h =>
      subst h
      cases hs : splL r with
      | nil => exact absurd hs (spl_ne r)
      | cons w ws => rw [hs] at ih; simp [joinL, ih]
    · split
      · next e => exact absurd e (spl_ne r)
      · next w ws e =>
        rw [e] at ih
        cases ws with
        | nil => simp only [joinL] at ih ⊢; rw [ih]
        | cons w2 ws => simp only [joinL, List.cons_append] at ih ⊢; rw [ih]
theorem hexD_ne {b : UInt8} {x : Nat} (h : hexD1 b = some x) : b ≠ 47 ∧ b ≠ 43 ∧ b ≠ 95 := by
  have : ∀ n : Nat, n < 256 → (hexD1 (UInt8.ofNat n)).isSome = true → UInt8.ofNat n ≠ 47 ∧ UInt8.ofNat n ≠ 43 ∧ UInt8.ofNat n ≠ 95 := by decide +kernel
  have h2 := this b.toNat b.toNat_lt
  rw [UInt8.ofNat_toNat] at h2
  exact h2 (by rw [h]; rfl)
theorem hexV_ne {a b : UInt8} {x : Nat} (h : hexV a b = some x) : (a ≠ 47 ∧ a ≠ 43 ∧ a ≠ 95) ∧ (b ≠ 47 ∧ b ≠ 43 ∧ b ≠ 95) := by
  unfold hexV at h
  cases h1 : hexD1 a with
  | none => rw [h1] at h; simp at h
  | some u =>
    cases h2 : hexD1 b with
    | none => rw [h1, h2] at h; simp at h
    | some v => exact ⟨hexD_ne h1, hexD_ne h2⟩
theorem spl_three {a b c d e f : UInt8} (ha : a ≠ 47) (hb : b ≠ 47) (hc : c ≠ 47) (hd : d ≠ 47) (he : e ≠ 47) (hf : f ≠ 47) : splL [a, b, 47, c, d, 47, e, f] = [[a, b], [c, d], [e, f]] := by
  simp [splL, ha, hb, hc, hd, he, hf]
theorem col_some {s : List UInt8} {n : Nat} (h : colP s = some n) : pfxB s = true ∧ ∃ p q r, splL (s.drop 4) = [p, q, r] ∧ accP 0 [p, q, r] = some n := by
  unfold colP at h
  split at h
  · next p0 p1 p2 p3 a b q c d r e f =>
    split at h
    · next hp =>
      obtain ⟨rfl, rfl, rfl, rfl, rfl, rfl⟩ := hp
      split at h
      · next x y z hx hy hz =>
        cases h
        refine ⟨rfl, [a, b], [c, d], [e, f], ?_, ?_⟩
        · exact spl_three (hexV_ne hx).1.1 (hexV_ne hx).2.1 (hexV_ne hy).1.1 (hexV_ne hy).2.1 (hexV_ne hz).1.1 (hexV_ne hz).2.1
        · simp only [accP, hx2, hx, hy, hz]
          congr 1
          omega
      · cases h
    · cases h
  · cases h
theorem hx2_some {p : List UInt8} {k : Nat} (h : hx2 p = some k) : ∃ a b, p = [a, b] ∧ hexV a b = some k := by
  unfold hx2 at h
  split at h
  · exact ⟨_, _, rfl, h⟩
  · cases h
theorem acc_three {p q r : List UInt8} {n : Nat} (h : accP 0 [p, q, r] = some n) : ∃ a b c d e f x y z, p = [a, b] ∧ q = [c, d] ∧ r = [e, f] ∧ hexV a b = some x ∧ hexV c d = some y ∧ hexV e f = some z ∧ n = x * 65536 + y * 256 + z := by
  simp only [accP] at h
  cases h1 : hx2 p with
  | none => rw [h1] at h; cases h
  | some x =>
    cases h2 : hx2 q with
    | none => rw [h1, h2] at h; cases h
    | some y =>
      cases h3 : hx2 r with
      | none => rw [h1, h2, h3] at h; cases h
      | some z =>
        rw [h1, h2, h3] at h
        simp only [Option.some.injEq] at h
        obtain ⟨a, b, rfl, e1⟩ := hx2_some h1
        obtain ⟨c, d, rfl, e2⟩ := hx2_some h2
        obtain ⟨e, f, rfl, e3⟩ := hx2_some h3
        exact ⟨a, b, c, d, e, f, x, y, z, rfl, rfl, rfl, e1, e2, e3, by omega⟩
theorem col_of {s p q r : List UInt8} {n : Nat} (hp : pfxB s = true) (hs : splL (s.drop 4) = [p, q, r]) (h : accP 0 [p, q, r] = some n) : colP s = some n := by
  obtain ⟨a, b, c, d, e, f, x, y, z, rfl, rfl, rfl, e1, e2, e3, rfl⟩ := acc_three h
  have hj := spl_join (s.drop 4)
  rw [hs] at hj
  unfold pfxB at hp
  simp at hp
  have hsp : s = [114, 103, 98, 58, a, b, 47, c, d, 47, e, f] := by
    rw [← List.take_append_drop 4 s, hp.2, ← hj]
    rfl
  rw [hsp]
  unfold colP
  simp only
  rw [if_pos (by simp), e1, e2, e3]
theorem col_none {s p q r : List UInt8} (hs : splL (s.drop 4) = [p, q, r]) (h : accP 0 [p, q, r] = none) : colP s = none := by
  cases hc : colP s with
  | none => rfl
  | some n =>
    obtain ⟨_, p', q', r', h1, h2⟩ := col_some hc
    rw [hs] at h1
    cases h1
    rw [h] at h2; cases h2
def cpV : Option Nat → AV
  | some n => .tup [.agg [.int .i64 2, .int .i64 n], .int .i64 0]
  | none => .tup [.agg [.int .i64 0, .int .i64 0], .int .i64 6]
end Go.Proofs.YtfnnjkbhmoomjaaGreatDoor
namespace Go.Proofs.YtfnnjkbhmoomjaaGreatDoor
open Go Go.Fen
set_option linter.unusedSimpArgs false
set_option linter.unusedVariables false
attribute [local irreducible] RunX WP ACall AnyP OpA ProtL afterCall afterOp
set_option maxRecDepth 8000
set_option maxHeartbeats 10000000 in
theorem oColParse (w0 : World) (hS : Syn w0) (hG : Rng w0) (S : List Blk) (s : List UInt8) (hs : s.length ≤ 10000) (R : AOut → List Blk → Prop) (h : R (.ret (cpV (colP s))) S) : ACall Tryz.prog w0 67 [.str s] S R := by
  have hcut := fun S' => cutP w0 S' s
  unfold cutPV at hcut
  have bad : colP s = none → R (.ret (.tup [.agg [.int .i64 0, .int .i64 0], .int .i64 6])) S := fun e => by rw [e] at h; exact h
  have good : ∀ n, colP s = some n → R (.ret (.tup [.agg [.int .i64 2, .int .i64 n], .int .i64 0])) S := fun n e => by rw [e] at h; exact h
  clear h
  cases hpx : pfxB s with
  | false =>
    have hb := bad (by cases hc : colP s with | none => rfl | some n => have := (col_some hc).1; rw [hpx] at this; cases this)
    rw [hpx] at hcut
    have hcut : ∀ S' (R : AOut → List Blk → Prop), R (.ret (.tup [.str s, .bool false])) S' → ACall Tryz.prog w0 101 [.str s, .str [114, 103, 98, 58]] S' R := hcut
    have hsp := fun S' => oSplit w0 S' s (by omega)
    generalize (splL s).map AV.str = F at hsp
    clear bad good hpx hs hS hG
    refine enter Tryz.func67 rfl (by decide +kernel) (by rw [Tryz.ntmps67]; simp) (by rw [Tryz.ntmps67]; decide) (fun hO => ?_); rw [Tryz.ntmps67]
    repeat' first | refine st ?_ | (refine ca ?_; first | apply hcut | apply hsp) | (refine br ?_ ?_; all_goals (intro hb; try simp only [Bool.not_eq_true', Bool.not_eq_false'] at hb)) | fail
    intro b
    repeat' first | refine st ?_ | (refine br ?_ ?_; all_goals (intro hb; try simp only [Bool.not_eq_true', Bool.not_eq_false'] at hb)) | fail
    (apply f_ret; iterate 7 (· simp only [go_sem, *, Tryz.results67]; try rfl))
    exact hb
  | true =>
  rw [hpx] at hcut
  have hcut : ∀ S' (R : AOut → List Blk → Prop), R (.ret (.tup [.str (s.drop 4), .bool true])) S' → ACall Tryz.prog w0 101 [.str s, .str [114, 103, 98, 58]] S' R := hcut
  have hsp := fun S' => oSplit w0 S' (s.drop 4) (by simp; omega)
  by_cases h3 : (splL (s.drop 4)).length = 3
  case neg =>
    have hb := bad (by cases hc : colP s with | none => rfl | some n => obtain ⟨_, p, q, r, e, _⟩ := col_some hc; rw [e] at h3; exact absurd rfl h3)
    have d1 : ((((splL (s.drop 4)).map AV.str).length : Int) != 3) = true := by rw [bne_iff_ne, List.length_map]; omega
    generalize (splL (s.drop 4)).map AV.str = F at hsp d1
    generalize s.drop 4 = u at hcut hsp
    clear bad good hpx hs h3 hS hG
    refine enter Tryz.func67 rfl (by decide +kernel) (by rw [Tryz.ntmps67]; simp) (by rw [Tryz.ntmps67]; decide) (fun hO => ?_); rw [Tryz.ntmps67]
    repeat' first | refine st ?_ | (refine ca ?_; first | apply hcut | apply hsp) | (refine br ?_ ?_; all_goals (intro hb; try simp only [Bool.not_eq_true', Bool.not_eq_false'] at hb)) | fail
    intro b
    repeat' first | refine st ?_ | (refine br ?_ ?_; all_goals (intro hb; try simp only [Bool.not_eq_true', Bool.not_eq_false'] at hb)) | fail
    (apply f_ret; iterate 7 (· simp only [go_sem, *, Tryz.results67]; try rfl))
    exact hb
  case pos =>
    obtain ⟨p, q, r, hL⟩ : ∃ p q r, splL (s.drop 4) = [p, q, r] := by
      match hm : splL (s.drop 4), h3 with
      | [p, q, r], _ => exact ⟨p, q, r, rfl⟩
    have good2 : ∀ n, accP 0 [p, q, r] = some n → R (.ret (.tup [.agg [.int .i64 2, .int .i64 n], .int .i64 0])) S := fun n e => good n (col_of hpx hL e)
    have bad2 : accP 0 [p, q, r] = none → R (.ret (.tup [.agg [.int .i64 0, .int .i64 0], .int .i64 6])) S := fun e => bad (col_none hL e)
    have hjl := spl_join (s.drop 4)
    rw [hL] at hsp hjl
    have hlen : ∀ x ∈ [p, q, r], x.length ≤ 100000 := by
      have hl := congrArg List.length hjl
      simp [joinL] at hl
      intro x hx
      simp only [List.mem_cons, List.not_mem_nil, or_false] at hx
      rcases hx with rfl | rfl | rfl <;> omega
    simp only [List.map_cons, List.map_nil] at hsp
    generalize s.drop 4 = u at hcut hsp
    have Good := Lib.hid good2
    have Bad := Lib.hid bad2
    have Hlen := Lib.hid hlen
    have HSS := Lib.hid hS
    have HGG := Lib.hid hG
    clear bad good good2 bad2 hpx hs h3 hL hjl hlen hS hG
    refine enter Tryz.func67 rfl (by decide +kernel) (by rw [Tryz.ntmps67]; simp) (by rw [Tryz.ntmps67]; decide) (fun hO => ?_); rw [Tryz.ntmps67]
    repeat' first | refine st ?_ | (refine ca ?_; first | apply hcut | apply hsp) | (refine br ?_ ?_; all_goals (intro hb; try simp only [Bool.not_eq_true', Bool.not_eq_false'] at hb)) | fail
    intro b
    repeat' first | refine st ?_ | (refine br ?_ ?_; all_goals (intro hb; try simp only [Bool.not_eq_true', Bool.not_eq_false'] at hb)) | fail
    have hc3 : ((3 : Nat) : Int) = 3 := rfl
    refine x_ind (fun (p' : Nat × Nat × List (List UInt8)) env S' => p'.1 ≤ 3 ∧ [p, q, r].drop p'.1 = p'.2.2 ∧ p'.2.1 < 256 ^ p'.1 ∧ accP p'.2.1 p'.2.2 = accP 0 [p, q, r] ∧ env 1000000 = .dfr [] ∧ env 2 = .own S.length 0 ∧ env 7 = .int .i64 (p'.2.1 : Int) ∧ env 27 = .sval b [.str p, .str q, .str r] ∧ env 28 = .int .i64 3 ∧ env 29 = .int .i64 (p'.1 : Int) ∧
      S' = S ++ [Blk.cells [.int .i64 0, .int .i64 0]]) (fun p' => 3 - p'.1) (0, 0, [p, q, r]) ?_ ?_
    · exact ⟨by omega, rfl, by simp, rfl, by (simp only [go_sem, *]; try rfl), by (simp only [go_sem, *]; try rfl), by (simp only [go_sem, *]; try rfl), by (simp only [go_sem, *]; try rfl), by (simp only [go_sem, *]; try rfl), by (simp only [go_sem, *]; try rfl), rfl⟩
    · rintro ⟨k, n, rest⟩ env S' ⟨hk, hrest, hn, hacc, e0, f2, f7, f27, f28, f29, rfl⟩ IH
      simp only at hk hrest hn hacc f7 f29
      have HI := Lib.hid IH
      clear IH hcut hsp hc3
      have hp3 : 256 ^ k ≤ 256 ^ 3 := Nat.pow_le_pow_right (by omega) hk
      have hp3' : (256 : Nat) ^ 3 = 16777216 := by decide
      by_cases hlt : k < 3
      · obtain ⟨x, rr, rfl⟩ : ∃ x rr, rest = x :: rr := by
          cases rest with
          | nil => have := congrArg List.length hrest; simp at this; omega
          | cons x rr => exact ⟨x, rr, rfl⟩
        have hx0 : [p, q, r][k]? = some x := by
          have := congrArg List.head? hrest
          simpa [List.head?_drop] using this
        have hxl := Hlen.out x (List.mem_of_getElem? hx0)
        have hx : ([AV.str p, AV.str q, AV.str r])[k]? = some (.str x) := by
          have : ([p, q, r].map AV.str)[k]? = some (.str x) := by rw [List.getElem?_map, hx0]; rfl
          exact this
        have hr2 : [p, q, r].drop (k + 1) = rr := by
          rw [← List.drop_drop, hrest]; rfl
        have h1 : decide ((k : Int) < 3) = true := by simp; omega
        have hk6 : (k : Int) < ((3 : Nat) : Int) := by omega
        have hw : IntKind.i64.wrap ((k : Int) + 1) = (k : Int) + 1 := IntWalk.i64_in _ (by omega)
        clear hx0 hrest
        cases hh2 : hx2 x with
        | some v =>
          obtain ⟨a1, b1, rfl, hv⟩ := hx2_some hh2
          have hvl := hexV_lt hv
          obtain ⟨⟨_, n1, n2⟩, _⟩ := hexV_ne hv
          have m1 : ((a1.toNat : Int) == 43) = false := by
            rw [beq_eq_false_iff_ne]
            intro e
            exact n1 (by rw [← UInt8.ofNat_toNat (x := a1), show a1.toNat = 43 by omega]; rfl)
          have m2 : ((a1.toNat : Int) == 95) = false := by
            rw [beq_eq_false_iff_ne]
            intro e
            exact n2 (by rw [← UInt8.ofNat_toNat (x := a1), show a1.toNat = 95 by omega]; rfl)
          have hpu := fun S' => pU2 w0 HSS.out S' a1 b1 v hv
          have hacc2 : accP (n * 256 + v) rr = accP 0 [p, q, r] := by rw [← hacc]; simp only [accP, hh2]
          have hn2 : n * 256 + v < 256 ^ (k + 1) := by rw [Nat.pow_succ]; omega
          have hwv : IntKind.i64.wrap (v : Int) = (v : Int) := IntWalk.i64_in _ (by omega)
          have hor := orK (a := n) (b := v) (k := 8) (by omega) (by omega) (by omega)
          have hor : IntKind.i64.wrap (((BitVec.ofInt IntKind.i64.bits (IntKind.i64.wrap ((n : Int) * 2 ^ min 8 64)) ||| BitVec.ofInt IntKind.i64.bits (v : Int)).toNat : Nat) : Int) = ((n * 256 + v : Nat) : Int) := hor
          simp only [IntKind.bits] at hor
          have Hf := Lib.hid (And.intro hlt (And.intro hr2 (And.intro hn2 hacc2)))
          clear hlt hr2 hn2 hacc2 hacc hn hk hp3 hp3' hvl hv hh2 n1 n2 hxl
          repeat' first | refine st ?_ | (refine ca ?_; first | apply hpu) | (refine br ?_ ?_; all_goals (intro hb; try simp only [Bool.not_eq_true', Bool.not_eq_false'] at hb)) | fail
          obtain ⟨hlt, hr2, hn2, hacc2⟩ := Hf.out
          refine HI.out (k + 1, n * 256 + v, rr) _ _ (by simp only; omega) ⟨hlt, hr2, hn2, hacc2, ?_, ?_, ?_, ?_, ?_, ?_, rfl⟩
          all_goals (simp only [go_sem, *]; try rfl)
        | none =>
          have hbad := Bad.out (by rw [← hacc]; simp only [accP, hh2])
          by_cases hl2 : x.length = 2
          · obtain ⟨a1, b1, rfl⟩ : ∃ a1 b1, x = [a1, b1] := by
              match x, hl2 with
              | [a1, b1], _ => exact ⟨a1, b1, rfl⟩
            have hpu := fun S' => pU2F w0 HSS.out S' a1 b1 hh2
            clear hlt hr2 hacc hn hk hp3 hp3' hh2 hxl hl2 HI
            repeat' first | refine st ?_ | (refine ca ?_; first | apply hpu) | (refine br ?_ ?_; all_goals (intro hb; try simp only [Bool.not_eq_true', Bool.not_eq_false'] at hb)) | fail
            intro t x'
            repeat' first | refine st ?_ | (refine br ?_ ?_; all_goals (intro hb; try simp only [Bool.not_eq_true', Bool.not_eq_false'] at hb)) | fail
            (apply f_ret; iterate 7 (· simp only [go_sem, *, Tryz.results67]; try rfl))
            exact hbad
          · have hpu := fun S' => pUX w0 HSS.out HGG.out S' x hxl
            have m1 : ((x.length : Int) != 2) = true := by rw [bne_iff_ne]; omega
            clear hlt hr2 hacc hn hk hp3 hp3' hh2 hxl hl2 HI
            repeat' first | refine st ?_ | (refine ca ?_; first | apply hpu) | (refine br ?_ ?_; all_goals (intro hb; try simp only [Bool.not_eq_true', Bool.not_eq_false'] at hb)) | fail
            · intro v
              repeat' first | refine st ?_ | (refine br ?_ ?_; all_goals (intro hb; try simp only [Bool.not_eq_true', Bool.not_eq_false'] at hb)) | fail
              (apply f_ret; iterate 7 (· simp only [go_sem, *, Tryz.results67]; try rfl))
              exact hbad
            · intro v t x'
              repeat' first | refine st ?_ | (refine br ?_ ?_; all_goals (intro hb; try simp only [Bool.not_eq_true', Bool.not_eq_false'] at hb)) | fail
              (apply f_ret; iterate 7 (· simp only [go_sem, *, Tryz.results67]; try rfl))
              exact hbad
      · have hk3 : k = 3 := by omega
        subst hk3
        have hr0 : rest = [] := by rw [← hrest]; rfl
        subst hr0
        have hg := Good.out n (by rw [← hacc]; rfl)
        have h1 : decide ((3 : Int) < 3) = false := by decide
        have hc3 : ((3 : Nat) : Int) = 3 := rfl
        clear hlt hrest hacc hn hk hp3 hp3' HI
        repeat' first | refine st ?_ | (refine br ?_ ?_; all_goals (intro hb; try simp only [Bool.not_eq_true', Bool.not_eq_false'] at hb)) | fail
        (apply f_ret; iterate 7 (· simp only [go_sem, *, Tryz.results67]; try rfl))
        exact hg
end Go.Proofs.YtfnnjkbhmoomjaaGreatDoor
namespace Go.Proofs.YtfnnjkbhmoomjaaGreatDoor
open Go Go.Fen
set_option linter.unusedSimpArgs false
set_option linter.unusedVariables false
attribute [local irreducible] RunX WP ACall AnyP OpA ProtL afterCall afterOp
set_option maxRecDepth 8000
theorem ACall.libV {P : Program} {w0 : World} {S : List Blk} {f : FuncId} {args : List AV} {vs : List Value} {v : AV} {c : Value} {R : AOut → List Blk → Prop} (he : ∀ (a : Array Value) (w : World), (callFunc f a).run P w = .ok (.enter f a) w) (ha : args.map cvA = vs.map some)
    (hv : ∀ ι ψ, VR ι ψ v c) (h : ∀ w, RowKit.Below w0.heap.size w0 w → Calls P f vs.toArray w fun e w' => e = .returned c ∧ RowKit.Below w.heap.size w w') (hR : R (.ret v) S) : ACall P w0 f args S R := by
  unfold ACall
  refine ⟨he, fun ι ψ w cargs hRel hl hargs => ?_⟩
  have hlen : args.length = vs.length := by simpa using congrArg List.length ha
  have : cargs = vs.toArray := by
    apply Array.ext_getElem?
    intro j
    by_cases hj : j < args.length
    · have h1 : args[j]? = some args[j] := List.getElem?_eq_getElem hj
      have h2 : cargs[j]? = some cargs[j] := Array.getElem?_eq_getElem (by omega)
      have h3 : vs[j]? = some vs[j] := List.getElem?_eq_getElem (by omega)
      have h4 := hargs j _ _ h1 h2
      have h5 : (args.map cvA)[j]? = (vs.map some)[j]? := by rw [ha]
      simp only [List.getElem?_map, h1, h3, Option.map_some, Option.some.injEq] at h5
      rw [h2]
      simp only [List.getElem?_toArray, h3]
      rw [cvA_sound h4 h5]
    · rw [Array.getElem?_eq_none (by omega), List.getElem?_toArray, List.getElem?_eq_none (by omega)]
  subst this
  refine (h w hRel.below).mono ?_
  rintro e w' ⟨rfl, hb⟩
  have hb0 : RowKit.Below w0.heap.size w w' := hb.mono hRel.n0
  exact ⟨ι, ψ, .ret v, S, Ext.refl _ _, hRel.grow hb0 (fun k hk => hb.block k hk) (Psi.le_refl _) (fun _ _ _ e => .inl e) (fun _ _ _ e => .inl e), hv _ _, hR⟩
def digs : List UInt8 := [48, 49, 50, 51, 52, 53, 54, 55, 56, 57]
theorem dig_iff (b : UInt8) : digs.contains b = dgO b := by
  have : ∀ n, n < 256 → digs.contains (UInt8.ofNat n) = dgO (UInt8.ofNat n) := by decide +kernel
  have h := this b.toNat b.toNat_lt
  rwa [UInt8.ofNat_toNat] at h
theorem drop_nil {α : Type _} (p : α → Bool) (l : List α) : l.dropWhile p = [] ↔ l.all p = true := by
  induction l with
  | nil => simp
  | cons b l ih =>
    rw [List.dropWhile_cons, List.all_cons]
    cases hb : p b with
    | true => simp [ih]
    | false => simp
theorem trim_nil (w : List UInt8) : Lib.trimS w digs = [] ↔ w.all dgO = true := by
  have e : (fun b => digs.contains b) = dgO := by funext b; exact dig_iff b
  unfold Lib.trimS Lib.trimLeftS Lib.trimRightS
  rw [drop_nil, e, List.all_reverse]
  constructor
  · intro h
    have h2 : (w.reverse.dropWhile dgO) = [] := by
      cases hd : w.reverse.dropWhile dgO with
      | nil => rfl
      | cons b r =>
        rw [hd, List.all_cons, Bool.and_eq_true] at h
        have := List.head_dropWhile_not dgO (l := w.reverse) (by rw [hd]; simp)
        simp only [hd, List.head_cons] at this
        rw [h.1] at this; cases this
    rw [drop_nil, List.all_reverse] at h2
    exact h2
  · intro h
    have : w.reverse.dropWhile dgO = [] := by rw [drop_nil, List.all_reverse]; exact h
    rw [this]; rfl
theorem cTrim (w0 : World) (S : List Blk) (s : List UInt8) (hs : s.length ≤ 10000000) (R : AOut → List Blk → Prop) (h : R (.ret (.str (Lib.trimS s digs))) S) : ACall Tryz.prog w0 65 [.str s, .str [48, 49, 50, 51, 52, 53, 54, 55, 56, 57]] S R := by
  refine ACall.lib (vs := [.string ⟨s.toArray⟩, .string ⟨#[48, 49, 50, 51, 52, 53, 54, 55, 56, 57]⟩]) (v := .str (Lib.trimS s digs)) (c := .string ⟨(Lib.trimS s digs).toArray⟩) (Go.Proofs.enters_of Tryz.func65 (by kernel_rfl) rfl) rfl rfl ?_ h
  intro w hb
  refine (Go.Proofs.Any.strings_Trim_laid Go.Proofs.Tryz.lays160 (by kernel_rfl) ⟨s.toArray⟩ ⟨#[48, 49, 50, 51, 52, 53, 54, 55, 56, 57]⟩ w ?_ (by decide) ?_).mono ?_
  · rw [show (⟨s.toArray⟩ : ByteArray).size = s.length from rfl]; omega
  · intro j b hj
    have := List.mem_of_getElem? hj
    simp at this
    rcases this with rfl | rfl | rfl | rfl | rfl | rfl | rfl | rfl | rfl | rfl <;> decide
  · rintro e w' ⟨rfl, hb⟩
    exact ⟨rfl, hb⟩
theorem atoi (w0 : World) (S : List Blk) (s : List UInt8) (n : Int) (hl : s.length ≤ 18) (hn : Lib.atoi s = some n) (R : AOut → List Blk → Prop) (h : R (.ret (.tup [.int .i64 n, .inil])) S) : ACall Tryz.prog w0 66 [.str s] S R := by
  refine ACall.libV (vs := [.string ⟨s.toArray⟩]) (v := .tup [.int .i64 n, .inil]) (c := .tuple #[.int .i64 n, .nilIface]) (Go.Proofs.enters_of Tryz.func66 (by kernel_rfl) rfl) rfl ?_ ?_ h
  · intro ι ψ
    refine .tup _ _ rfl ?_
    rintro (_ | _ | j) x v h1 h2
    · cases h1; cases h2; exact .int _ _
    · cases h1; cases h2; exact .inil
    · simp at h1
  · intro w hb
    refine (Go.Proofs.Any.strconv_Atoi Go.Proofs.Tryz.lays172 ⟨s.toArray⟩ n hl hn w).mono ?_
    rintro e w' ⟨rfl, t, rfl⟩
    exact ⟨rfl, Lib.bytesWorld_below w _ t⟩
theorem decO : ∀ (l : List UInt8) (acc : Nat), l.all dgO = true → Lib.decFrom acc l = some (l.foldl (fun n b => n * 10 + (b.toNat - 48)) acc)
  | [], acc, _ => rfl
  | b :: l, acc, h => by
    rw [List.all_cons, Bool.and_eq_true] at h
    have hb := h.1
    simp only [dgO, Bool.and_eq_true, decide_eq_true_eq] at hb
    have h1 := decO l (acc * 10 + (b.toNat - 48)) h.2
    simp [Lib.decFrom, Lib.digitVal, hb, h1]
theorem atoiO {w : List UInt8} (h1 : w ≠ []) (h3 : w.all dgO = true) : Lib.atoi w = some (valO w : Nat) := by
  cases w with
  | nil => exact absurd rfl h1
  | cons b r =>
    have e1 := decO (b :: r) 0 h3
    have hb := h3
    rw [List.all_cons, Bool.and_eq_true] at hb
    have hb := hb.1
    simp only [dgO, Bool.and_eq_true, decide_eq_true_eq] at hb
    have n1 : (b == 45) = false := by rw [beq_eq_false_iff_ne]; rintro rfl; exact absurd hb.1 (by decide)
    have n2 : (b == 43) = false := by rw [beq_eq_false_iff_ne]; rintro rfl; exact absurd hb.1 (by decide)
    rw [Lib.atoi, n1, n2]
    simp only [Bool.false_eq_true, if_false, Lib.decNat, List.isEmpty_cons, e1, Option.map_some]
    rfl
end Go.Proofs.YtfnnjkbhmoomjaaGreatDoor
namespace Go.Proofs.YtfnnjkbhmoomjaaGreatDoor
open Go Go.Fen
set_option linter.unusedSimpArgs false
set_option linter.unusedVariables false
attribute [local irreducible] RunX WP ACall AnyP OpA ProtL afterCall afterOp
set_option maxRecDepth 8000
def rdOut : Option Ac → AOut
  | some a => .ret a.av
  | none => .panic noneV
def rd2 (s : List UInt8) : Option Ac := match cutO s with
  | none => none
  | some (h, t) => match numO h, colP t with
    | some n, some c => some ⟨45, n, 0, 2, c, []⟩
    | _, _ => none
def rd3 (s : List UInt8) : Option Ac := match cutO s with
  | none => none
  | some (w, t) => if w = [99] then (match decP t with
    | some c => if c.length ≤ 378 then some ⟨46, 0, 0, 0, 0, c⟩ else none
    | none => none) else none
set_option maxHeartbeats 8000000 in
theorem oRead2 (w0 : World) (hS : Syn w0) (hG : Rng w0) (S : List Blk) (s : List UInt8) (hs : s.length ≤ 10000) (R : AOut → List Blk → Prop) (h : R (rdOut (rd2 s)) S) : ACall Tryz.prog w0 64 [.str s] S R := by
  have ht := fun S' => oTwo w0 S' s (by omega)
  have hmT := oMustT w0
  have hmF := oMustF w0
  unfold rd2 at h
  cases hq : cutO s with
  | none =>
    rw [hq] at h ht
    unfold rdOut at h
    unfold twoV at ht
    unfold noneV at h ht
    clear hq hs hmT hmF hS hG
    refine enter Tryz.func64 rfl (by decide +kernel) (by rw [Tryz.ntmps64]; simp) (by rw [Tryz.ntmps64]; decide) (fun hO => ?_); rw [Tryz.ntmps64]
    repeat' first | refine st ?_ | (refine ca ?_; first | apply ht) | (refine br ?_ ?_; all_goals (intro hb; try simp only [Bool.not_eq_true', Bool.not_eq_false'] at hb)) | fail
    (apply f_panic; iterate 6 (· simp only [go_sem, *]; try rfl))
    exact h
  | some q =>
  obtain ⟨a, t⟩ := q
  obtain ⟨hal, htl⟩ := cut_len hq
  rw [hq] at h ht
  unfold twoV at ht
  simp only at h ht
  have htr := fun S' => cTrim w0 S' a (by omega)
  have bad : (match numO a, colP t with | some n, some c => some (⟨45, n, 0, 2, c, []⟩ : Ac) | _, _ => none) = none → R (.panic noneV) S := fun e => by rw [e] at h; exact h
  unfold noneV at bad hmF
  by_cases h1 : a = []
  · subst h1
    have hb := bad rfl
    clear bad h hq hs hmT hal htl hS hG
    refine enter Tryz.func64 rfl (by decide +kernel) (by rw [Tryz.ntmps64]; simp) (by rw [Tryz.ntmps64]; decide) (fun hO => ?_); rw [Tryz.ntmps64]
    repeat' first | refine st ?_ | (refine ca ?_; first | apply ht | apply hmF) | (refine br ?_ ?_; all_goals (intro hb; try simp only [Bool.not_eq_true', Bool.not_eq_false'] at hb)) | fail
    (apply f_panic; iterate 6 (· simp only [go_sem, *]; try rfl))
    exact hb
  have d1 : (a == []) = false := by simpa using h1
  by_cases h2 : a.length ≤ 3
  case neg =>
    have hb := bad (by unfold numO; rw [if_pos (.inr (.inl (by omega)))])
    have d2 : decide ((a.length : Int) ≤ 3) = false := by simp; omega
    clear bad h hq hs hmT hal htl h1 h2 hS hG
    refine enter Tryz.func64 rfl (by decide +kernel) (by rw [Tryz.ntmps64]; simp) (by rw [Tryz.ntmps64]; decide) (fun hO => ?_); rw [Tryz.ntmps64]
    repeat' first | refine st ?_ | (refine ca ?_; first | apply ht | apply hmF) | (refine br ?_ ?_; all_goals (intro hb; try simp only [Bool.not_eq_true', Bool.not_eq_false'] at hb)) | fail
    (apply f_panic; iterate 6 (· simp only [go_sem, *]; try rfl))
    exact hb
  have d2 : decide ((a.length : Int) ≤ 3) = true := by simp; omega
  have htn := trim_nil a
  cases h3 : a.all dgO with
  | false =>
    have hb := bad (by unfold numO; rw [if_pos (.inr (.inr (.inl h3)))])
    have d3 : (Lib.trimS a digs == []) = false := by rw [beq_eq_false_iff_ne]; intro e; rw [htn.1 e] at h3; cases h3
    generalize Lib.trimS a digs = u at htr d3
    clear bad h hq hs hmT hal htl h1 h2 h3 htn hS hG
    refine enter Tryz.func64 rfl (by decide +kernel) (by rw [Tryz.ntmps64]; simp) (by rw [Tryz.ntmps64]; decide) (fun hO => ?_); rw [Tryz.ntmps64]
    repeat' first | refine st ?_ | (refine ca ?_; first | apply ht | apply htr | apply hmF) | (refine br ?_ ?_; all_goals (intro hb; try simp only [Bool.not_eq_true', Bool.not_eq_false'] at hb)) | fail
    (apply f_panic; iterate 6 (· simp only [go_sem, *]; try rfl))
    exact hb
  | true =>
    have d3 : (Lib.trimS a digs == []) = true := by rw [beq_iff_eq]; exact htn.2 h3
    have hat := fun S' => atoi w0 S' a (valO a : Nat) (by omega) (atoiO h1 h3)
    have hco := fun S' => oColParse w0 hS hG S' t (by omega)
    have hno : numO a = if 255 < valO a then none else some (valO a) := by
      unfold numO
      by_cases hv : 255 < valO a
      · rw [if_pos (.inr (.inr (.inr hv))), if_pos hv]
      · rw [if_neg (by rintro (e | e | e | e); exact h1 e; omega; rw [h3] at e; cases e; exact hv e), if_neg hv]
    generalize Lib.trimS a digs = u at htr d3
    by_cases hv : 255 < valO a
    · rw [if_pos hv] at hno
      have hb := bad (by rw [hno])
      have d4 : decide ((valO a : Int) ≤ 255) = false := by simp; omega
      generalize (valO a : Int) = v at hat d4
      clear bad h hq hs hal htl h1 h2 h3 htn hS hG hno hv
      cases hc : colP t with
      | none =>
        rw [hc] at hco
        unfold cpV at hco
        simp only at hco
        clear hc
        refine enter Tryz.func64 rfl (by decide +kernel) (by rw [Tryz.ntmps64]; simp) (by rw [Tryz.ntmps64]; decide) (fun hO => ?_); rw [Tryz.ntmps64]
        repeat' first | refine st ?_ | (refine ca ?_; first | apply ht | apply htr | apply hat | apply hco | apply hmT | apply hmF) | (refine br ?_ ?_; all_goals (intro hb; try simp only [Bool.not_eq_true', Bool.not_eq_false'] at hb)) | fail
        (apply f_panic; iterate 6 (· simp only [go_sem, *]; try rfl))
        exact hb
      | some c =>
        rw [hc] at hco
        unfold cpV at hco
        simp only at hco
        clear hc
        refine enter Tryz.func64 rfl (by decide +kernel) (by rw [Tryz.ntmps64]; simp) (by rw [Tryz.ntmps64]; decide) (fun hO => ?_); rw [Tryz.ntmps64]
        repeat' first | refine st ?_ | (refine ca ?_; first | apply ht | apply htr | apply hat | apply hco | apply hmT | apply hmF) | (refine br ?_ ?_; all_goals (intro hb; try simp only [Bool.not_eq_true', Bool.not_eq_false'] at hb)) | fail
        (apply f_panic; iterate 6 (· simp only [go_sem, *]; try rfl))
        exact hb
    · rw [if_neg hv] at hno
      have d4 : decide ((valO a : Int) ≤ 255) = true := by simp; omega
      rw [hno] at h bad
      generalize valO a = v at hat d4 h bad
      clear hq hs hal htl h1 h2 h3 htn hS hG hno hv
      cases hc : colP t with
      | none =>
        rw [hc] at hco
        have hb := bad (by rw [hc])
        unfold cpV at hco
        simp only at hco
        clear hc bad h
        refine enter Tryz.func64 rfl (by decide +kernel) (by rw [Tryz.ntmps64]; simp) (by rw [Tryz.ntmps64]; decide) (fun hO => ?_); rw [Tryz.ntmps64]
        repeat' first | refine st ?_ | (refine ca ?_; first | apply ht | apply htr | apply hat | apply hco | apply hmT | apply hmF) | (refine br ?_ ?_; all_goals (intro hb; try simp only [Bool.not_eq_true', Bool.not_eq_false'] at hb)) | fail
        (apply f_panic; iterate 6 (· simp only [go_sem, *]; try rfl))
        exact hb
      | some c =>
        rw [hc] at hco h
        unfold cpV at hco
        simp only at hco
        have h : R (.ret (.agg [.int .i64 45, .int .i64 (v : Int), .int .i64 0, .int .i64 2, .int .i64 (c : Int), .str []])) S := h
        clear hc bad
        refine enter Tryz.func64 rfl (by decide +kernel) (by rw [Tryz.ntmps64]; simp) (by rw [Tryz.ntmps64]; decide) (fun hO => ?_); rw [Tryz.ntmps64]
        repeat' first | refine st ?_ | (refine ca ?_; first | apply ht | apply htr | apply hat | apply hco | apply hmT) | (refine br ?_ ?_; all_goals (intro hb; try simp only [Bool.not_eq_true', Bool.not_eq_false'] at hb)) | fail
        (apply f_ret; iterate 7 (· simp only [go_sem, *, Tryz.results64]; try rfl))
        exact h
end Go.Proofs.YtfnnjkbhmoomjaaGreatDoor
namespace Go.Proofs.YtfnnjkbhmoomjaaGreatDoor
open Go Go.Fen
set_option linter.unusedSimpArgs false
set_option linter.unusedVariables false
attribute [local irreducible] RunX WP ACall AnyP OpA ProtL afterCall afterOp
set_option maxRecDepth 8000
set_option maxHeartbeats 8000000 in
theorem oRead3 (w0 : World) (S : List Blk) (s : List UInt8) (hs : s.length ≤ 8192) (R : AOut → List Blk → Prop) (h : R (rdOut (rd3 s)) S) : ACall Tryz.prog w0 68 [.str s] S R := by
  have ht := fun S' => oTwo w0 S' s (by omega)
  have hmT := oMustT w0
  have hmF := oMustF w0
  unfold rd3 at h
  cases hq : cutO s with
  | none =>
    rw [hq] at h ht
    unfold rdOut at h
    unfold twoV at ht
    unfold noneV at h ht
    clear hq hs hmT hmF
    refine enter Tryz.func68 rfl (by decide +kernel) (by rw [Tryz.ntmps68]; simp) (by rw [Tryz.ntmps68]; decide) (fun hO => ?_); rw [Tryz.ntmps68]
    repeat' first | refine st ?_ | (refine ca ?_; first | apply ht) | (refine br ?_ ?_; all_goals (intro hb; try simp only [Bool.not_eq_true', Bool.not_eq_false'] at hb)) | fail
    (apply f_panic; iterate 6 (· simp only [go_sem, *]; try rfl))
    exact h
  | some q =>
  obtain ⟨a, t⟩ := q
  obtain ⟨hal, htl⟩ := cut_len hq
  rw [hq] at h ht
  unfold twoV at ht
  simp only at h ht
  have hde := fun S' => oDecode w0 S' t (by omega)
  unfold decW at hde
  unfold noneV at hmF
  by_cases h1 : a = [99]
  · subst h1
    rw [if_pos rfl] at h
    cases hd : decP t with
    | none =>
      rw [hd] at h hde
      unfold rdOut noneV at h
      simp only at h hde
      clear hd hq hs hal htl hmT
      refine enter Tryz.func68 rfl (by decide +kernel) (by rw [Tryz.ntmps68]; simp) (by rw [Tryz.ntmps68]; decide) (fun hO => ?_); rw [Tryz.ntmps68]
      repeat' first | refine st ?_ | (refine ca ?_; first | apply ht | apply hde | apply hmF) | (refine br ?_ ?_; all_goals (intro hb; try simp only [Bool.not_eq_true', Bool.not_eq_false'] at hb)) | fail
      (apply f_panic; iterate 6 (· simp only [go_sem, *]; try rfl))
      exact h
    | some c =>
      rw [hd] at h hde
      simp only at h hde
      by_cases hc : c.length ≤ 378
      · rw [if_pos hc] at h
        have d1 : decide ((c.length : Int) ≤ 378) = true := by simp; omega
        have h : R (.ret (.agg [.int .i64 46, .int .i64 0, .int .i64 0, .int .i64 0, .int .i64 0, .str c])) S := h
        clear hd hq hs hal htl hmF hc
        refine enter Tryz.func68 rfl (by decide +kernel) (by rw [Tryz.ntmps68]; simp) (by rw [Tryz.ntmps68]; decide) (fun hO => ?_); rw [Tryz.ntmps68]
        repeat' first | refine st ?_ | (refine ca ?_; first | apply ht | apply hde | apply hmT) | (refine br ?_ ?_; all_goals (intro hb; try simp only [Bool.not_eq_true', Bool.not_eq_false'] at hb)) | fail
        (apply f_ret; iterate 7 (· simp only [go_sem, *, Tryz.results68]; try rfl))
        exact h
      · rw [if_neg hc] at h
        have d1 : decide ((c.length : Int) ≤ 378) = false := by simp; omega
        unfold rdOut noneV at h
        simp only at h
        clear hd hq hs hal htl hmT hc
        refine enter Tryz.func68 rfl (by decide +kernel) (by rw [Tryz.ntmps68]; simp) (by rw [Tryz.ntmps68]; decide) (fun hO => ?_); rw [Tryz.ntmps68]
        repeat' first | refine st ?_ | (refine ca ?_; first | apply ht | apply hde | apply hmF) | (refine br ?_ ?_; all_goals (intro hb; try simp only [Bool.not_eq_true', Bool.not_eq_false'] at hb)) | fail
        (apply f_panic; iterate 6 (· simp only [go_sem, *]; try rfl))
        exact h
  · rw [if_neg h1] at h
    have d1 : (a == [99]) = false := by simpa using h1
    unfold rdOut noneV at h
    simp only at h
    cases hd : decP t with
    | none =>
      rw [hd] at hde
      simp only at hde
      clear hd hq hs hal htl hmT h1
      refine enter Tryz.func68 rfl (by decide +kernel) (by rw [Tryz.ntmps68]; simp) (by rw [Tryz.ntmps68]; decide) (fun hO => ?_); rw [Tryz.ntmps68]
      repeat' first | refine st ?_ | (refine ca ?_; first | apply ht | apply hde | apply hmF) | (refine br ?_ ?_; all_goals (intro hb; try simp only [Bool.not_eq_true', Bool.not_eq_false'] at hb)) | fail
      (apply f_panic; iterate 6 (· simp only [go_sem, *]; try rfl))
      exact h
    | some c =>
      rw [hd] at hde
      simp only at hde
      clear hd hq hs hal htl hmT h1
      refine enter Tryz.func68 rfl (by decide +kernel) (by rw [Tryz.ntmps68]; simp) (by rw [Tryz.ntmps68]; decide) (fun hO => ?_); rw [Tryz.ntmps68]
      repeat' first | refine st ?_ | (refine ca ?_; first | apply ht | apply hde | apply hmF) | (refine br ?_ ?_; all_goals (intro hb; try simp only [Bool.not_eq_true', Bool.not_eq_false'] at hb)) | fail
      (apply f_panic; iterate 6 (· simp only [go_sem, *]; try rfl))
      exact h
set_option maxHeartbeats 8000000 in
theorem oPrint3 (w0 : World) (S : List Blk) (a : Ac) (hs : a.text.length ≤ 10000000) (hk : a.kind = 46) (R : AOut → List Blk → Prop) (h : R (if a = ⟨46, 0, 0, 0, 0, a.text⟩ ∧ a.text.length ≤ 378 then .ret (.str (53 :: 50 :: 59 :: 99 :: 59 :: encF a.text)) else .panic noneV) S) : ACall Tryz.prog w0 54 [a.av] S R := by
  have hpT := fun S' => oPlainT w0 S' a ⟨a.kind, 0, 0, 0, 0, a.text⟩
  have hpF := fun S' => oPlainF w0 S' a ⟨a.kind, 0, 0, 0, 0, a.text⟩
  have hmT := oMustT w0
  have hmF := oMustF w0
  obtain ⟨k, n, m, ck, cn, t⟩ := a
  simp only at hk hs hpT hpF h
  subst hk
  unfold Ac.av at hpT hpF ⊢
  simp only at hpT hpF ⊢
  unfold noneV at hmF
  by_cases he : (⟨46, n, m, ck, cn, t⟩ : Ac) = ⟨46, 0, 0, 0, 0, t⟩
  · have hp := fun S' => hpT S' he
    by_cases hl : t.length ≤ 378
    · rw [if_pos ⟨he, hl⟩] at h
      have d1 : decide ((t.length : Int) ≤ 378) = true := by simp; omega
      have hen := fun S' => oEncode w0 S' t (by omega)
      have hfl : (encF t).length ≤ 1000 := by
        have h1 := encB_len t
        unfold encF padN
        rw [List.length_append, List.length_replicate]
        omega
      have hl5 : 5 + (encF t).length ≤ 9223372036854775807 := by omega
      generalize encF t = E at *
      clear hpT hpF he hl hs hmF hfl
      refine enter Tryz.func54 rfl (by decide +kernel) (by rw [Tryz.ntmps54]; simp) (by rw [Tryz.ntmps54]; decide) (fun hO => ?_); rw [Tryz.ntmps54]
      repeat' first | refine st ?_ | (refine ca ?_; first | apply hp | apply hen | apply hmT) | (refine br ?_ ?_; all_goals (intro hb; try simp only [Bool.not_eq_true', Bool.not_eq_false'] at hb)) | fail
      (apply f_ret; iterate 7 (· simp only [go_sem, *, Tryz.results54]; try rfl))
      exact h
    · rw [if_neg (fun e => hl e.2)] at h
      have d1 : decide ((t.length : Int) ≤ 378) = false := by simp; omega
      unfold noneV at h
      clear hpT hpF he hl hs hmT
      refine enter Tryz.func54 rfl (by decide +kernel) (by rw [Tryz.ntmps54]; simp) (by rw [Tryz.ntmps54]; decide) (fun hO => ?_); rw [Tryz.ntmps54]
      repeat' first | refine st ?_ | (refine ca ?_; first | apply hp | apply hmF) | (refine br ?_ ?_; all_goals (intro hb; try simp only [Bool.not_eq_true', Bool.not_eq_false'] at hb)) | fail
      (apply f_panic; iterate 6 (· simp only [go_sem, *]; try rfl))
      exact h
  · have hp := fun S' => hpF S' he
    rw [if_neg (fun e => he e.1)] at h
    unfold noneV at h hp
    clear hpT hpF he hs hmT hmF
    refine enter Tryz.func54 rfl (by decide +kernel) (by rw [Tryz.ntmps54]; simp) (by rw [Tryz.ntmps54]; decide) (fun hO => ?_); rw [Tryz.ntmps54]
    repeat' first | refine st ?_ | (refine ca ?_; first | apply hp) | (refine br ?_ ?_; all_goals (intro hb; try simp only [Bool.not_eq_true', Bool.not_eq_false'] at hb)) | fail
    (apply f_panic; iterate 6 (· simp only [go_sem, *]; try rfl))
    exact h
end Go.Proofs.YtfnnjkbhmoomjaaGreatDoor
namespace Go.Proofs.YtfnnjkbhmoomjaaGreatDoor
open Go Go.Fen
set_option linter.unusedSimpArgs false
set_option linter.unusedVariables false
attribute [local irreducible] RunX WP ACall AnyP OpA ProtL afterCall afterOp
set_option maxRecDepth 8000
set_option maxHeartbeats 8000000 in
theorem oPrint2 (w0 : World) (hT : Tab w0) (hD : DeB w0) (hN : Nam w0) (S : List Blk) (a : Ac) (hk : a.kind = 45) (R : AOut → List Blk → Prop)
    (h : R (if a = ⟨45, a.n, 0, 2, a.cn, []⟩ ∧ (0 ≤ a.n ∧ a.n ≤ 255) ∧ (0 ≤ a.cn ∧ a.cn ≤ 16777215) then .ret (.str (52 :: 59 :: (Lib.itoa a.n ++ 59 :: rgbT a.cn.toNat))) else .panic noneV) S) : ACall Tryz.prog w0 51 [a.av] S R := by
  have hpT := fun S' => oPlainT w0 S' a ⟨a.kind, a.n, 0, a.ck, a.cn, []⟩
  have hpF := fun S' => oPlainF w0 S' a ⟨a.kind, a.n, 0, a.ck, a.cn, []⟩
  have hmT := oMustT w0
  have hmF := oMustF w0
  obtain ⟨k, n, m, ck, cn, t⟩ := a
  simp only at hk hpT hpF h
  subst hk
  unfold Ac.av at hpT hpF ⊢
  simp only at hpT hpF ⊢
  unfold noneV at hmF
  by_cases he : (⟨45, n, m, ck, cn, t⟩ : Ac) = ⟨45, n, 0, ck, cn, []⟩
  case neg =>
    have hp := fun S' => hpF S' he
    rw [if_neg (fun e => he (by have h2 := e.1; simp only [Ac.mk.injEq] at h2 ⊢; exact ⟨trivial, trivial, h2.2.2.1, trivial, trivial, h2.2.2.2.2.2⟩))] at h
    unfold noneV at h hp
    clear hpT hpF he hmT hmF hT hD hN
    refine enter Tryz.func51 rfl (by decide +kernel) (by rw [Tryz.ntmps51]; simp) (by rw [Tryz.ntmps51]; decide) (fun hO => ?_); rw [Tryz.ntmps51]
    repeat' first | refine st ?_ | (refine ca ?_; first | apply hp) | (refine br ?_ ?_; all_goals (intro hb; try simp only [Bool.not_eq_true', Bool.not_eq_false'] at hb)) | fail
    (apply f_panic; iterate 6 (· simp only [go_sem, *]; try rfl))
    exact h
  case pos =>
  have hp := fun S' => hpT S' he
  have hm0 : m = 0 ∧ t = [] := by simp only [Ac.mk.injEq] at he; exact ⟨he.2.2.1, he.2.2.2.2.2⟩
  obtain ⟨rfl, rfl⟩ := hm0
  clear hpT hpF he
  by_cases hc : ck = 2 ∧ colB 2 cn = true
  · obtain ⟨rfl, hcb⟩ := hc
    have hb : 0 ≤ cn ∧ cn ≤ 16777215 := by simpa [colB, limO] using hcb
    obtain ⟨v, rfl⟩ : ∃ v : Nat, cn = v := ⟨cn.toNat, by omega⟩
    have htx := fun S' => oText w0 hD S' 2 v v (by omega) hcb (fun S' R h => oRgb w0 S' v hcb R h)
    by_cases hn : 0 ≤ n ∧ n ≤ 255
    · rw [if_pos ⟨rfl, hn, hb⟩] at h
      obtain ⟨u, rfl⟩ : ∃ u : Nat, n = u := ⟨n.toNat, by omega⟩
      have hit := fun S' => itoa w0 hT S' (u : Int) (by omega) (by omega)
      have hil := (itoa_num u (by omega)).2.1
      have d1 : decide ((0 : Int) ≤ (u : Int)) = true := by simp
      have d2 : decide ((u : Int) ≤ 255) = true := by simp; omega
      have hrl : (rgbT v).length = 12 := rfl
      rw [Int.toNat_natCast] at h
      generalize Lib.itoa (u : Int) = I at *
      generalize rgbT v = T at *
      have q1 : 2 + I.length ≤ 9223372036854775807 := by omega
      have q2 : I.length + 1 + 1 + 1 ≤ 9223372036854775807 := by omega
      have q3 : I.length + 3 ≤ 9223372036854775807 := by omega
      have q4 : I.length + 1 + 1 + 1 + T.length ≤ 9223372036854775807 := by omega
      have q5 : I.length + 3 + T.length ≤ 9223372036854775807 := by omega
      clear hcb hb hn hil hrl hmF hT hD hN
      refine enter Tryz.func51 rfl (by decide +kernel) (by rw [Tryz.ntmps51]; simp) (by rw [Tryz.ntmps51]; decide) (fun hO => ?_); rw [Tryz.ntmps51]
      repeat' first | apply x_seq | apply x_skip | apply x_block | apply x_exit | apply x_ret | apply x_ops_nil | apply p_blk | apply p_exit_it | apply p_exit_hit | apply p_ret_it | apply p_ret_blk | apply p_panic_it | apply p_panic_blk | apply p_end | (apply p_exit_miss; (· rfl)) | (apply x_region; simp only [List.toList_toArray]) | (apply x_step0; (· rfl); (· simp only [go_sem, *, List.length_append, List.append_assoc]; try rfl); (· rfl); simp only [putA]) | (apply ac_ret; simp only [putA]) | apply ac_panic | (apply x_callA []; (· simp only [go_sem, *, List.length_append, List.append_assoc]; try rfl); (· rfl); (· simp only [go_sem, *, List.length_append, List.append_assoc]; try rfl); (· rfl); (iterate 2 (· simp only [go_sem, *, List.length_append, List.append_assoc]; try rfl)); (first | apply hp | apply htx | apply hit | apply hmT); simp only [afterCall, putA]) | (apply x_panic; (· simp only [go_sem, *, List.length_append, List.append_assoc]; try rfl); (· rfl); (· simp only [go_sem, *, List.length_append, List.append_assoc]; try rfl)) | (apply x_step; (iterate 2 (· simp only [go_sem, *, List.length_append, List.append_assoc]; try rfl)); (· rfl); simp only [putA]) | (apply x_unwanted; (· simp only [go_sem, *, List.length_append, List.append_assoc]; try rfl); (· rfl); simp only [putA]) | (apply x_condT; (· simp only [go_sem, *, List.length_append, List.append_assoc]; try rfl)) | (apply x_condF; (· simp only [go_sem, *, List.length_append, List.append_assoc]; try rfl)) | (apply x_guardS; (· rfl); (fail_if_success (focus (show _ = some true; (· simp only [go_sem, *, List.length_append, List.append_assoc]; try rfl)))); (· simp only [go_sem, *, List.length_append, List.append_assoc]; try rfl); all_goals (intro hb; try simp only [Bool.not_eq_true', Bool.not_eq_false'] at hb)) | (apply x_condS; (· simp only [go_sem, *, List.length_append, List.append_assoc]; try rfl); all_goals (intro hb; try simp only [Bool.not_eq_true', Bool.not_eq_false'] at hb)) | fail
      (apply f_ret; iterate 7 (· simp only [go_sem, *, Tryz.results51]; try rfl))
      exact h
    · rw [if_neg (fun e => hn e.2.1)] at h
      unfold noneV at h
      by_cases hn0 : 0 ≤ n
      · have d1 : decide ((0 : Int) ≤ n) = true := by simpa using hn0
        have d2 : decide (n ≤ 255) = false := by simp; omega
        clear hcb hb hn hn0 hmT hT hD hN
        refine enter Tryz.func51 rfl (by decide +kernel) (by rw [Tryz.ntmps51]; simp) (by rw [Tryz.ntmps51]; decide) (fun hO => ?_); rw [Tryz.ntmps51]
        repeat' first | refine st ?_ | (refine ca ?_; first | apply hp | apply htx | apply hmF | apply hmT) | (refine br ?_ ?_; all_goals (intro hb; try simp only [Bool.not_eq_true', Bool.not_eq_false'] at hb)) | fail
        (apply f_panic; iterate 6 (· simp only [go_sem, *]; try rfl))
        exact h
      · have d1 : decide ((0 : Int) ≤ n) = false := by simpa using hn0
        clear hcb hb hn hn0 hmT hT hD hN
        refine enter Tryz.func51 rfl (by decide +kernel) (by rw [Tryz.ntmps51]; simp) (by rw [Tryz.ntmps51]; decide) (fun hO => ?_); rw [Tryz.ntmps51]
        repeat' first | refine st ?_ | (refine ca ?_; first | apply hp | apply htx | apply hmF | apply hmT) | (refine br ?_ ?_; all_goals (intro hb; try simp only [Bool.not_eq_true', Bool.not_eq_false'] at hb)) | fail
        (apply f_panic; iterate 6 (· simp only [go_sem, *]; try rfl))
        exact h
  · have htx := fun S' R (h : ∀ x e, (((e : Int) == 0) && ((ck : Int) == 2)) = false → R (.ret (.tup [.str x, .int .i64 e])) S') => oTextX w0 hD hN S' ck cn R (fun e1 e2 => absurd ⟨e1, e2⟩ hc) (fun x e _ e2 => h x e e2)
    rw [if_neg (fun e => hc (by
      have h2 := e.1
      simp only [Ac.mk.injEq] at h2
      refine ⟨h2.2.2.2.1, ?_⟩
      have := e.2.2
      simp [colB, limO]
      exact this))] at h
    unfold noneV at h
    clear hc hT hD hN
    refine enter Tryz.func51 rfl (by decide +kernel) (by rw [Tryz.ntmps51]; simp) (by rw [Tryz.ntmps51]; decide) (fun hO => ?_); rw [Tryz.ntmps51]
    repeat' first | refine st ?_ | (refine ca ?_; first | apply hp | apply htx) | (refine br ?_ ?_; all_goals (intro hb; try simp only [Bool.not_eq_true', Bool.not_eq_false'] at hb)) | fail
    intro x e hxe
    cases h1 : ((e : Int) == 0) with
    | false =>
      clear hxe
      repeat' first | refine st ?_ | (refine ca ?_; first | apply hmF) | (refine br ?_ ?_; all_goals (intro hb; try simp only [Bool.not_eq_true', Bool.not_eq_false'] at hb)) | fail
      (apply f_panic; iterate 6 (· simp only [go_sem, *]; try rfl))
      exact h
    | true =>
      have h2 : ((ck : Int) == 2) = false := by rw [h1] at hxe; simpa using hxe
      clear hxe
      repeat' first | refine st ?_ | (refine ca ?_; first | apply hmF) | (refine br ?_ ?_; all_goals (intro hb; try simp only [Bool.not_eq_true', Bool.not_eq_false'] at hb)) | fail
      (apply f_panic; iterate 6 (· simp only [go_sem, *]; try rfl))
      exact h
end Go.Proofs.YtfnnjkbhmoomjaaGreatDoor
namespace Go.Proofs.YtfnnjkbhmoomjaaGreatDoor
open Go Go.Fen
set_option linter.unusedSimpArgs false
set_option linter.unusedVariables false
attribute [local irreducible] RunX WP ACall AnyP OpA ProtL afterCall afterOp
set_option maxRecDepth 8000
def prOut : Option (List UInt8) → AOut
  | some s => .ret (.str s)
  | none => .panic noneV
def prM : List (AV × AV) := [(.int .i64 44, .fn (.func 48) [] []), (.int .i64 45, .fn (.func 51) [] []), (.int .i64 46, .fn (.func 54) [] [])]
def rdM : List (AV × AV) := [(.str [48], .fn (.func 63) [] []), (.str [50], .fn (.func 63) [] []), (.str [52], .fn (.func 64) [] []), (.str [53, 50], .fn (.func 68) [] [])]
set_option maxHeartbeats 4000000 in
theorem oPrints (w0 : World) (S : List Blk) (R : AOut → List Blk → Prop) (h : R (.ret (.mval prM)) S) : ACall Tryz.prog w0 25 [] S R := by
  unfold prM at h
  refine enter Tryz.func25 rfl (by decide +kernel) (by rw [Tryz.ntmps25]; simp) (by rw [Tryz.ntmps25]; decide) (fun hO => ?_); rw [Tryz.ntmps25]
  repeat' first | refine st ?_ | (refine br ?_ ?_; all_goals (intro hb; try simp only [Bool.not_eq_true', Bool.not_eq_false'] at hb)) | fail
  (apply f_ret; iterate 7 (· simp only [go_sem, *, Tryz.results25]; try rfl))
  exact h
set_option maxHeartbeats 4000000 in
theorem oReads (w0 : World) (S : List Blk) (R : AOut → List Blk → Prop) (h : R (.ret (.mval rdM)) S) : ACall Tryz.prog w0 34 [] S R := by
  unfold rdM at h
  refine enter Tryz.func34 rfl (by decide +kernel) (by rw [Tryz.ntmps34]; simp) (by rw [Tryz.ntmps34]; decide) (fun hO => ?_); rw [Tryz.ntmps34]
  repeat' first | refine st ?_ | (refine br ?_ ?_; all_goals (intro hb; try simp only [Bool.not_eq_true', Bool.not_eq_false'] at hb)) | fail
  (apply f_ret; iterate 7 (· simp only [go_sem, *, Tryz.results34]; try rfl))
  exact h
theorem pr44 {a : Ac} (h : a.kind = 44) : printO a = if a = ⟨44, 0, 0, 0, 0, a.text⟩ ∧ titleB a.text = true then some (50 :: 59 :: a.text) else none := by
  unfold printO
  split
  · rfl
  · rw [if_neg (fun e => by rw [e.1] at h; cases h), if_neg (fun e => by rw [e.1] at h; cases h)]
theorem pr45 {a : Ac} (h : a.kind = 45) : printO a = if a = ⟨45, a.n, 0, 2, a.cn, []⟩ ∧ (0 ≤ a.n ∧ a.n ≤ 255) ∧ (0 ≤ a.cn ∧ a.cn ≤ 16777215) then some (52 :: 59 :: (Lib.itoa a.n ++ 59 :: rgbT a.cn.toNat)) else none := by
  unfold printO
  rw [if_neg (fun e => by rw [e.1] at h; cases h)]
  split
  · rfl
  · rw [if_neg (fun e => by rw [e.1] at h; cases h)]
theorem pr46 {a : Ac} (h : a.kind = 46) : printO a = if a = ⟨46, 0, 0, 0, 0, a.text⟩ ∧ a.text.length ≤ 378 then some (53 :: 50 :: 59 :: 99 :: 59 :: encF a.text) else none := by
  unfold printO
  rw [if_neg (fun e => by rw [e.1] at h; cases h), if_neg (fun e => by rw [e.1] at h; cases h)]
theorem prNo {a : Ac} (h1 : a.kind ≠ 44) (h2 : a.kind ≠ 45) (h3 : a.kind ≠ 46) : printO a = none := by
  unfold printO
  rw [if_neg (fun e => h1 (by rw [e.1])), if_neg (fun e => h2 (by rw [e.1])), if_neg (fun e => h3 (by rw [e.1]))]
end Go.Proofs.YtfnnjkbhmoomjaaGreatDoor
namespace Go.Proofs.YtfnnjkbhmoomjaaGreatDoor
open Go Go.Fen
set_option linter.unusedSimpArgs false
set_option linter.unusedVariables false
attribute [local irreducible] RunX WP ACall AnyP OpA ProtL afterCall afterOp
set_option maxRecDepth 8000
set_option maxHeartbeats 8000000 in
theorem oPrintC (w0 : World) (hT : Tab w0) (hD : DeB w0) (hN : Nam w0) (S : List Blk) (a : Ac) (i : Nat) (ha : S[i]? = some (.cells [.int .i64 a.kind, .int .i64 a.n, .int .i64 a.m, .int .i64 a.ck, .int .i64 a.cn, .str a.text])) (hs : a.text.length ≤ 10000000) (R : AOut → List Blk → Prop) (h : R (prOut (printO a)) S) : ACall Tryz.prog w0 24 [.own i 0] S R := by
  have hm := oPrints w0
  unfold prM at hm
  have hmT := oMustT w0
  have hmF := oMustF w0
  unfold noneV at hmF
  by_cases h4 : a.kind = 44
  · have hp := fun S' => oPrint1 w0 S' a hs h4
    rw [pr44 h4] at h
    by_cases hc : a = ⟨44, 0, 0, 0, 0, a.text⟩ ∧ titleB a.text = true
    · rw [if_pos hc] at h
      simp only [if_pos hc] at hp
      clear hc hs hT hD hN
      obtain ⟨k, n, m, ck, cn, t⟩ := a
      simp only at h4 ha h hp
      subst h4
      unfold Ac.av at hp
      unfold prOut at h
      simp only at hp h
      refine enter Tryz.func24 rfl (by decide +kernel) (by rw [Tryz.ntmps24]; simp) (by rw [Tryz.ntmps24]; decide) (fun hO => ?_); rw [Tryz.ntmps24]
      repeat' first | refine st ?_ | (refine ca ?_; first | apply hm | apply hmT | apply hp) | (refine br ?_ ?_; all_goals (intro hb; try simp only [Bool.not_eq_true', Bool.not_eq_false'] at hb)) | refine sd ?_ | apply pl_nil | (apply c_end; (· decide +kernel)) | refine bd ?_ ?_ | (refine cd ?_; first | apply hm | apply hmT | apply hp) | fail
      all_goals (apply f_ret; iterate 7 (· simp only [go_sem, *, Tryz.results24]; try rfl))
      all_goals exact h
    · rw [if_neg hc] at h
      simp only [if_neg hc] at hp
      clear hc hs hT hD hN
      obtain ⟨k, n, m, ck, cn, t⟩ := a
      simp only at h4 ha h hp
      subst h4
      unfold Ac.av noneV at hp
      unfold prOut noneV at h
      simp only at hp h
      refine enter Tryz.func24 rfl (by decide +kernel) (by rw [Tryz.ntmps24]; simp) (by rw [Tryz.ntmps24]; decide) (fun hO => ?_); rw [Tryz.ntmps24]
      repeat' first | refine st ?_ | (refine ca ?_; first | apply hm | apply hmT | apply hp) | (refine br ?_ ?_; all_goals (intro hb; try simp only [Bool.not_eq_true', Bool.not_eq_false'] at hb)) | refine sd ?_ | apply pl_nil | (apply c_end; (· decide +kernel)) | refine bd ?_ ?_ | (refine cd ?_; first | apply hm | apply hmT | apply hp) | fail
      all_goals (apply f_panic; iterate 6 (· simp only [go_sem, *]; try rfl))
      all_goals exact h
  by_cases h5 : a.kind = 45
  · have hp := fun S' => oPrint2 w0 hT hD hN S' a h5
    rw [pr45 h5] at h
    by_cases hc : a = ⟨45, a.n, 0, 2, a.cn, []⟩ ∧ (0 ≤ a.n ∧ a.n ≤ 255) ∧ (0 ≤ a.cn ∧ a.cn ≤ 16777215)
    · rw [if_pos hc] at h
      simp only [if_pos hc] at hp
      clear hc hs hT hD hN h4
      obtain ⟨k, n, m, ck, cn, t⟩ := a
      simp only at h5 ha h hp
      subst h5
      unfold Ac.av at hp
      unfold prOut at h
      simp only at hp h
      generalize (52 :: 59 :: (Lib.itoa n ++ 59 :: rgbT cn.toNat)) = T at hp h
      refine enter Tryz.func24 rfl (by decide +kernel) (by rw [Tryz.ntmps24]; simp) (by rw [Tryz.ntmps24]; decide) (fun hO => ?_); rw [Tryz.ntmps24]
      repeat' first | refine st ?_ | (refine ca ?_; first | apply hm | apply hmT | apply hp) | (refine br ?_ ?_; all_goals (intro hb; try simp only [Bool.not_eq_true', Bool.not_eq_false'] at hb)) | refine sd ?_ | apply pl_nil | (apply c_end; (· decide +kernel)) | refine bd ?_ ?_ | (refine cd ?_; first | apply hm | apply hmT | apply hp) | fail
      all_goals (apply f_ret; iterate 7 (· simp only [go_sem, *, Tryz.results24]; try rfl))
      all_goals exact h
    · rw [if_neg hc] at h
      simp only [if_neg hc] at hp
      clear hc hs hT hD hN h4
      obtain ⟨k, n, m, ck, cn, t⟩ := a
      simp only at h5 ha h hp
      subst h5
      unfold Ac.av noneV at hp
      unfold prOut noneV at h
      simp only at hp h
      refine enter Tryz.func24 rfl (by decide +kernel) (by rw [Tryz.ntmps24]; simp) (by rw [Tryz.ntmps24]; decide) (fun hO => ?_); rw [Tryz.ntmps24]
      repeat' first | refine st ?_ | (refine ca ?_; first | apply hm | apply hmT | apply hp) | (refine br ?_ ?_; all_goals (intro hb; try simp only [Bool.not_eq_true', Bool.not_eq_false'] at hb)) | refine sd ?_ | apply pl_nil | (apply c_end; (· decide +kernel)) | refine bd ?_ ?_ | (refine cd ?_; first | apply hm | apply hmT | apply hp) | fail
      all_goals (apply f_panic; iterate 6 (· simp only [go_sem, *]; try rfl))
      all_goals exact h
  by_cases h6 : a.kind = 46
  · have hp := fun S' => oPrint3 w0 S' a hs h6
    rw [pr46 h6] at h
    by_cases hc : a = ⟨46, 0, 0, 0, 0, a.text⟩ ∧ a.text.length ≤ 378
    · rw [if_pos hc] at h
      simp only [if_pos hc] at hp
      clear hc hs hT hD hN h4 h5
      obtain ⟨k, n, m, ck, cn, t⟩ := a
      simp only at h6 ha h hp
      subst h6
      unfold Ac.av at hp
      unfold prOut at h
      simp only at hp h
      generalize (53 :: 50 :: 59 :: 99 :: 59 :: encF t) = T at hp h
      refine enter Tryz.func24 rfl (by decide +kernel) (by rw [Tryz.ntmps24]; simp) (by rw [Tryz.ntmps24]; decide) (fun hO => ?_); rw [Tryz.ntmps24]
      repeat' first | refine st ?_ | (refine ca ?_; first | apply hm | apply hmT | apply hp) | (refine br ?_ ?_; all_goals (intro hb; try simp only [Bool.not_eq_true', Bool.not_eq_false'] at hb)) | refine sd ?_ | apply pl_nil | (apply c_end; (· decide +kernel)) | refine bd ?_ ?_ | (refine cd ?_; first | apply hm | apply hmT | apply hp) | fail
      all_goals (apply f_ret; iterate 7 (· simp only [go_sem, *, Tryz.results24]; try rfl))
      all_goals exact h
    · rw [if_neg hc] at h
      simp only [if_neg hc] at hp
      clear hc hs hT hD hN h4 h5
      obtain ⟨k, n, m, ck, cn, t⟩ := a
      simp only at h6 ha h hp
      subst h6
      unfold Ac.av noneV at hp
      unfold prOut noneV at h
      simp only at hp h
      refine enter Tryz.func24 rfl (by decide +kernel) (by rw [Tryz.ntmps24]; simp) (by rw [Tryz.ntmps24]; decide) (fun hO => ?_); rw [Tryz.ntmps24]
      repeat' first | refine st ?_ | (refine ca ?_; first | apply hm | apply hmT | apply hp) | (refine br ?_ ?_; all_goals (intro hb; try simp only [Bool.not_eq_true', Bool.not_eq_false'] at hb)) | refine sd ?_ | apply pl_nil | (apply c_end; (· decide +kernel)) | refine bd ?_ ?_ | (refine cd ?_; first | apply hm | apply hmT | apply hp) | fail
      all_goals (apply f_panic; iterate 6 (· simp only [go_sem, *]; try rfl))
      all_goals exact h
  · rw [prNo h4 h5 h6] at h
    unfold prOut noneV at h
    simp only at h
    have b4 : (a.kind == 44) = false := by simpa using h4
    have b5 : (a.kind == 45) = false := by simpa using h5
    have b6 : (a.kind == 46) = false := by simpa using h6
    clear hs hT hD hN h4 h5 h6
    obtain ⟨k, n, m, ck, cn, t⟩ := a
    simp only at ha b4 b5 b6
    refine enter Tryz.func24 rfl (by decide +kernel) (by rw [Tryz.ntmps24]; simp) (by rw [Tryz.ntmps24]; decide) (fun hO => ?_); rw [Tryz.ntmps24]
    repeat' first | refine st ?_ | (refine ca ?_; first | apply hm | apply hmF) | (refine br ?_ ?_; all_goals (intro hb; try simp only [Bool.not_eq_true', Bool.not_eq_false'] at hb)) | refine sd ?_ | apply pl_nil | (apply c_end; (· decide +kernel)) | refine bd ?_ ?_ | (refine cd ?_; first | apply hm | apply hmF) | fail
    all_goals (apply f_panic; iterate 6 (· simp only [go_sem, *]; try rfl))
    all_goals exact h
end Go.Proofs.YtfnnjkbhmoomjaaGreatDoor
namespace Go.Proofs.YtfnnjkbhmoomjaaGreatDoor
open Go Go.Fen
set_option linter.unusedSimpArgs false
set_option linter.unusedVariables false
attribute [local irreducible] RunX WP ACall AnyP OpA ProtL afterCall afterOp
set_option maxRecDepth 8000
theorem drun_mk {P : Program} {w0 : World} {g : FuncId} {args : List AV} {rv : AV} {S : List Blk} {K : List Blk → Prop} {G : Func} {id : Nat} {o0 : Oper} {l : List Oper} {rest : Code} {ty : TypeId} {d : Nat} (env1 : Env) (S1 : List Blk) (h1 : P.funcs[g]? = some G) (h2 : (G.name == "runtime.NumGoroutine") = false)
    (h3 : G.body = some (.seq (.region id (o0 :: l).toArray false) rest)) (h4 : o0.op = .call ⟨.builtin .recover, #[], #[]⟩) (h5 : o0.guard = none) (h6 : o0.type = ty) (h7 : o0.dst = some d) (h8 : d < G.ntmps) (h9 : args.length ≤ G.ntmps) (h10 : G.ntmps ≤ DS) (h11 : G.results = #[])
    (h12 : runOps P w0 (o0 :: l).toArray G.ntmps l (upd (env0 args) d rv) S = some (env1, S1))
    (h13 : RunX P w0 S.length G.ntmps none [.it (.code rest)] (fun x env S' => (x = .normal ∨ x = .ret) ∧ env DS = .dfr [] ∧ okOuter S.length S S' ∧ K (S'.take S.length)) .normal env1 S1) : DRun P w0 g args rv S K :=
  ⟨G, id, o0, l, rest, ty, d, env1, S1, h1, h2, h3, h4, h5, h6, h7, h8, h9, h10, h11, h12, h13⟩
theorem dsN (w0 : World) (S : List Blk) (K : List Blk → Prop) (h : K S) : DRun Tryz.prog w0 47 [] .inil S K := by
  refine drun_mk (upd (upd (env0 []) 1 .inil) 0 .inil) S Tryz.func47 (by decide +kernel) rfl rfl rfl rfl rfl (by decide) (by rw [Tryz.ntmps47]; simp) (by rw [Tryz.ntmps47]; decide) rfl ?_ ?_
  · rfl
  · rw [Tryz.ntmps47]
    repeat' first | refine st ?_ | (refine br ?_ ?_; all_goals (intro hb; try simp only [Bool.not_eq_true', Bool.not_eq_false'] at hb)) | fail
    exact ⟨.inl rfl, by (simp only [go_sem, *]; try rfl), fun _ _ _ e => .inl e, by rw [List.take_length]; exact h⟩
theorem dsP (w0 : World) (S : List Blk) (K : List Blk → Prop) (h : K S) : DRun Tryz.prog w0 47 [] noneV S K := by
  refine drun_mk (upd (upd (env0 []) 1 noneV) 0 noneV) S Tryz.func47 (by decide +kernel) rfl rfl rfl rfl rfl (by decide) (by rw [Tryz.ntmps47]; simp) (by rw [Tryz.ntmps47]; decide) rfl ?_ ?_
  · rfl
  · rw [Tryz.ntmps47]
    repeat' first | apply x_seq | apply x_skip | apply x_block | apply x_exit | apply x_ret | apply x_ops_nil | apply p_blk | apply p_exit_it | apply p_exit_hit | apply p_ret_it | apply p_ret_blk | apply p_panic_it | apply p_panic_blk | apply p_end | (apply p_exit_miss; (· rfl)) | (apply x_region; simp only [List.toList_toArray]) | (apply x_step0; (· rfl); (· simp only [go_sem, *, noneV]; try rfl); (· rfl); simp only [putA]) | (apply ac_ret; simp only [putA]) | apply ac_panic | (apply x_panic; (· simp only [go_sem, *, noneV]; try rfl); (· rfl); (· simp only [go_sem, *, noneV]; try rfl)) | (apply x_step; (iterate 2 (· simp only [go_sem, *, noneV]; try rfl)); (· rfl); simp only [putA]) | (apply x_unwanted; (· simp only [go_sem, *, noneV]; try rfl); (· rfl); simp only [putA]) | (apply x_condT; (· simp only [go_sem, *, noneV]; try rfl)) | (apply x_condF; (· simp only [go_sem, *, noneV]; try rfl)) | (apply x_guardS; (· rfl); (fail_if_success (focus (show _ = some true; (· simp only [go_sem, *, noneV]; try rfl)))); (· simp only [go_sem, *, noneV]; try rfl); all_goals (intro hb; try simp only [Bool.not_eq_true', Bool.not_eq_false'] at hb)) | (apply x_condS; (· simp only [go_sem, *, noneV]; try rfl); all_goals (intro hb; try simp only [Bool.not_eq_true', Bool.not_eq_false'] at hb)) | fail
    exact ⟨.inl rfl, by (simp only [go_sem, *]; try rfl), fun _ _ _ e => .inl e, by rw [List.take_length]; exact h⟩
def dnV : Option (List UInt8) → AV
  | some s => .tup [.str s, .bool true]
  | none => .tup [.str [], .bool false]
set_option maxHeartbeats 2000000 in
theorem oDoneS (w0 : World) (S : List Blk) (i : Nat) (cs : List AV) (ha : S[i]? = some (.cells cs)) (o : Option (List UInt8)) (hC : ∀ R : AOut → List Blk → Prop, R (prOut o) S → ACall Tryz.prog w0 24 [.own i 0] S R) (R : AOut → List Blk → Prop) (h : R (.ret (dnV o)) S) : ACall Tryz.prog w0 23 [.fn (.func 24) [] [.own i 0]] S R := by
  refine enterD Tryz.func23 rfl (by decide +kernel) (by rw [Tryz.ntmps23]; simp) (by rw [Tryz.ntmps23]; decide) (fun hO => ?_); rw [Tryz.ntmps23]
  cases o with
  | none =>
    unfold dnV at h
    unfold prOut at hC
    simp only at h hC
    unfold noneV at hC
    repeat' first | refine st ?_ | (refine br ?_ ?_; all_goals (intro hb; try simp only [Bool.not_eq_true', Bool.not_eq_false'] at hb)) | fail
    apply x_defer
    · (simp only [go_sem, *]; try rfl)
    · rfl
    · (simp only [go_sem, *]; try rfl)
    · (simp only [go_sem, *]; try rfl)
    · rfl
    simp only [putA]
    repeat' first | refine st ?_ | (refine ca ?_; first | apply hC) | (refine br ?_ ?_; all_goals (intro hb; try simp only [Bool.not_eq_true', Bool.not_eq_false'] at hb)) | fail
    refine ⟨_, _, _, by (simp only [go_sem, *]; try rfl), dsP w0 _ _ ?_⟩
    refine ⟨[.str [], .bool false], by (simp only [go_sem, *, Tryz.results23]; try rfl), fun _ _ _ e => .inl e, by (simp only [go_sem, *]; try rfl), ?_⟩
    rw [List.take_length]
    exact h
  | some s =>
    unfold dnV at h
    unfold prOut at hC
    simp only at h hC
    repeat' first | refine st ?_ | (refine br ?_ ?_; all_goals (intro hb; try simp only [Bool.not_eq_true', Bool.not_eq_false'] at hb)) | fail
    apply x_defer
    · (simp only [go_sem, *]; try rfl)
    · rfl
    · (simp only [go_sem, *]; try rfl)
    · (simp only [go_sem, *]; try rfl)
    · rfl
    simp only [putA]
    repeat' first | refine st ?_ | (refine ca ?_; first | apply hC) | (refine br ?_ ?_; all_goals (intro hb; try simp only [Bool.not_eq_true', Bool.not_eq_false'] at hb)) | fail
    refine ⟨_, _, _, by (simp only [go_sem, *]; try rfl), dsN w0 _ _ ?_⟩
    refine ⟨[.str s, .bool true], by (simp only [go_sem, *, Tryz.results23]; try rfl), fun _ _ _ e => .inl e, by (simp only [go_sem, *]; try rfl), ?_⟩
    rw [List.take_length]
    exact h
theorem oPrintX (w0 : World) (hT : Tab w0) (hD : DeB w0) (hN : Nam w0) (S : List Blk) (a : Ac) (hs : a.text.length ≤ 10000000) (R : AOut → List Blk → Prop) (h : R (.ret (printV (printO a))) S) : ACall Tryz.prog w0 10 [a.av] S R := by
  have hc := fun S' i ha => oPrintC w0 hT hD hN S' a i ha hs
  have hd := fun S' i ha => oDoneS w0 S' i [.int .i64 a.kind, .int .i64 a.n, .int .i64 a.m, .int .i64 a.ck, .int .i64 a.cn, .str a.text] ha (printO a) (hc S' i ha)
  obtain ⟨k, n, m, ck, cn, t⟩ := a
  unfold Ac.av
  simp only at hd ⊢
  clear hc hT hD hN hs
  generalize printO ⟨k, n, m, ck, cn, t⟩ = o at hd h
  unfold dnV at hd
  unfold printV at h
  cases o with
  | none =>
    simp only at hd h
    refine enter Tryz.func10 rfl (by decide +kernel) (by rw [Tryz.ntmps10]; simp) (by rw [Tryz.ntmps10]; decide) (fun hO => ?_); rw [Tryz.ntmps10]
    repeat' first | refine st ?_ | (refine ca ?_; first | (apply hd; (· simp only [go_sem, *]; try rfl))) | (refine br ?_ ?_; all_goals (intro hb; try simp only [Bool.not_eq_true', Bool.not_eq_false'] at hb)) | fail
    (apply f_ret; iterate 7 (· simp only [go_sem, *, Tryz.results10]; try rfl))
    exact h
  | some s =>
    simp only at hd h
    refine enter Tryz.func10 rfl (by decide +kernel) (by rw [Tryz.ntmps10]; simp) (by rw [Tryz.ntmps10]; decide) (fun hO => ?_); rw [Tryz.ntmps10]
    repeat' first | refine st ?_ | (refine ca ?_; first | (apply hd; (· simp only [go_sem, *]; try rfl))) | (refine br ?_ ?_; all_goals (intro hb; try simp only [Bool.not_eq_true', Bool.not_eq_false'] at hb)) | fail
    (apply f_ret; iterate 7 (· simp only [go_sem, *, Tryz.results10]; try rfl))
    exact h
theorem printOk (w0 : World) (hT : Tab w0) (hD : DeB w0) (hN : Nam w0) : PrintOk w0 := fun S a ha R h => oPrintX w0 hT hD hN S a (by omega) R h
end Go.Proofs.YtfnnjkbhmoomjaaGreatDoor
namespace Go.Proofs.YtfnnjkbhmoomjaaGreatDoor
open Go Go.Fen
set_option linter.unusedSimpArgs false
set_option linter.unusedVariables false
attribute [local irreducible] RunX WP ACall AnyP OpA ProtL afterCall afterOp
set_option maxRecDepth 8000
def rd1 (s : List UInt8) : Option Ac := if titleB s then some ⟨44, 0, 0, 0, 0, s⟩ else none
theorem oRead1X (w0 : World) (S : List Blk) (s : List UInt8) (hs : s.length ≤ 10000000) (R : AOut → List Blk → Prop) (h : R (rdOut (rd1 s)) S) : ACall Tryz.prog w0 63 [.str s] S R := by
  refine oRead1 w0 S s hs R ?_
  unfold rd1 at h
  cases hb : titleB s with
  | true => rw [hb] at h; exact h
  | false => rw [hb] at h; exact h
theorem parse_cut {s k r : List UInt8} (h1 : ¬ 512 < s.length) (h2 : cutO s = some (k, r)) : parseO s = if k = [48] ∨ k = [50] then rd1 r else if k = [52] then rd2 r else if k = [53, 50] then rd3 r else none := by
  unfold parseO
  rw [if_neg h1, h2]
  simp only
  unfold rd1 rd2 rd3
  rfl
set_option maxHeartbeats 8000000 in
theorem oParseC (w0 : World) (hS : Syn w0) (hG : Rng w0) (S : List Blk) (s : List UInt8) (i : Nat) (ha : S[i]? = some (.cells [.str s])) (hs : s.length ≤ 8192) (R : AOut → List Blk → Prop) (h : R (rdOut (parseO s)) S) : ACall Tryz.prog w0 32 [.own i 0] S R := by
  have hm := oReads w0
  unfold rdM at hm
  have hmT := oMustT w0
  have hmF := oMustF w0
  unfold noneV at hmF
  have hal := (List.getElem?_eq_some_iff.1 ha).1
  have ha1 : ∀ L : List Blk, (S ++ L)[i]? = some (.cells [.str s]) := fun L => by rw [List.getElem?_append_left hal]; exact ha
  clear hal
  by_cases h5 : 512 < s.length
  · have d1 : decide ((s.length : Int) ≤ 512) = false := by simp; omega
    have e : parseO s = none := by unfold parseO; rw [if_pos h5]
    rw [e] at h
    unfold rdOut noneV at h
    simp only at h
    clear h5 e hS hG hs hmT
    refine enter Tryz.func32 rfl (by decide +kernel) (by rw [Tryz.ntmps32]; simp) (by rw [Tryz.ntmps32]; decide) (fun hO => ?_); rw [Tryz.ntmps32]
    repeat' first | refine st ?_ | (refine ca ?_; first | apply hmF) | (refine br ?_ ?_; all_goals (intro hb; try simp only [Bool.not_eq_true', Bool.not_eq_false'] at hb)) | fail
    (apply f_panic; iterate 6 (· simp only [go_sem, *]; try rfl))
    exact h
  have d1 : decide ((s.length : Int) ≤ 512) = true := by simp; omega
  have ht := fun S' => oTwo w0 S' s (by omega)
  cases hq : cutO s with
  | none =>
    have e : parseO s = none := by unfold parseO; rw [if_neg h5, hq]
    rw [e] at h
    rw [hq] at ht
    unfold rdOut noneV at h
    unfold twoV noneV at ht
    simp only at h ht
    clear h5 e hS hG hs hmF hq
    refine enter Tryz.func32 rfl (by decide +kernel) (by rw [Tryz.ntmps32]; simp) (by rw [Tryz.ntmps32]; decide) (fun hO => ?_); rw [Tryz.ntmps32]
    repeat' first | refine st ?_ | (refine ca ?_; first | apply ht | apply hmT) | (refine br ?_ ?_; all_goals (intro hb; try simp only [Bool.not_eq_true', Bool.not_eq_false'] at hb)) | fail
    (apply f_panic; iterate 6 (· simp only [go_sem, *]; try rfl))
    exact h
  | some q =>
  obtain ⟨k, r⟩ := q
  obtain ⟨hkl, hrl⟩ := cut_len hq
  rw [parse_cut h5 hq] at h
  rw [hq] at ht
  unfold twoV at ht
  simp only at ht
  by_cases h0 : k = [48]
  · subst h0
    rw [if_pos (.inl rfl)] at h
    have hr := fun S' => oRead1X w0 S' r (by omega)
    generalize rd1 r = o at h hr
    clear h5 hq hS hG hs hkl hrl
    unfold rdOut at h hr
    cases o with
    | none =>
      unfold noneV at h hr
      simp only at h hr
      refine enter Tryz.func32 rfl (by decide +kernel) (by rw [Tryz.ntmps32]; simp) (by rw [Tryz.ntmps32]; decide) (fun hO => ?_); rw [Tryz.ntmps32]
      repeat' first | refine st ?_ | (refine ca ?_; first | apply ht | apply hmT | apply hm | apply hr) | (refine br ?_ ?_; all_goals (intro hb; try simp only [Bool.not_eq_true', Bool.not_eq_false'] at hb)) | fail
      (apply f_panic; iterate 6 (· simp only [go_sem, *]; try rfl))
      exact h
    | some a =>
      obtain ⟨ak, an, am, ac, ad, at'⟩ := a
      unfold Ac.av at h hr
      simp only at h hr
      refine enter Tryz.func32 rfl (by decide +kernel) (by rw [Tryz.ntmps32]; simp) (by rw [Tryz.ntmps32]; decide) (fun hO => ?_); rw [Tryz.ntmps32]
      repeat' first | refine st ?_ | (refine ca ?_; first | apply ht | apply hmT | apply hm | apply hr) | (refine br ?_ ?_; all_goals (intro hb; try simp only [Bool.not_eq_true', Bool.not_eq_false'] at hb)) | fail
      (apply f_ret; iterate 7 (· simp only [go_sem, *, Tryz.results32]; try rfl))
      exact h
  by_cases h2 : k = [50]
  · subst h2
    rw [if_pos (.inr rfl)] at h
    have hr := fun S' => oRead1X w0 S' r (by omega)
    generalize rd1 r = o at h hr
    clear h5 hq hS hG hs hkl hrl
    unfold rdOut at h hr
    cases o with
    | none =>
      unfold noneV at h hr
      simp only at h hr
      refine enter Tryz.func32 rfl (by decide +kernel) (by rw [Tryz.ntmps32]; simp) (by rw [Tryz.ntmps32]; decide) (fun hO => ?_); rw [Tryz.ntmps32]
      repeat' first | refine st ?_ | (refine ca ?_; first | apply ht | apply hmT | apply hm | apply hr) | (refine br ?_ ?_; all_goals (intro hb; try simp only [Bool.not_eq_true', Bool.not_eq_false'] at hb)) | fail
      (apply f_panic; iterate 6 (· simp only [go_sem, *]; try rfl))
      exact h
    | some a =>
      obtain ⟨ak, an, am, ac, ad, at'⟩ := a
      unfold Ac.av at h hr
      simp only at h hr
      refine enter Tryz.func32 rfl (by decide +kernel) (by rw [Tryz.ntmps32]; simp) (by rw [Tryz.ntmps32]; decide) (fun hO => ?_); rw [Tryz.ntmps32]
      repeat' first | refine st ?_ | (refine ca ?_; first | apply ht | apply hmT | apply hm | apply hr) | (refine br ?_ ?_; all_goals (intro hb; try simp only [Bool.not_eq_true', Bool.not_eq_false'] at hb)) | fail
      (apply f_ret; iterate 7 (· simp only [go_sem, *, Tryz.results32]; try rfl))
      exact h
  by_cases h4 : k = [52]
  · subst h4
    rw [if_neg (by decide), if_pos rfl] at h
    have hr := fun S' => oRead2 w0 hS hG S' r (by omega)
    generalize rd2 r = o at h hr
    clear h5 hq hS hG hs hkl hrl
    unfold rdOut at h hr
    cases o with
    | none =>
      unfold noneV at h hr
      simp only at h hr
      refine enter Tryz.func32 rfl (by decide +kernel) (by rw [Tryz.ntmps32]; simp) (by rw [Tryz.ntmps32]; decide) (fun hO => ?_); rw [Tryz.ntmps32]
      repeat' first | refine st ?_ | (refine ca ?_; first | apply ht | apply hmT | apply hm | apply hr) | (refine br ?_ ?_; all_goals (intro hb; try simp only [Bool.not_eq_true', Bool.not_eq_false'] at hb)) | fail
      (apply f_panic; iterate 6 (· simp only [go_sem, *]; try rfl))
      exact h
    | some a =>
      obtain ⟨ak, an, am, ac, ad, at'⟩ := a
      unfold Ac.av at h hr
      simp only at h hr
      refine enter Tryz.func32 rfl (by decide +kernel) (by rw [Tryz.ntmps32]; simp) (by rw [Tryz.ntmps32]; decide) (fun hO => ?_); rw [Tryz.ntmps32]
      repeat' first | refine st ?_ | (refine ca ?_; first | apply ht | apply hmT | apply hm | apply hr) | (refine br ?_ ?_; all_goals (intro hb; try simp only [Bool.not_eq_true', Bool.not_eq_false'] at hb)) | fail
      (apply f_ret; iterate 7 (· simp only [go_sem, *, Tryz.results32]; try rfl))
      exact h
  by_cases h52 : k = [53, 50]
  · subst h52
    rw [if_neg (by decide), if_neg (by decide), if_pos rfl] at h
    have hr := fun S' => oRead3 w0 S' r (by omega)
    generalize rd3 r = o at h hr
    clear h5 hq hS hG hs hkl hrl
    unfold rdOut at h hr
    cases o with
    | none =>
      unfold noneV at h hr
      simp only at h hr
      refine enter Tryz.func32 rfl (by decide +kernel) (by rw [Tryz.ntmps32]; simp) (by rw [Tryz.ntmps32]; decide) (fun hO => ?_); rw [Tryz.ntmps32]
      repeat' first | refine st ?_ | (refine ca ?_; first | apply ht | apply hmT | apply hm | apply hr) | (refine br ?_ ?_; all_goals (intro hb; try simp only [Bool.not_eq_true', Bool.not_eq_false'] at hb)) | fail
      (apply f_panic; iterate 6 (· simp only [go_sem, *]; try rfl))
      exact h
    | some a =>
      obtain ⟨ak, an, am, ac, ad, at'⟩ := a
      unfold Ac.av at h hr
      simp only at h hr
      refine enter Tryz.func32 rfl (by decide +kernel) (by rw [Tryz.ntmps32]; simp) (by rw [Tryz.ntmps32]; decide) (fun hO => ?_); rw [Tryz.ntmps32]
      repeat' first | refine st ?_ | (refine ca ?_; first | apply ht | apply hmT | apply hm | apply hr) | (refine br ?_ ?_; all_goals (intro hb; try simp only [Bool.not_eq_true', Bool.not_eq_false'] at hb)) | fail
      (apply f_ret; iterate 7 (· simp only [go_sem, *, Tryz.results32]; try rfl))
      exact h
  · rw [if_neg (by rintro (e | e) <;> contradiction), if_neg h4, if_neg h52] at h
    have b0 : (k == [48]) = false := by simpa using h0
    have b2 : (k == [50]) = false := by simpa using h2
    have b4 : (k == [52]) = false := by simpa using h4
    have b5 : (k == [53, 50]) = false := by simpa using h52
    unfold rdOut noneV at h
    simp only at h
    clear h0 h2 h4 h52 h5 hq hS hG hs hkl hrl
    refine enter Tryz.func32 rfl (by decide +kernel) (by rw [Tryz.ntmps32]; simp) (by rw [Tryz.ntmps32]; decide) (fun hO => ?_); rw [Tryz.ntmps32]
    repeat' first | refine st ?_ | (refine ca ?_; first | apply ht | apply hmT | apply hm | apply hmF) | (refine br ?_ ?_; all_goals (intro hb; try simp only [Bool.not_eq_true', Bool.not_eq_false'] at hb)) | fail
    (apply f_panic; iterate 6 (· simp only [go_sem, *]; try rfl))
    exact h
end Go.Proofs.YtfnnjkbhmoomjaaGreatDoor
namespace Go.Proofs.YtfnnjkbhmoomjaaGreatDoor
open Go Go.Fen
set_option linter.unusedSimpArgs false
set_option linter.unusedVariables false
attribute [local irreducible] RunX WP ACall AnyP OpA ProtL afterCall afterOp
set_option maxRecDepth 8000
theorem daN (w0 : World) (S : List Blk) (K : List Blk → Prop) (h : K S) : DRun Tryz.prog w0 61 [] .inil S K := by
  refine drun_mk (upd (upd (env0 []) 1 .inil) 0 .inil) S Tryz.func61 (by decide +kernel) rfl rfl rfl rfl rfl (by decide) (by rw [Tryz.ntmps61]; simp) (by rw [Tryz.ntmps61]; decide) rfl ?_ ?_
  · rfl
  · rw [Tryz.ntmps61]
    repeat' first | refine st ?_ | (refine br ?_ ?_; all_goals (intro hb; try simp only [Bool.not_eq_true', Bool.not_eq_false'] at hb)) | fail
    exact ⟨.inl rfl, by (simp only [go_sem, *]; try rfl), fun _ _ _ e => .inl e, by rw [List.take_length]; exact h⟩
theorem daP (w0 : World) (S : List Blk) (K : List Blk → Prop) (h : K S) : DRun Tryz.prog w0 61 [] noneV S K := by
  refine drun_mk (upd (upd (env0 []) 1 noneV) 0 noneV) S Tryz.func61 (by decide +kernel) rfl rfl rfl rfl rfl (by decide) (by rw [Tryz.ntmps61]; simp) (by rw [Tryz.ntmps61]; decide) rfl ?_ ?_
  · rfl
  · rw [Tryz.ntmps61]
    repeat' first | apply x_seq | apply x_skip | apply x_block | apply x_exit | apply x_ret | apply x_ops_nil | apply p_blk | apply p_exit_it | apply p_exit_hit | apply p_ret_it | apply p_ret_blk | apply p_panic_it | apply p_panic_blk | apply p_end | (apply p_exit_miss; (· rfl)) | (apply x_region; simp only [List.toList_toArray]) | (apply x_step0; (· rfl); (· simp only [go_sem, *, noneV]; try rfl); (· rfl); simp only [putA]) | (apply ac_ret; simp only [putA]) | apply ac_panic | (apply x_panic; (· simp only [go_sem, *, noneV]; try rfl); (· rfl); (· simp only [go_sem, *, noneV]; try rfl)) | (apply x_step; (iterate 2 (· simp only [go_sem, *, noneV]; try rfl)); (· rfl); simp only [putA]) | (apply x_unwanted; (· simp only [go_sem, *, noneV]; try rfl); (· rfl); simp only [putA]) | (apply x_condT; (· simp only [go_sem, *, noneV]; try rfl)) | (apply x_condF; (· simp only [go_sem, *, noneV]; try rfl)) | (apply x_guardS; (· rfl); (fail_if_success (focus (show _ = some true; (· simp only [go_sem, *, noneV]; try rfl)))); (· simp only [go_sem, *, noneV]; try rfl); all_goals (intro hb; try simp only [Bool.not_eq_true', Bool.not_eq_false'] at hb)) | (apply x_condS; (· simp only [go_sem, *, noneV]; try rfl); all_goals (intro hb; try simp only [Bool.not_eq_true', Bool.not_eq_false'] at hb)) | fail
    exact ⟨.inl rfl, by (simp only [go_sem, *]; try rfl), fun _ _ _ e => .inl e, by rw [List.take_length]; exact h⟩
set_option maxHeartbeats 2000000 in
theorem oDoneA (w0 : World) (S : List Blk) (i : Nat) (cs : List AV) (ha : S[i]? = some (.cells cs)) (o : Option Ac) (hC : ∀ S' (R : AOut → List Blk → Prop), S'[i]? = some (.cells cs) → R (rdOut o) S' → ACall Tryz.prog w0 32 [.own i 0] S' R) (R : AOut → List Blk → Prop) (h : R (.ret (parV o)) S) : ACall Tryz.prog w0 31 [.fn (.func 32) [] [.own i 0]] S R := by
  have hal := (List.getElem?_eq_some_iff.1 ha).1
  have ha1 : ∀ L : List Blk, (S ++ L)[i]? = some (.cells cs) := fun L => by rw [List.getElem?_append_left hal]; exact ha
  clear hal
  refine enterD Tryz.func31 rfl (by decide +kernel) (by rw [Tryz.ntmps31]; simp) (by rw [Tryz.ntmps31]; decide) (fun hO => ?_); rw [Tryz.ntmps31]
  cases o with
  | none =>
    unfold parV zeroA Ac.av at h
    unfold rdOut noneV at hC
    simp only at h hC
    repeat' first | refine st ?_ | (refine br ?_ ?_; all_goals (intro hb; try simp only [Bool.not_eq_true', Bool.not_eq_false'] at hb)) | fail
    apply x_defer
    · (simp only [go_sem, *]; try rfl)
    · rfl
    · (simp only [go_sem, *]; try rfl)
    · (simp only [go_sem, *]; try rfl)
    · rfl
    simp only [putA]
    repeat' first | refine st ?_ | (refine ca ?_; first | (apply hC; (· simp only [go_sem, *]; try rfl))) | (refine br ?_ ?_; all_goals (intro hb; try simp only [Bool.not_eq_true', Bool.not_eq_false'] at hb)) | fail
    refine ⟨_, _, _, by (simp only [go_sem, *]; try rfl), daP w0 _ _ ?_⟩
    refine ⟨[.agg [.int .i64 0, .int .i64 0, .int .i64 0, .int .i64 0, .int .i64 0, .str []], .bool false], by (simp only [go_sem, *, Tryz.results31]; try rfl), okOuter_append _ _, by (simp only [go_sem, *]; try rfl), ?_⟩
    rw [List.take_left]
    exact h
  | some a =>
    obtain ⟨k, n, m, ck, cn, t⟩ := a
    unfold parV Ac.av at h
    unfold rdOut Ac.av at hC
    simp only at h hC
    repeat' first | refine st ?_ | (refine br ?_ ?_; all_goals (intro hb; try simp only [Bool.not_eq_true', Bool.not_eq_false'] at hb)) | fail
    apply x_defer
    · (simp only [go_sem, *]; try rfl)
    · rfl
    · (simp only [go_sem, *]; try rfl)
    · (simp only [go_sem, *]; try rfl)
    · rfl
    simp only [putA]
    repeat' first | refine st ?_ | (refine ca ?_; first | (apply hC; (· simp only [go_sem, *]; try rfl))) | (refine br ?_ ?_; all_goals (intro hb; try simp only [Bool.not_eq_true', Bool.not_eq_false'] at hb)) | fail
    refine ⟨_, _, _, by (simp only [go_sem, *]; try rfl), daN w0 _ _ ?_⟩
    refine ⟨[.agg [.int .i64 k, .int .i64 n, .int .i64 m, .int .i64 ck, .int .i64 cn, .str t], .bool true], by (simp only [go_sem, *, Tryz.results31]; try rfl), okOuter_append _ _, by (simp only [go_sem, *]; try rfl), ?_⟩
    rw [List.take_left]
    exact h
theorem parseOk (w0 : World) (hS : Syn w0) (hG : Rng w0) : ParseOk w0 := by
  intro S s hs R h
  have hc := fun S' i R ha => oParseC w0 hS hG S' s i ha hs R
  have hd := fun S' i ha => oDoneA w0 S' i [.str s] ha (parseO s) (fun S2 R ha2 h2 => hc S2 i R ha2 h2)
  clear hc hS hG hs
  generalize parseO s = o at hd h
  unfold parV at hd h
  cases o with
  | none =>
    unfold zeroA Ac.av at hd h
    simp only at hd h
    refine enter Tryz.func13 rfl (by decide +kernel) (by rw [Tryz.ntmps13]; simp) (by rw [Tryz.ntmps13]; decide) (fun hO => ?_); rw [Tryz.ntmps13]
    repeat' first | refine st ?_ | (refine ca ?_; first | (apply hd; (· simp only [go_sem, *]; try rfl))) | (refine br ?_ ?_; all_goals (intro hb; try simp only [Bool.not_eq_true', Bool.not_eq_false'] at hb)) | fail
    (apply f_ret; iterate 7 (· simp only [go_sem, *, Tryz.results13]; try rfl))
    exact h
  | some a =>
    obtain ⟨k, n, m, ck, cn, t⟩ := a
    unfold Ac.av at hd h
    simp only at hd h
    refine enter Tryz.func13 rfl (by decide +kernel) (by rw [Tryz.ntmps13]; simp) (by rw [Tryz.ntmps13]; decide) (fun hO => ?_); rw [Tryz.ntmps13]
    repeat' first | refine st ?_ | (refine ca ?_; first | (apply hd; (· simp only [go_sem, *]; try rfl))) | (refine br ?_ ?_; all_goals (intro hb; try simp only [Bool.not_eq_true', Bool.not_eq_false'] at hb)) | fail
    (apply f_ret; iterate 7 (· simp only [go_sem, *, Tryz.results13]; try rfl))
    exact h
end Go.Proofs.YtfnnjkbhmoomjaaGreatDoor
namespace Go.Proofs.YtfnnjkbhmoomjaaGreatDoor
open Go Go.Fen
set_option linter.unusedSimpArgs false
set_option linter.unusedVariables false
attribute [local irreducible] RunX WP ACall AnyP OpA ProtL afterCall afterOp
set_option maxRecDepth 8000
def CoI (c : Int) : AV := .int .i64 c
@[go_sem] theorem CoI.plainL (l : List Int) : plainL (l.map CoI) = true := plainL_map (fun _ => rfl) l
@[go_sem] theorem CoI.ltL (l : List Int) (n : Nat) : ltL n (l.map CoI) = true := ltL_iff.2 fun x hx => by obtain ⟨y, _, rfl⟩ := List.mem_map.1 hx; rfl
@[go_sem] theorem CoI.ok (l : List Int) : okEls 1 (l.map CoI) = true := by
  unfold okEls; rw [List.all_eq_true]; intro x hx; obtain ⟨y, _, rfl⟩ := List.mem_map.1 hx; rfl
end Go.Proofs.YtfnnjkbhmoomjaaGreatDoor
namespace Go.Proofs.YtfnnjkbhmoomjaaGreatDoor
open Go Go.Fen
set_option linter.unusedSimpArgs false
set_option linter.unusedVariables false
attribute [local irreducible] RunX WP ACall AnyP OpA ProtL afterCall afterOp
set_option maxRecDepth 8000
theorem rCheckI (w0 : World) (S : List Blk) (c : Int) (R : AOut → List Blk → Prop) (h : R (.ret (.bool (decide (0 ≤ c) && okU c.toNat))) S) : ACall Tryz.prog w0 39 [.int .i64 c] S R := by
  by_cases c0 : 0 ≤ c
  · obtain ⟨n, rfl⟩ : ∃ n : Nat, c = n := ⟨c.toNat, by omega⟩
    rw [decide_eq_true c0, Bool.true_and, Int.toNat_natCast] at h
    exact rCheck w0 S n R h
  · have d0 : decide (0 ≤ c) = false := decide_eq_false c0
    rw [d0, Bool.false_and] at h
    clear c0
    refine enter Tryz.func39 rfl (by decide +kernel) (by rw [Tryz.ntmps39]; simp) (by rw [Tryz.ntmps39]; decide) (fun hO => ?_); rw [Tryz.ntmps39]
    repeat' first | refine st ?_ | (refine br ?_ ?_; all_goals (intro hb; try simp only [Bool.not_eq_true', Bool.not_eq_false'] at hb)) | fail
    (apply f_ret; iterate 7 (· simp only [go_sem, *, Tryz.results39]; try rfl))
    exact h
end Go.Proofs.YtfnnjkbhmoomjaaGreatDoor
namespace Go.Proofs.YtfnnjkbhmoomjaaGreatDoor
open Go Go.Fen
set_option linter.unusedSimpArgs false
set_option linter.unusedVariables false
attribute [local irreducible] RunX WP ACall AnyP OpA ProtL afterCall afterOp
set_option maxRecDepth 8000
def goodT (c : Int) : Bool := decide (0 ≤ c) && (okU c.toNat && okT c.toNat)
def fixT (c : Int) : Nat := if goodT c then c.toNat else 32 + ((c % 18446744073709551616) % 95).toNat
theorem fixT_ok (c : Int) : okU (fixT c) = true ∧ okT (fixT c) = true := by
  unfold fixT
  split
  · next h => unfold goodT at h; simp at h; exact ⟨h.2.1, h.2.2⟩
  · have h1 : 0 ≤ (c % 18446744073709551616) % 95 := Int.emod_nonneg _ (by decide)
    have h2 : (c % 18446744073709551616) % 95 < 95 := Int.emod_lt_of_pos _ (by decide)
    generalize (c % 18446744073709551616) % 95 = x at h1 h2
    constructor
    · unfold okU; simp; omega
    · unfold okT; simp; omega
def titleStep (o : List Nat) (c : Int) : List Nat := if (textS o).length + (putS (fixT c)).length ≤ 510 then o ++ [fixT c] else o
def titleC (l : List Int) : List Nat := (l.take 200).foldl titleStep []
def titleS (l : List Int) : List UInt8 := textS (titleC l)
theorem textS_app (a : List Nat) (c : Nat) : textS (a ++ [c]) = textS a ++ putS c := by
  unfold textS
  rw [List.flatMap_append]; simp
theorem title_fold : ∀ (l : List Int) (o : List Nat), (∀ c ∈ o, okU c = true ∧ okT c = true) → (textS o).length ≤ 510 →
    (∀ c ∈ l.foldl titleStep o, okU c = true ∧ okT c = true) ∧ (textS (l.foldl titleStep o)).length ≤ 510
  | [], o, h1, h2 => ⟨h1, h2⟩
  | c :: l, o, h1, h2 => by
    rw [List.foldl_cons]
    refine title_fold l _ ?_ ?_
    · intro x hx
      unfold titleStep at hx
      split at hx
      · rcases List.mem_append.1 hx with hx | hx
        · exact h1 x hx
        · rw [List.mem_singleton.1 hx]; exact fixT_ok c
      · exact h1 x hx
    · unfold titleStep
      split
      · rw [textS_app, List.length_append]; assumption
      · exact h2
theorem title_ok (l : List Int) : titleB (titleS l) = true ∧ (titleS l).length ≤ 510 ∧ (∀ c ∈ titleC l, okU c = true ∧ okT c = true) := by
  obtain ⟨h1, h2⟩ := title_fold (l.take 200) [] (by simp) (by simp [textS])
  refine ⟨?_, h2, h1⟩
  unfold titleB
  rw [Bool.and_eq_true, decide_eq_true_eq]
  exact ⟨h2, nameT_text h1⟩
def draftA (w n : Nat) (rgb : Nat) (codes : List Int) (clip : List UInt8) : Ac :=
  if w % 3 = 0 then ⟨44, 0, 0, 0, 0, titleS codes⟩ else if w % 3 = 1 then ⟨45, n, 0, 2, ((rgb % 16777216 : Nat) : Int), []⟩ else ⟨46, 0, 0, 0, 0, clip.take 378⟩
end Go.Proofs.YtfnnjkbhmoomjaaGreatDoor
namespace Go.Proofs.YtfnnjkbhmoomjaaGreatDoor
open Go Go.Fen
set_option linter.unusedSimpArgs false
set_option linter.unusedVariables false
attribute [local irreducible] RunX WP ACall AnyP OpA ProtL afterCall afterOp
set_option maxRecDepth 8000
theorem fix_val (c : Int) (hg : goodT c = false) : IntKind.i64.wrap (32 + IntKind.i64.wrap ((IntKind.u64.wrap c).tmod 95)) = (fixT c : Nat) := by
  have e : IntKind.u64.wrap c = c % 18446744073709551616 := by simp [IntKind.wrap, IntKind.signed, IntKind.bits]
  have h0 : 0 ≤ c % 18446744073709551616 := Int.emod_nonneg _ (by decide)
  rw [e, Int.tmod_eq_emod_of_nonneg h0]
  have h1 : 0 ≤ (c % 18446744073709551616) % 95 := Int.emod_nonneg _ (by decide)
  have h2 : (c % 18446744073709551616) % 95 < 95 := Int.emod_lt_of_pos _ (by decide)
  unfold fixT
  rw [hg]
  generalize (c % 18446744073709551616) % 95 = x at h1 h2
  rw [IntWalk.i64_in x (by omega), IntWalk.i64_in _ (by omega)]
  simp
  omega
end Go.Proofs.YtfnnjkbhmoomjaaGreatDoor
namespace Go.Proofs.YtfnnjkbhmoomjaaGreatDoor
open Go Go.Fen
set_option linter.unusedSimpArgs false
set_option linter.unusedVariables false
attribute [local irreducible] RunX WP ACall AnyP OpA ProtL afterCall afterOp
set_option maxRecDepth 8000
def titleF (l : List Int) (i : Nat) : List Nat := (l.take i).foldl titleStep []
theorem titleF_succ {l : List Int} {i : Nat} {c : Int} (h : l[i]? = some c) : titleF l (i + 1) = titleStep (titleF l i) c := by
  unfold titleF
  rw [List.take_add_one, h, List.foldl_append]; rfl
theorem titleF_len (l : List Int) (i : Nat) : (textS (titleF l i)).length ≤ 510 := (title_fold (l.take i) [] (by simp) (by simp [textS])).2
theorem good_cases (c : Int) : (goodT c = true ∧ ((decide (0 ≤ c) && okU c.toNat) = true ∧ decide (c < 32) = false ∧ (decide (127 ≤ c) = false ∨ (decide (127 ≤ c) = true ∧ decide (c ≤ 159) = false)))) ∨
    (goodT c = false ∧ ((decide (0 ≤ c) && okU c.toNat) = false ∨ ((decide (0 ≤ c) && okU c.toNat) = true ∧ (decide (c < 32) = true ∨ (decide (c < 32) = false ∧ decide (127 ≤ c) = true ∧ decide (c ≤ 159) = true))))) := by
  unfold goodT okT
  by_cases h0 : 0 ≤ c
  · cases hk : okU c.toNat with
    | false => right; simp
    | true =>
      by_cases h1 : c < 32
      · right; simp [h0, h1] <;> omega
      · by_cases h2 : 127 ≤ c
        · by_cases h3 : c ≤ 159
          · right; simp [h0, h1, h2, h3] <;> omega
          · left; simp [h0, h1, h2, h3] <;> omega
        · left; simp [h0, h1, h2] <;> omega
  · right; simp [h0]
set_option maxHeartbeats 8000000 in
theorem lTitle (w0 : World) (S : List Blk) (l : List Int) (R : AOut → List Blk → Prop) (h : R (.ret (.str (titleS l))) S) : ACall Tryz.prog w0 16 [.sval false (l.map CoI)] S R := by
  refine enter Tryz.func16 rfl (by decide +kernel) (by rw [Tryz.ntmps16]; simp) (by rw [Tryz.ntmps16]; decide) (fun hO => ?_); rw [Tryz.ntmps16]
  repeat' first | refine st ?_ | (refine br ?_ ?_; all_goals (intro hb; try simp only [Bool.not_eq_true', Bool.not_eq_false'] at hb)) | fail
  refine x_ind (fun (i : Nat) env S' => i ≤ l.length ∧ i ≤ 200 ∧ env 1000000 = .dfr [] ∧ env 0 = .sval false (l.map CoI) ∧ env 3 = .str (textS (titleF l i)) ∧ env 4 = .int .i64 (i : Int) ∧ S' = S) (fun i => 200 - i) 0 ?_ ?_
  · exact ⟨Nat.zero_le _, by decide, by (simp only [go_sem, *]; try rfl), by (simp only [go_sem, *]; try rfl), by (simp only [go_sem, *]; try rfl), by (simp only [go_sem, *]; try rfl), by (simp only [go_sem, *]; try rfl)⟩
  · rintro i env S' ⟨hi, hi2, e0, f0, f3, f4, rfl⟩ IH
    have HI := Lib.hid IH
    have H := Lib.hid h
    clear IH h
    by_cases hlt : i < l.length ∧ i < 200
    · obtain ⟨hl1, hl2⟩ := hlt
      obtain ⟨c, hx⟩ : ∃ c, l[i]? = some c := ⟨_, List.getElem?_eq_getElem hl1⟩
      have d0 : decide ((i : Int) < (l.length : Int)) = true := by simpa using hl1
      have d1 : decide ((i : Int) < 200) = true := by simp; omega
      have hw1 : IntKind.i64.wrap ((i : Int) + 1) = ((i + 1 : Nat) : Int) := by rw [IntWalk.i64_in _ (by omega)]; omega
      have hsu := titleF_succ hx
      have htl := titleF_len l i
      generalize titleF l i = o at f3 hsu htl
      have hck := fun S' => rCheckI w0 S' c
      have hfl : fixT c < 4294967296 := by
        have := (fixT_ok c).1
        unfold okU at this
        simp at this
        omega
      have hpu := fun S' => rPut w0 S' (fixT c) hfl
      have hfv := fix_val c
      have hgv : goodT c = true → c = ((fixT c : Nat) : Int) := fun hg => by
        unfold fixT
        rw [if_pos hg]
        unfold goodT at hg
        simp at hg
        omega
      have hps := (putS_len (fixT c)).2
      unfold titleStep at hsu
      have htx := textS_app o (fixT c)
      have hgc := good_cases c
      generalize hf : fixT c = f at hpu hfv hgv hps hsu htx hfl
      have hle : IntKind.i64.wrap (((textS o).length : Int) + ((putS f).length : Int)) = (((textS o).length + (putS f).length : Nat) : Int) := by rw [IntWalk.i64_in _ (by omega)]; omega
      have hadd : (textS o).length + (putS f).length ≤ 9223372036854775807 := by omega
      have hQ : (decide ((((textS o).length + (putS f).length : Nat) : Int) ≤ 510) = true ∧ textS (titleF l (i + 1)) = textS o ++ putS f) ∨ (decide ((((textS o).length + (putS f).length : Nat) : Int) ≤ 510) = false ∧ textS (titleF l (i + 1)) = textS o) := by
        by_cases hq : (textS o).length + (putS f).length ≤ 510
        · left
          rw [if_pos hq] at hsu
          rw [hsu]
          exact ⟨by simp; omega, htx⟩
        · right
          rw [if_neg hq] at hsu
          rw [hsu]
          exact ⟨by simp; omega, rfl⟩
      generalize textS o = x at f3 hle hadd hQ
      generalize putS f = y at hpu hle hadd hQ
      generalize hnx : textS (titleF l (i + 1)) = nx at hQ
      have Hf := Lib.hid (And.intro hl1 (And.intro hl2 hnx))
      clear hi hi2 hl1 hl2 hsu htl hps htx hf hfl hnx
      rcases hgc with ⟨hg, hb, d2, d3 | ⟨d3, d4⟩⟩ | ⟨hg, hb | ⟨hb, d2 | ⟨d2, d3, d4⟩⟩⟩
      all_goals
        rw [hb] at hck
        first
        | (have hcf := hgv hg; rw [hcf] at hck d2 d3 hx; (try rw [hcf] at d4); clear hgv hfv hg hb hcf)
        | (have hv := hfv hg; clear hgv hfv hg hb)
        rcases hQ with ⟨d5, rfl⟩ | ⟨d5, rfl⟩
        all_goals
          repeat' first | apply x_seq | apply x_skip | apply x_block | apply x_exit | apply x_ret | apply x_ops_nil | apply p_blk | apply p_exit_it | apply p_exit_hit | apply p_ret_it | apply p_ret_blk | apply p_panic_it | apply p_panic_blk | apply p_end | (apply p_exit_miss; (· rfl)) | (apply x_region; simp only [List.toList_toArray]) | (apply x_step0; (· rfl); (· simp only [go_sem, *, CoI]; try rfl); (· rfl); simp only [putA]) | (apply ac_ret; simp only [putA]) | apply ac_panic | (apply x_callA []; (· simp only [go_sem, *, CoI]; try rfl); (· rfl); (· simp only [go_sem, *, CoI]; try rfl); (· rfl); (iterate 2 (· simp only [go_sem, *, CoI]; try rfl)); (first | apply hck | apply hpu); simp only [afterCall, putA]) | (apply x_panic; (· simp only [go_sem, *, CoI]; try rfl); (· rfl); (· simp only [go_sem, *, CoI]; try rfl)) | (apply x_step; (iterate 2 (· simp only [go_sem, *, CoI]; try rfl)); (· rfl); simp only [putA]) | (apply x_unwanted; (· simp only [go_sem, *, CoI]; try rfl); (· rfl); simp only [putA]) | (apply x_condT; (· simp only [go_sem, *, CoI]; try rfl)) | (apply x_condF; (· simp only [go_sem, *, CoI]; try rfl)) | (apply x_guardS; (· rfl); (fail_if_success (focus (show _ = some true; (· simp only [go_sem, *, CoI]; try rfl)))); (· simp only [go_sem, *, CoI]; try rfl); all_goals (intro hb; try simp only [Bool.not_eq_true', Bool.not_eq_false'] at hb)) | (apply x_condS; (· simp only [go_sem, *, CoI]; try rfl); all_goals (intro hb; try simp only [Bool.not_eq_true', Bool.not_eq_false'] at hb)) | fail
          obtain ⟨hl1, hl2, hnx⟩ := Hf.out
          refine HI.out (i + 1) _ _ (by omega) ⟨hl1, hl2, ?_, ?_, ?_, ?_, rfl⟩
          · (simp only [go_sem, *]; try rfl)
          · (simp only [go_sem, *]; try rfl)
          · rw [hnx]; (simp only [go_sem, *]; try rfl)
          · (simp only [go_sem, *]; try rfl)
    · have hq : (decide ((i : Int) < (l.length : Int)) = false) ∨ (decide ((i : Int) < (l.length : Int)) = true ∧ decide ((i : Int) < 200) = false) := by simp; omega
      have et : titleS l = textS (titleF l i) := by
        unfold titleS titleC titleF
        by_cases hh : l.length ≤ 200
        · have : i = l.length := by omega
          subst this
          rw [List.take_of_length_le hh, List.take_length]
        · have : i = 200 := by omega
          rw [this]
      have hh := H.out
      rw [et] at hh
      clear hi hi2 hlt et H HI
      rcases hq with d0 | ⟨d0, d1⟩
      all_goals
        repeat' first | refine st ?_ | (refine br ?_ ?_; all_goals (intro hb; try simp only [Bool.not_eq_true', Bool.not_eq_false'] at hb)) | fail
        (apply f_ret; iterate 7 (· simp only [go_sem, *, Tryz.results16]; try rfl))
        exact hh
end Go.Proofs.YtfnnjkbhmoomjaaGreatDoor
namespace Go.Proofs.YtfnnjkbhmoomjaaGreatDoor
open Go Go.Fen
set_option linter.unusedSimpArgs false
set_option linter.unusedVariables false
attribute [local irreducible] RunX WP ACall AnyP OpA ProtL afterCall afterOp
set_option maxRecDepth 8000
def draftV (w n rgb : Nat) (codes : List Int) (clip : List UInt8) : AV := .agg [.int .u8 w, .int .u8 n, .int .u32 rgb, .sval false (codes.map CoI), .str clip]
set_option maxHeartbeats 4000000 in
theorem lDraft (w0 : World) (S : List Blk) (w n rgb : Nat) (hn : n < 256) (codes : List Int) (clip : List UInt8) (R : AOut → List Blk → Prop) (h : R (.ret (draftA w n rgb codes clip).av) S) : ACall Tryz.prog w0 9 [draftV w n rgb codes clip] S R := by
  have hw := tmK w 3
  have hw3 : w % 3 = 0 ∨ w % 3 = 1 ∨ w % 3 = 2 := by omega
  unfold draftA at h
  unfold draftV
  rcases hw3 with e | e | e
  · rw [e] at hw h
    have hw : (w : Int).tmod 3 = 0 := hw
    have h : R (.ret (.agg [.int .i64 44, .int .i64 0, .int .i64 0, .int .i64 0, .int .i64 0, .str (titleS codes)])) S := h
    have ht := fun S' => lTitle w0 S' codes
    clear e hn
    refine enter Tryz.func9 rfl (by decide +kernel) (by rw [Tryz.ntmps9]; simp) (by rw [Tryz.ntmps9]; decide) (fun hO => ?_); rw [Tryz.ntmps9]
    repeat' first | refine st ?_ | (refine ca ?_; first | apply ht) | (refine br ?_ ?_; all_goals (intro hb; try simp only [Bool.not_eq_true', Bool.not_eq_false'] at hb)) | fail
    (apply f_ret; iterate 7 (· simp only [go_sem, *, Tryz.results9]; try rfl))
    exact h
  · rw [e] at hw h
    have hw : (w : Int).tmod 3 = 1 := hw
    have h : R (.ret (.agg [.int .i64 45, .int .i64 n, .int .i64 0, .int .i64 2, .int .i64 ((rgb % 16777216 : Nat) : Int), .str []])) S := h
    have k1 : IntKind.i64.wrap (n : Int) = (n : Int) := IntWalk.i64_in _ (by omega)
    have k2 : (rgb : Int).tmod 16777216 = ((rgb % 16777216 : Nat) : Int) := tmK rgb 16777216
    have k3 : IntKind.i64.wrap ((rgb % 16777216 : Nat) : Int) = ((rgb % 16777216 : Nat) : Int) := IntWalk.i64_in _ (by omega)
    clear e hn
    refine enter Tryz.func9 rfl (by decide +kernel) (by rw [Tryz.ntmps9]; simp) (by rw [Tryz.ntmps9]; decide) (fun hO => ?_); rw [Tryz.ntmps9]
    repeat' first | refine st ?_ | (refine br ?_ ?_; all_goals (intro hb; try simp only [Bool.not_eq_true', Bool.not_eq_false'] at hb)) | fail
    (apply f_ret; iterate 7 (· simp only [go_sem, *, Tryz.results9]; try rfl))
    exact h
  · rw [e] at hw h
    have hw : (w : Int).tmod 3 = 2 := hw
    have hmn : (if (378 : Int) < (clip.length : Int) then 378 else (clip.length : Int)) = ((min clip.length 378 : Nat) : Int) := by split <;> omega
    have hm2 : ((min clip.length 378 : Nat) : Int) ≤ (clip.length : Int) := by omega
    have hq : List.take (min clip.length 378) clip = clip.take 378 := by rw [Nat.min_comm, ← List.take_take, List.take_length]
    have h : R (.ret (.agg [.int .i64 46, .int .i64 0, .int .i64 0, .int .i64 0, .int .i64 0, .str (clip.take 378)])) S := h
    generalize clip.take 378 = q at h hq
    clear e hn
    refine enter Tryz.func9 rfl (by decide +kernel) (by rw [Tryz.ntmps9]; simp) (by rw [Tryz.ntmps9]; decide) (fun hO => ?_); rw [Tryz.ntmps9]
    repeat' first | refine st ?_ | (refine br ?_ ?_; all_goals (intro hb; try simp only [Bool.not_eq_true', Bool.not_eq_false'] at hb)) | fail
    (apply f_ret; iterate 7 (· simp only [go_sem, *, Tryz.results9]; try rfl))
    exact h
end Go.Proofs.YtfnnjkbhmoomjaaGreatDoor
namespace Go.Proofs.YtfnnjkbhmoomjaaGreatDoor
open Go Go.Fen
set_option linter.unusedSimpArgs false
set_option linter.unusedVariables false
attribute [local irreducible] RunX WP ACall AnyP OpA ProtL afterCall afterOp
set_option maxRecDepth 8000
open Go.ChangeShapes Go.WideShapes Go.ChangeAt Go.RowKit
theorem own : ownKnob Tryz.prog.godebug = none := by kernel_rfl
theorem laid_mem {P : Program} {W : World} {nm : String} {d : DataW Unit} : ∀ {l : List (String × DataW Unit)} {ps : List MemPlace}, DataW.LaidVars P W l ps → (nm, d) ∈ l →
    ∃ g t cs fuel p, P.globalNamed nm = some g ∧ (P.globals[g]?).map (·.type) = some t ∧ W.var? P nm = some cs ∧ DataW.trod (fun _ => ()) P W 0 (fun _ => true) false fuel t cs.toList = some (d, p) := by
  intro l
  induction l with
  | nil => intro ps _ h; cases h
  | cons x l ih =>
    intro ps h hm
    obtain ⟨nm', d'⟩ := x
    obtain ⟨g, t, cs, fuel, p, q, h1, h2, h3, h4, h5, _⟩ := h
    rcases List.mem_cons.1 hm with e | hm
    · cases e; exact ⟨g, t, cs, fuel, p, h1, h2, h3, h4⟩
    · exact ih h5 hm
def seatLaid : List (String × DataW Unit) := [("math/bits.deBruijn32tab", Rows.laid_math_bits_deBruijn32tab), ("math/bits.deBruijn64tab", Rows.laid_math_bits_deBruijn64tab), ("internal/strconv.uint64pow10", Rows.laid_internal_strconv_uint64pow10), ("unicode/utf8.acceptRanges", Rows.laid_unicode_utf8_acceptRanges), ("strconv.ErrRange", Rows.laid_strconv_ErrRange), ("strconv.ErrSyntax", Rows.laid_strconv_ErrSyntax), ("fenestra/color.named", Rows.laid_fenestra_color_named), ("unicode/utf8.first", Rows.laid_unicode_utf8_first)]
theorem gPow : Tryz.prog.globalNamed "internal/strconv.uint64pow10" = some 4 := by kernel_rfl
theorem gSyn : Tryz.prog.globalNamed "strconv.ErrSyntax" = some 2 := by kernel_rfl
theorem tab_of {W : World} (h : laidMetH Tryz.prog seatLaid W) : Tab W := by
  rw [MakeChecks.laidMetH_plain _ _ _ (by kernel_rfl)] at h
  obtain ⟨ps, hl, _⟩ := h
  obtain ⟨g, t, cs, fuel, p, h1, h2, h3, h4⟩ := laid_mem (nm := "internal/strconv.uint64pow10") (d := Rows.laid_internal_strconv_uint64pow10) hl (by simp [seatLaid])
  obtain rfl := Option.some.inj (gPow.symm.trans h1)
  obtain rfl := Option.some.inj ((show (Tryz.prog.globals[4]?).map (·.type) = some 176 by kernel_rfl).symm.trans h2)
  have h5 := Lib.cells_of_tab (k := .u64) (zs := Lib.pow10Tab) (un_176) (un_106) (by kernel_rfl) (by kernel_rfl) h4
  unfold Tab Lib.TabIs
  rw [h3, ← h5]
theorem syn_of {W : World} (h : laidMetH Tryz.prog seatLaid W) : Syn W := by
  rw [MakeChecks.laidMetH_plain _ _ _ (by kernel_rfl)] at h
  obtain ⟨ps, hl, _⟩ := h
  obtain ⟨g, t, cs, fuel, p, h1, h2, h3, h4⟩ := laid_mem (nm := "strconv.ErrSyntax") (d := Rows.laid_strconv_ErrSyntax) hl (by simp [seatLaid])
  obtain rfl := Option.some.inj (gSyn.symm.trans h1)
  obtain rfl := Option.some.inj ((show (Tryz.prog.globals[2]?).map (·.type) = some 85 by kernel_rfl).symm.trans h2)
  cases fuel with
  | zero => simp [DataW.trod] at h4
  | succ fuel =>
  simp only [DataW.trod, un_85] at h4
  have hc := World.var?_cell gSyn h3 0
  match hcs : cs.toList, h4 with
  | [.nilIface], _ => exact ⟨.nilIface, by rw [hc, ← Array.getElem?_toList, hcs]; rfl, .inl rfl⟩
  | [.iface u v], _ => exact ⟨.iface u v, by rw [hc, ← Array.getElem?_toList, hcs]; rfl, .inr ⟨u, v, rfl⟩⟩
theorem gRng : Tryz.prog.globalNamed "strconv.ErrRange" = some 3 := by kernel_rfl
theorem rng_of {W : World} (h : laidMetH Tryz.prog seatLaid W) : Rng W := by
  rw [MakeChecks.laidMetH_plain _ _ _ (by kernel_rfl)] at h
  obtain ⟨ps, hl, _⟩ := h
  obtain ⟨g, t, cs, fuel, p, h1, h2, h3, h4⟩ := laid_mem (nm := "strconv.ErrRange") (d := Rows.laid_strconv_ErrRange) hl (by simp [seatLaid])
  obtain rfl := Option.some.inj (gRng.symm.trans h1)
  obtain rfl := Option.some.inj ((show (Tryz.prog.globals[3]?).map (·.type) = some 85 by kernel_rfl).symm.trans h2)
  cases fuel with
  | zero => simp [DataW.trod] at h4
  | succ fuel =>
  simp only [DataW.trod, un_85] at h4
  have hc := World.var?_cell gRng h3 0
  match hcs : cs.toList, h4 with
  | [.nilIface], _ => exact ⟨.nilIface, by rw [hc, ← Array.getElem?_toList, hcs]; rfl, .inl rfl⟩
  | [.iface u v], _ => exact ⟨.iface u v, by rw [hc, ← Array.getElem?_toList, hcs]; rfl, .inr ⟨u, v, rfl⟩⟩
theorem gl_tab {W : World} {nm : String} {g : Nat} {cs : Array Value} {k : IntKind} {zs : List Int} (hg : Tryz.prog.globalNamed nm = some g) (h : W.var? Tryz.prog nm = some cs) (hc : cs.toList = zs.map fun z => Value.int k z) : gl W g = .pro (zs.map fun z => AV.int k z) := by
  unfold World.var? at h
  rw [hg] at h
  simp only [Option.bind_some] at h
  unfold gl
  split at h
  · next c T fz hh =>
    cases h
    rw [hh]
    simp only [hc]
    have hall : (zs.map fun z => Value.int k z).all Value.oneCell' = true := by
      rw [List.all_eq_true]
      intro x hx
      obtain ⟨z, _, rfl⟩ := List.mem_map.1 hx
      rfl
    rw [hall, if_pos rfl, List.map_map]
    rfl
  · cases h
theorem gDeb : Tryz.prog.globalNamed "math/bits.deBruijn64tab" = some 8 := by kernel_rfl
theorem gNam : Tryz.prog.globalNamed "fenestra/color.named" = some 1 := by kernel_rfl
theorem deb_of {W : World} (h : laidMetH Tryz.prog seatLaid W) : DeB W := by
  rw [MakeChecks.laidMetH_plain _ _ _ (by kernel_rfl)] at h
  obtain ⟨ps, hl, _⟩ := h
  obtain ⟨g, t, cs, fuel, p, h1, h2, h3, h4⟩ := laid_mem (nm := "math/bits.deBruijn64tab") (d := Rows.laid_math_bits_deBruijn64tab) hl (by simp [seatLaid])
  obtain rfl := Option.some.inj (gDeb.symm.trans h1)
  obtain rfl := Option.some.inj ((show (Tryz.prog.globals[8]?).map (·.type) = some 192 by kernel_rfl).symm.trans h2)
  have h5 := Lib.cells_of_tab (k := .u8) (zs := [0, 1, 56, 2, 57, 49, 28, 3, 61, 58, 42, 50, 38, 29, 17, 4, 62, 47, 59, 36, 45, 43, 51, 22, 53, 39, 33, 30, 24, 18, 12, 5, 63, 55, 48, 27, 60, 41, 37, 16, 46, 35, 44, 21, 52, 32, 23, 11, 54, 26, 40, 15, 34, 20, 31, 10, 25, 14, 19, 9, 13, 8, 7, 6]) (un_192) (un_5) (by kernel_rfl) (by kernel_rfl) h4
  exact gl_tab gDeb h3 h5
theorem nam_of {W : World} (h : laidMetH Tryz.prog seatLaid W) : Nam W := by
  rw [MakeChecks.laidMetH_plain _ _ _ (by kernel_rfl)] at h
  obtain ⟨ps, hl, _⟩ := h
  obtain ⟨g, t, cs, fuel, p, h1, h2, h3, h4⟩ := laid_mem (nm := "fenestra/color.named") (d := Rows.laid_fenestra_color_named) hl (by simp [seatLaid])
  obtain rfl := Option.some.inj (gNam.symm.trans h1)
  obtain rfl := Option.some.inj ((show (Tryz.prog.globals[1]?).map (·.type) = some 147 by kernel_rfl).symm.trans h2)
  have h5 := Lib.cells_of_tab (k := .i64) (zs := [0, 13434880, 52480, 13487360, 238, 13435085, 52685, 15066597, 8355711, 16711680, 65280, 16776960, 6053119, 16711935, 65535, 16777215]) (un_147) (un_3) (by kernel_rfl) (by kernel_rfl) h4
  exact gl_tab gNam h3 h5
theorem parse_of {W : World} (h : laidMetH Tryz.prog seatLaid W) : ParseOk W := parseOk W (syn_of h) (rng_of h)
theorem print_of {W : World} (h : laidMetH Tryz.prog seatLaid W) : PrintOk W := printOk W (tab_of h) (deb_of h) (nam_of h)
def draftSk : Sk := .cons (.int .u8) (.cons (.int .u8) (.cons (.int .u32) (.cons (.sl (.int .i64)) (.cons .str .nil))))
def acSk : Sk := .cons (.int .i64) (.cons (.int .i64) (.cons (.int .i64) (.cons (.cons (.int .i64) (.cons (.int .i64) .nil)) (.cons .str .nil))))
theorem wf_nat {k : IntKind} {n : Int} (h : (Lit.int k n).wf = true) (hk : k.min = 0) : ((n.toNat : Nat) : Int) = n := by
  simp only [Lit.wf, Bool.and_eq_true, decide_eq_true_eq, hk] at h
  omega
theorem wf_max {k : IntKind} {n : Int} (h : (Lit.int k n).wf = true) : n ≤ k.max := by
  simp only [Lit.wf, Bool.and_eq_true, decide_eq_true_eq] at h
  omega
theorem els_int : ∀ els : List (List AV), (∀ y ∈ els, (Sk.int .i64).has y) → ∃ l : List Int, els.map (Sk.int .i64).mk = l.map CoI := by
  intro els
  induction els with
  | nil => intro _; exact ⟨[], rfl⟩
  | cons y els ih =>
    intro hh
    obtain ⟨x, rfl, _⟩ := hh y (List.mem_cons_self ..)
    obtain ⟨l, hl⟩ := ih fun z hz => hh z (List.mem_cons_of_mem _ hz)
    exact ⟨x :: l, by simp only [List.map_cons, hl]; rfl⟩
theorem open_draft (y : List AV) (h : draftSk.has y) : ∃ (w n r : Nat) (c : List Int) (t : List UInt8), n < 256 ∧ draftSk.mk y = draftV w n r c t := by
  obtain ⟨_, _, rfl, ⟨a, rfl, ha⟩, _, _, rfl, ⟨b, rfl, hb⟩, _, _, rfl, ⟨c, rfl, hc⟩, _, _, rfl, ⟨els, rfl, _, he⟩, _, _, rfl, ⟨s, rfl, _⟩, rfl⟩ := h
  obtain ⟨l, hl⟩ := els_int els he
  have h1 := wf_max hb
  have h2 : IntKind.u8.max = 255 := by decide
  have h3 := wf_nat hb rfl
  refine ⟨a.toNat, b.toNat, c.toNat, l, s, by omega, ?_⟩
  simp [Sk.mk, draftSk, Sk.isAgg, draftV, wf_nat ha rfl, h3, wf_nat hc rfl, ← hl]
  try rfl
theorem open_ac (y : List AV) (h : acSk.has y) : ∃ a : Ac, acSk.mk y = a.av := by
  obtain ⟨_, _, rfl, ⟨a, rfl, _⟩, _, _, rfl, ⟨b, rfl, _⟩, _, _, rfl, ⟨c, rfl, _⟩, _, _, rfl, ⟨_, _, rfl, ⟨d, rfl, _⟩, _, _, rfl, ⟨e, rfl, _⟩, rfl⟩, _, _, rfl, ⟨s, rfl, _⟩, rfl⟩ := h
  exact ⟨⟨a, b, c, d, e, s⟩, rfl⟩
theorem laidOut : laidOutB Tryz.prog = true := by kernel_rfl
end Go.Proofs.YtfnnjkbhmoomjaaGreatDoor
namespace Go.Proofs.YtfnnjkbhmoomjaaGreatDoor
open Go Go.Fen
set_option linter.unusedSimpArgs false
set_option linter.unusedVariables false
attribute [local irreducible] RunX WP ACall AnyP OpA ProtL afterCall afterOp
set_option maxRecDepth 8000
theorem lTitled (w0 : World) (S : List Blk) (s : List UInt8) (R : AOut → List Blk → Prop) (h : R (.ret (Ac.av ⟨44, 0, 0, 0, 0, s⟩)) S) : ACall Tryz.prog w0 17 [.str s] S R := by
  unfold Ac.av at h
  refine enter Tryz.func17 rfl (by decide +kernel) (by rw [Tryz.ntmps17]; simp) (by rw [Tryz.ntmps17]; decide) (fun hO => ?_); rw [Tryz.ntmps17]
  repeat' first | refine st ?_ | (refine br ?_ ?_; all_goals (intro hb; try simp only [Bool.not_eq_true', Bool.not_eq_false'] at hb)) | fail
  (apply f_ret; iterate 7 (· simp only [go_sem, *, Tryz.results17]; try rfl))
  exact h
theorem lClip (w0 : World) (S : List Blk) (s : List UInt8) (R : AOut → List Blk → Prop) (h : R (.ret (Ac.av ⟨46, 0, 0, 0, 0, s⟩)) S) : ACall Tryz.prog w0 20 [.str s] S R := by
  unfold Ac.av at h
  refine enter Tryz.func20 rfl (by decide +kernel) (by rw [Tryz.ntmps20]; simp) (by rw [Tryz.ntmps20]; decide) (fun hO => ?_); rw [Tryz.ntmps20]
  repeat' first | refine st ?_ | (refine br ?_ ?_; all_goals (intro hb; try simp only [Bool.not_eq_true', Bool.not_eq_false'] at hb)) | fail
  (apply f_ret; iterate 7 (· simp only [go_sem, *, Tryz.results20]; try rfl))
  exact h
theorem lPalette (w0 : World) (S : List Blk) (n c : Int) (R : AOut → List Blk → Prop) (h : R (.ret (Ac.av ⟨45, n, 0, 2, c, []⟩)) S) : ACall Tryz.prog w0 22 [.int .i64 n, .int .i64 c] S R := by
  unfold Ac.av at h
  refine enter Tryz.func22 rfl (by decide +kernel) (by rw [Tryz.ntmps22]; simp) (by rw [Tryz.ntmps22]; decide) (fun hO => ?_); rw [Tryz.ntmps22]
  repeat' first | refine st ?_ | (refine br ?_ ?_; all_goals (intro hb; try simp only [Bool.not_eq_true', Bool.not_eq_false'] at hb)) | fail
  (apply f_ret; iterate 7 (· simp only [go_sem, *, Tryz.results22]; try rfl))
  exact h
end Go.Proofs.YtfnnjkbhmoomjaaGreatDoor
