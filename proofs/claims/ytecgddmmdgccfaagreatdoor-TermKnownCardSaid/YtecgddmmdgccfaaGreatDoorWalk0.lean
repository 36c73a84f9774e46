/- YtecgddmmdgccfaaGreatDoorWalk0. Texts of the proof of a law about texts: a layer of abstract values above the worlds, the types, the walks of the functions that the law reaches, the law and its card. Own work of an AI agent. -/
import Derived.Test.YtecgddmmdgccfaaGreatDoorCore2
import Derived.Test.YtecgddmmdgccfaaGreatDoorCore1
import Derived.Test.YtecgddmmdgccfaaGreatDoorTy
import Derived.Test.YtecgddmmdgccfaaGreatDoorCore4
import Derived.Test.YtecgddmmdgccfaaGreatDoorCore3
import Derived.Shelf.Lays
import Derived.Shelf.Abstract
import Derived.Shelf.Bits.Mul64
import Derived.Test.YtecgddmmdgccfaaGreatDoorShelf
import Derived.Shelf.Strings.OnBuilder
import Derived.Shelf.Spec.SlicesGrow
set_option linter.all false
set_option linter.unusedVariables false
set_option linter.unusedSimpArgs false
namespace Go.Proofs.YtecgddmmdgccfaaGreatDoor
open Go Go.Fen
set_option linter.unusedSimpArgs false
set_option linter.unusedVariables false
attribute [local irreducible] RunX WP ACall AnyP OpA ProtL afterCall afterOp
set_option maxRecDepth 8000
structure Ac where
  kind : Int
  n : Int
  m : Int
  ck : Int
  cn : Int
  text : List UInt8
  deriving DecidableEq
def Ac.av (a : Ac) : AV := .agg [.int .i64 a.kind, .int .i64 a.n, .int .i64 a.m, .int .i64 a.ck, .int .i64 a.cn, .str a.text]
def acN (k n m : Int) : Ac := ⟨k, n, m, 0, 0, []⟩
def ctlT : List (Int × Ac) := [(7, acN 2 0 0), (8, acN 3 0 0), (9, acN 4 0 0), (10, acN 5 0 0), (11, acN 5 0 0), (12, acN 5 0 0), (13, acN 6 0 0), (14, acN 7 1 0), (15, acN 7 0 0)]
def ctlF (c : Int) : Option Ac := (ctlT.find? fun p => c == p.1).map (·.2)
structure Wy where
  pv : Nat
  inter : List UInt8
  fn : Nat
  deriving DecidableEq
def Wy.av (w : Wy) : AV := .agg [.int .u8 w.pv, .str w.inter, .int .u8 w.fn]
def bareT : List (Nat × Ac) := [(68, acN 8 0 0), (69, acN 9 0 0), (72, acN 10 0 0), (77, acN 11 0 0), (78, acN 18 2 0), (79, acN 18 3 0), (55, acN 12 0 0), (56, acN 13 0 0), (61, acN 14 1 0), (62, acN 14 0 0), (99, acN 15 0 0)]
def escT : List (Wy × Ac) := (⟨0, [35], 56⟩, acN 16 0 0) :: (bareT.map fun p => (⟨0, [], p.1⟩, p.2)) ++
  [(⟨0, [40], 66⟩, acN 17 0 0), (⟨0, [40], 48⟩, acN 17 0 1), (⟨0, [41], 66⟩, acN 17 1 0), (⟨0, [41], 48⟩, acN 17 1 1), (⟨0, [42], 66⟩, acN 17 2 0), (⟨0, [42], 48⟩, acN 17 2 1), (⟨0, [43], 66⟩, acN 17 3 0), (⟨0, [43], 48⟩, acN 17 3 1)]
def escF (w : Wy) : Option Ac := (escT.find? fun p => w == p.1).map (·.2)
inductive Sq where
  | cnt (k : Int)
  | first (k : Int)
  | way (k n : Int)
  | cursor
  | modes (k bit : Int)
  | ask (n : Int)
  | margins
  | const (k : Int)
  | pens
  | shape
  | askMode (n : Int)
def countsT : List (Nat × Int) := [(71, 22), (96, 22), (100, 23), (73, 24), (90, 25), (64, 28), (80, 29), (88, 30), (76, 31), (77, 32), (98, 34)]
def choicesT : List (Nat × Int) := [(74, 26), (75, 27), (103, 35), (110, 41)]
def waysT : List (Nat × Int × Int) := [(65, 20, 0), (66, 20, 1), (67, 20, 2), (68, 20, 3), (69, 21, 0), (70, 21, 1), (83, 33, 0), (84, 33, 1)]
def seqT : List (Wy × Sq) := (countsT.map fun p => (⟨0, [], p.1⟩, Sq.cnt p.2)) ++ (choicesT.map fun p => (⟨0, [], p.1⟩, Sq.first p.2)) ++ (waysT.map fun p => (⟨0, [], p.1⟩, Sq.way p.2.1 p.2.2)) ++
  [(⟨0, [], 72⟩, .cursor), (⟨0, [], 102⟩, .cursor), (⟨0, [], 108⟩, .modes 36 0), (⟨63, [], 108⟩, .modes 37 0), (⟨0, [], 104⟩, .modes 36 1), (⟨63, [], 104⟩, .modes 37 1), (⟨0, [], 99⟩, .ask 0), (⟨62, [], 99⟩, .ask 1), (⟨0, [], 114⟩, .margins), (⟨0, [], 115⟩, .const 12), (⟨0, [], 117⟩, .const 13), (⟨0, [], 109⟩, .pens),
  (⟨0, [32], 113⟩, .shape), (⟨0, [33], 112⟩, .const 15), (⟨0, [36], 112⟩, .askMode 0), (⟨63, [36], 112⟩, .askMode 1)]
def seqF (w : Wy) : Option Sq := (seqT.find? fun p => w == p.1).map (·.2)
theorem aAc (w0 : World) (S : List Blk) (k n m : Int) (R : AOut → List Blk → Prop) (h : R (.ret (.agg [.int .i64 k, .int .i64 n, .int .i64 m, .int .i64 0, .int .i64 0, .str []])) S) : ACall Tryz.prog w0 105 [.int .i64 k, .int .i64 n, .int .i64 m] S R := by
  refine eN Tryz.func105 rfl Tryz.ntmps105 fun hO => ?_
  repeat' first | refine st ?_ | (refine br ?_ ?_ <;> intro hb) | fail
  refine fR Tryz.results105 ?_
  exact h
end Go.Proofs.YtecgddmmdgccfaaGreatDoor
namespace Go.Proofs.YtecgddmmdgccfaaGreatDoor
open Go Go.Fen
set_option linter.unusedSimpArgs false
set_option linter.unusedVariables false
attribute [local irreducible] RunX WP ACall AnyP OpA ProtL afterCall afterOp
set_option maxRecDepth 8000
def actV (k n m : Int) : AV := .agg [.int .i64 k, .int .i64 n, .int .i64 m, .int .i64 0, .int .i64 0, .str []]
theorem acN_av (k n m : Int) : (acN k n m).av = actV k n m := rfl
def bareA : List (AV × AV) := bareT.map fun p => (.int .u8 p.1, p.2.av)
def escA : List (AV × AV) := escT.map fun p => (p.1.av, p.2.av)
def fEs (e : AV × AV) : AV × AV := (.agg [.int .u8 0, .str [], e.1], e.2)
def hashE : AV × AV := (.agg [.int .u8 0, .str [35], .int .u8 56], actV 16 0 0)
theorem bare_mem {e : AV × AV} (h : e ∈ bareA) : ∃ (n : Int) (k a m : Int), e = (.int .u8 n, actV k a m) := by
  unfold bareA at h
  obtain ⟨⟨n, x⟩, hp, rfl⟩ := List.mem_map.1 h
  have : ∃ k a m, x = acN k a m := by
    simp only [bareT, List.mem_cons, List.not_mem_nil, or_false, Prod.mk.injEq] at hp
    rcases hp with ⟨_, rfl⟩ | ⟨_, rfl⟩ | ⟨_, rfl⟩ | ⟨_, rfl⟩ | ⟨_, rfl⟩ | ⟨_, rfl⟩ | ⟨_, rfl⟩ | ⟨_, rfl⟩ | ⟨_, rfl⟩ | ⟨_, rfl⟩ | ⟨_, rfl⟩
    all_goals exact ⟨_, _, _, rfl⟩
  obtain ⟨k, a, m, rfl⟩ := this
  exact ⟨n, k, a, m, rfl⟩
theorem bare_nodup : (bareA.map Prod.fst).Nodup := by
  simp [bareA, bareT]
theorem ltP_ent {es : List (AV × AV)} (h : ∀ x ∈ es, ∃ k a j q m, x = (.int k a, actV j q m)) (n : Nat) : ltP n es = true := by
  rw [ltP_iff]
  intro x hx
  obtain ⟨k, a, j, q, m, rfl⟩ := h x hx
  exact ⟨rfl, rfl⟩
theorem ltP_entA {es : List (AV × AV)} (h : ∀ x ∈ es, ∃ a s b j q m, x = (.agg [.int .u8 a, .str s, .int .u8 b], actV j q m)) (n : Nat) : ltP n es = true := by
  rw [ltP_iff]
  intro x hx
  obtain ⟨k, a, j, q, m, _, rfl⟩ := h x hx
  exact ⟨rfl, rfl⟩
theorem way_key (a : Int) (s : List UInt8) (b : Int) : keyA Tryz.prog 198 (.agg [.int .u8 a, .str s, .int .u8 b]) = true := by
  simp [keyA, keyB, keyFs, go_sem]
theorem bare_new {vis rest : List (AV × AV)} {e : AV × AV} (hp : bareA.Perm (vis ++ e :: rest)) : (fEs e).1 ∉ (hashE :: vis.map fEs).map Prod.fst := by
  have h1 := (hp.map Prod.fst).nodup_iff.1 bare_nodup
  rw [List.map_append, List.nodup_append] at h1
  rw [List.map_cons, List.map_map]
  intro hm
  rcases List.mem_cons.1 hm with hm | hm
  · have := congrArg (fun x => match x with | AV.agg [_, AV.str s, _] => s | _ => []) hm
    simp [fEs, hashE] at this
  · obtain ⟨x, hx, he⟩ := List.mem_map.1 hm
    have hxe : x.1 = e.1 := by
      simp only [Function.comp_def, fEs, AV.agg.injEq, List.cons.injEq, true_and, and_true] at he
      exact he
    exact h1.2.2 _ (List.mem_map.2 ⟨x, hx, rfl⟩) _ (List.mem_map.2 ⟨e, List.mem_cons_self .., rfl⟩) hxe
set_option maxHeartbeats 40000000 in
theorem aEscapes (w0 : World) (S : List Blk) (R : AOut → List Blk → Prop) (h : R (.ret (.mval escA)) S) : ACall Tryz.prog w0 107 [] S R := by
  have hac := aAc w0
  have H := Lib.hid h
  have Hac := Lib.hid hac
  clear h
  refine eN Tryz.func107 rfl Tryz.ntmps107 fun hO => ?_
  repeat' ((fail_if_success (apply x_stopR 3)); first | refine st ?_ | (refine ca ?_; apply hac) | (refine br ?_ ?_ <;> intro hb) | fail)
  refine x_mark (S.length + 1) ss ?_
  repeat' first | refine st ?_ | (refine br ?_ ?_ <;> intro hb) | fail
  refine x_ind (fun (p : Option (AV × AV) × List (AV × AV) × List (AV × AV)) env S' => bareA.Perm (p.2.1 ++ p.2.2) ∧ (∀ n, (Blk.mit p.1 []).ltB n = true) ∧ env 1000000 = .dfr [] ∧ env 1 = .mown S.length ∧ env 25 = .own (S.length + 2) 0 ∧
    S' = S ++ [.mp false (hashE :: p.2.1.map fEs), .mp true bareA, .mit p.1 p.2.2]) (fun p => p.2.2.length) (none, [], bareA) ?_ ?_
  · exact ⟨.refl _, fun _ => rfl, ss, ss, ss, rfl⟩
  · rintro ⟨cur, vis, rest⟩ env S' ⟨hp, hcur, e0, e1, e25, rfl⟩ IH
    have HI := Lib.hid IH
    have HP := Lib.hid hp
    have HO := Lib.hid hO
    clear IH hp hac
    simp only at hcur
    repeat' first | refine st ?_ | (refine br ?_ ?_ <;> intro hb) | fail
    apply x_nextM
    · (simp only [go_sem, *]; try rfl)
    · rfl
    · (simp only [go_sem, *]; try rfl)
    · (simp only [go_sem, *]; try rfl)
    · rfl
    · intro hr
      have hp := HP.out
      rw [hr, List.append_nil] at hp
      subst hr
      simp only [putA]
      refine x_mperm S.length (es' := hashE :: bareA.map fEs) ss ((hp.symm.map fEs).cons hashE) ss ?_
      simp only [bareA, bareT, List.map_cons, List.map_nil, fEs, hashE, Ac.av, acN, actV, Int.cast_ofNat_Int]
      have Hac2 := Hac.out
      clear hp HI HP
      repeat' first | refine st ?_ | (refine ca ?_; apply Hac2) | (refine br ?_ ?_ <;> intro hb) | apply x_loop | apply x_lp | fail
      refine fR Tryz.results107 ?_
      exact H.out
    · intro e rest' hr
      have hp : bareA.Perm (vis ++ e :: rest') := HP.out.trans (List.Perm.append_left _ hr)
      have hnew := bare_new hp
      obtain ⟨n, k, a, m, rfl⟩ := bare_mem (hp.mem_iff.2 (List.mem_append_right _ (List.mem_cons_self ..)))
      have hkeys : ∀ x ∈ hashE :: vis.map fEs, ∃ a s b j q m, x = (.agg [.int .u8 a, .str s, .int .u8 b], actV j q m) := by
        intro x hx
        rcases List.mem_cons.1 hx with rfl | hx
        · exact ⟨_, _, _, _, _, _, rfl⟩
        · obtain ⟨y, hy, rfl⟩ := List.mem_map.1 hx
          obtain ⟨n, k, a, m, rfl⟩ := bare_mem (hp.mem_iff.2 (List.mem_append_left _ hy))
          exact ⟨_, _, _, _, _, _, rfl⟩
      have HN := Lib.hid hnew
      have HK := Lib.hid hkeys
      have HP2 := Lib.hid hp
      have HR := Lib.hid hr
      have HL1 := Lib.hid (ltP_entA (es := (hashE :: vis.map fEs) ++ [(.agg [.int .u8 0, .str [], .int .u8 n], actV k a m)]) (by
        intro x hx
        rcases List.mem_append.1 hx with hx | hx
        · exact hkeys x hx
        · simp at hx; subst hx; exact ⟨_, _, _, _, _, _, rfl⟩))
      have HL2 := Lib.hid (ltP_ent (es := rest') (by
        intro x hx
        obtain ⟨n, k, a, m, rfl⟩ := bare_mem (hp.mem_iff.2 (List.mem_append_right _ (List.mem_cons_of_mem _ hx)))
        exact ⟨_, _, _, _, _, rfl⟩))
      have HL3 := Lib.hid (ltP_ent (es := bareA) (by
        intro x hx
        obtain ⟨n, k, a, m, rfl⟩ := bare_mem hx
        exact ⟨_, _, _, _, _, rfl⟩))
      clear hp hnew hkeys hr
      simp only [putA, actV]
      repeat' first | refine st ?_ | (refine br ?_ ?_ <;> intro hb) | fail
      have hka : ∀ x ∈ hashE :: vis.map fEs, keyA Tryz.prog 198 x.1 = true := by
        intro x hx
        obtain ⟨a, s, b, _, _, _, rfl⟩ := HK.out x hx
        exact way_key a s b
      have hkk := way_key 0 [] n
      apply x_put
      · (simp only [go_sem, *]; try rfl)
      · rfl
      · (simp only [go_sem, *]; try rfl)
      · (simp only [go_sem, *]; try rfl)
      · (simp only [go_sem, *]; try rfl)
      · (simp only [go_sem, *]; try rfl)
      · (simp only [go_sem, *]; try rfl)
      · exact hkk
      · exact List.all_eq_true.2 hka
      · exact keq_of_mem hkk hka HN.out
      · rfl
      · (simp only [go_sem, *]; try rfl)
      clear hka hkk
      simp only [putA]
      repeat' first | refine st ?_ | (refine br ?_ ?_ <;> intro hb) | fail
      refine x_keep HO.out 3 [1, 25] rfl ss ss ?_ ?_
      · have l1 := HL1.out
        have l2 := HL2.out
        have l3 := HL3.out
        simp only [actV, List.cons_append] at l1
        (simp only [go_sem, *]; try rfl)
      simp only [List.take_succ_cons, List.take_zero]
      refine HI.out (some (.int .u8 n, actV k a m), vis ++ [(.int .u8 n, actV k a m)], rest') _ _ ?_ ⟨?_, ?_, ?_, ?_, ?_, ?_⟩
      · have := HR.out.length_eq; simp at this ⊢; omega
      · simpa using HP2.out
      · intro n; rfl
      · (simp only [go_sem, *]; try rfl)
      · (simp only [go_sem, *]; try rfl)
      · (simp only [go_sem, *]; try rfl)
      · simp [fEs, actV]
end Go.Proofs.YtecgddmmdgccfaaGreatDoor
namespace Go.Proofs.YtecgddmmdgccfaaGreatDoor
open Go Go.Fen
set_option linter.unusedSimpArgs false
set_option linter.unusedVariables false
attribute [local irreducible] RunX WP ACall AnyP OpA ProtL afterCall afterOp
set_option maxRecDepth 8000
def oneV (f : AV) : AV := .fn (.func 155) [] [.pro [f]]
def sqV : Sq → AV
  | .cnt k => oneV (.fn (.func 159) [] [.pro [.int .i64 k]])
  | .first k => oneV (.fn (.func 161) [] [.pro [.int .i64 k]])
  | .way k n => oneV (.fn (.func 163) [] [.pro [.int .i64 k, .int .i64 n, .int .i64 0, .int .i64 0, .int .i64 0, .str []]])
  | .cursor => oneV (.fn (.func 164) [] [])
  | .modes k bit => .fn (.func 157) [] [.pro [.int .i64 k], .pro [.int .i64 bit]]
  | .ask n => .fn (.func 166) [] [.pro [.int .i64 n]]
  | .margins => oneV (.fn (.func 167) [] [])
  | .const k => oneV (.fn (.func (if k = 12 then 168 else if k = 13 then 169 else 173)) [] [])
  | .pens => .fn (.func 170) [] []
  | .shape => oneV (.fn (.func 172) [] [])
  | .askMode n => oneV (.fn (.func 174) [] [.pro [.int .i64 n]])
def seqA : List (AV × AV) := seqT.map fun p => (p.1.av, sqV p.2)
theorem new_key {base L vis rest : List (AV × AV)} {e : AV × AV} {f : AV × AV → AV × AV} (hn : ((base ++ L.map f).map Prod.fst).Nodup) (hp : L.Perm (vis ++ e :: rest)) : (f e).1 ∉ (base ++ vis.map f).map Prod.fst := by
  have h1 := (((hp.map f).append_left base).map Prod.fst).nodup_iff.1 hn
  rw [show base ++ List.map f (vis ++ e :: rest) = (base ++ vis.map f) ++ f e :: rest.map f by simp, List.map_append, List.map_cons, List.nodup_append] at h1
  intro hm
  exact h1.2.2 _ hm _ (List.mem_cons_self ..) rfl
theorem aOne (w0 : World) (S : List Blk) (g : FuncId) (cap : List AV) (hp : plainL cap = true) (hl : ∀ n, Go.Fen.ltL n cap = true) (R : AOut → List Blk → Prop) (h : R (.ret (oneV (.fn (.func g) [] cap))) S) : ACall Tryz.prog w0 154 [.fn (.func g) [] cap] S R := by
  unfold oneV at h
  refine eN Tryz.func154 rfl Tryz.ntmps154 fun hO => ?_
  repeat' first | refine st ?_ | (refine br ?_ ?_ <;> intro hb) | fail
  refine fR Tryz.results154 ?_
  exact h
theorem aEach (w0 : World) (S : List Blk) (k b : Int) (R : AOut → List Blk → Prop) (h : R (.ret (sqV (.modes k b))) S) : ACall Tryz.prog w0 156 [.int .i64 k, .int .i64 b] S R := by
  unfold sqV at h
  refine eN Tryz.func156 rfl Tryz.ntmps156 fun hO => ?_
  repeat' first | refine st ?_ | (refine br ?_ ?_ <;> intro hb) | fail
  refine fR Tryz.results156 ?_
  exact h
theorem aPut (w0 : World) (S : List Blk) (a m : Nat) (es : List (AV × AV)) (pv : Int) (it : List UInt8) (fn : Int) (v : AV) (ha : S[a]? = some (.cells [.mown m] none)) (hm : S[m]? = some (.mp false es)) (hall : (es.all fun x => keyA Tryz.prog 198 x.1) = true)
    (hnew : es.any (fun e => keq (.agg [.int .u8 pv, .str it, .int .u8 fn]) e.1) = false) (hlt : ltP S.length (es ++ [(.agg [.int .u8 pv, .str it, .int .u8 fn], v)]) = true) (R : AOut → List Blk → Prop)
    (h : R (.ret (.tup [])) (S.set m (.mp false (es ++ [(.agg [.int .u8 pv, .str it, .int .u8 fn], v)])))) : ACall Tryz.prog w0 153 [.int .u8 pv, .str it, .int .u8 fn, v, .own a 0] S R := by
  have HN := Lib.hid hnew
  have HA := Lib.hid hall
  have HL := Lib.hid hlt
  have H := Lib.hid h
  clear hnew hall hlt h
  refine eN Tryz.func153 rfl Tryz.ntmps153 fun hO => ?_
  repeat' first | refine st ?_ | (refine br ?_ ?_ <;> intro hb) | fail
  apply x_put
  · (simp only [go_sem, *]; try rfl)
  · rfl
  · (simp only [go_sem, *]; try rfl)
  · (simp only [go_sem, *]; try rfl)
  · (simp only [go_sem, *]; try rfl)
  · (simp only [go_sem, *]; try rfl)
  · (simp only [go_sem, *]; try rfl)
  · exact way_key pv it fn
  · exact HA.out
  · exact HN.out
  · rfl
  · rfl
  simp only [putA]
  repeat' first | refine st ?_ | (refine br ?_ ?_ <;> intro hb) | fail
  refine fEX Tryz.results153 ?_ ?_ ?_
  · exact OuterOk.set hO HL.out
  · simp
  · exact H.out
def fG (g : FuncId) (e : AV × AV) : AV × AV := (.agg [.int .u8 0, .str [], e.1], oneV (.fn (.func g) [] [.pro e.2.cells]))
def countsA : List (AV × AV) := countsT.map fun p => (.int .u8 p.1, .int .i64 p.2)
def choicesA : List (AV × AV) := choicesT.map fun p => (.int .u8 p.1, .int .i64 p.2)
def waysA : List (AV × AV) := waysT.map fun p => (.int .u8 p.1, actV p.2.1 p.2.2 0)
def base1 : List (AV × AV) := []
def base2 : List (AV × AV) := base1 ++ countsA.map (fG 159)
def base3 : List (AV × AV) := base2 ++ choicesA.map (fG 161)
def base4 : List (AV × AV) := base3 ++ waysA.map (fG 163)
theorem set_first (S r : List Blk) (a b : Blk) : (S ++ a :: r).set S.length b = S ++ b :: r := by
  rw [List.set_append_right _ _ (Nat.le_refl _), Nat.sub_self, List.set_cons_zero]
def WayE (x : AV × AV) : Prop := (∃ a s b, x.1 = .agg [.int .u8 a, .str s, .int .u8 b]) ∧ ∀ n, x.2.lt n = true
theorem WayE.key {x : AV × AV} (h : WayE x) : keyA Tryz.prog 198 x.1 = true := by
  obtain ⟨⟨a, s, b, e⟩, _⟩ := h
  rw [e]; exact way_key a s b
theorem WayE.lts {es : List (AV × AV)} (h : ∀ x ∈ es, WayE x) (n : Nat) : ltP n es = true := by
  rw [ltP_iff]
  intro x hx
  obtain ⟨⟨a, s, b, e⟩, h2⟩ := h x hx
  exact ⟨by rw [e]; rfl, h2 n⟩
theorem plain_map {g : FuncId} {e : AV × AV} {n : Int} (h1 : e.1 = .int .u8 n) (h2 : ∀ m, Go.Fen.ltL m e.2.cells = true) : WayE (fG g e) := by
  refine ⟨⟨0, [], n, by simp [fG, h1]⟩, fun m => ?_⟩
  simp only [fG, oneV, AV.lt, Go.Fen.ltL, h2 m, Bool.and_self]
theorem counts_mem {e : AV × AV} (h : e ∈ countsA) : ∃ (n k : Int), e = (.int .u8 n, .int .i64 k) := by
  unfold countsA at h
  obtain ⟨p, hp, rfl⟩ := List.mem_map.1 h
  exact ⟨_, _, rfl⟩
theorem choices_mem {e : AV × AV} (h : e ∈ choicesA) : ∃ (n k : Int), e = (.int .u8 n, .int .i64 k) := by
  unfold choicesA at h
  obtain ⟨p, hp, rfl⟩ := List.mem_map.1 h
  exact ⟨_, _, rfl⟩
theorem ways_mem {e : AV × AV} (h : e ∈ waysA) : ∃ (n k a : Int), e = (.int .u8 n, actV k a 0) := by
  unfold waysA at h
  obtain ⟨p, hp, rfl⟩ := List.mem_map.1 h
  exact ⟨_, _, _, rfl⟩
theorem base1_way : ∀ x ∈ base1, WayE x := by intro x hx; cases hx
theorem base2_way : ∀ x ∈ base2, WayE x := by
  intro x hx
  rcases List.mem_append.1 hx with hx | hx
  · exact base1_way x hx
  · obtain ⟨y, hy, rfl⟩ := List.mem_map.1 hx
    obtain ⟨n, k, rfl⟩ := counts_mem hy
    exact plain_map rfl fun m => rfl
theorem base3_way : ∀ x ∈ base3, WayE x := by
  intro x hx
  rcases List.mem_append.1 hx with hx | hx
  · exact base2_way x hx
  · obtain ⟨y, hy, rfl⟩ := List.mem_map.1 hx
    obtain ⟨n, k, rfl⟩ := choices_mem hy
    exact plain_map rfl fun m => rfl
theorem base4_way : ∀ x ∈ base4, WayE x := by
  intro x hx
  rcases List.mem_append.1 hx with hx | hx
  · exact base3_way x hx
  · obtain ⟨y, hy, rfl⟩ := List.mem_map.1 hx
    obtain ⟨n, k, a, rfl⟩ := ways_mem hy
    exact plain_map rfl fun m => rfl
theorem nodup4 : (base4.map Prod.fst).Nodup := by
  simp [base4, base3, base2, base1, countsA, countsT, choicesA, choicesT, waysA, waysT, fG]
theorem nodup3 : (base3.map Prod.fst).Nodup := by
  have h := nodup4
  unfold base4 at h
  rw [List.map_append] at h
  exact (List.nodup_append.1 h).1
theorem nodup2 : (base2.map Prod.fst).Nodup := by
  have h := nodup3
  unfold base3 at h
  rw [List.map_append] at h
  exact (List.nodup_append.1 h).1
set_option maxHeartbeats 40000000 in
theorem aSeqs (w0 : World) (S : List Blk) (R : AOut → List Blk → Prop) (h : R (.ret (.mval seqA)) S) : ACall Tryz.prog w0 109 [] S R := by
  have hac := aAc w0
  have H := Lib.hid h
  have Hac := Lib.hid hac
  clear h
  refine eN Tryz.func109 rfl Tryz.ntmps109 fun hO => ?_
  have HO := Lib.hid hO
  repeat' ((fail_if_success (apply x_stopR 6)); first | refine st ?_ | (refine ca ?_; apply hac) | (refine br ?_ ?_ <;> intro hb) | fail)
  refine x_mark (S.length + 2) ss ?_
  repeat' first | refine st ?_ | (refine br ?_ ?_ <;> intro hb) | fail
  refine x_ind (fun (p : Option (AV × AV) × List (AV × AV) × List (AV × AV)) env S2 => countsA.Perm (p.2.1 ++ p.2.2) ∧ (∀ n, (Blk.mit p.1 []).ltB n = true) ∧ env 1000000 = .dfr [] ∧ env 1 = .own (S.length + 1) 0 ∧ env 2 = .fn (.func 153) [] [.own (S.length + 1) 0] ∧ env 3 = .fn (.func 154) [] [] ∧ env 4 = .fn (.func 156) [] [] ∧ env 27 = .own (S.length + 3) 0 ∧
    S2 = S ++ [.mp false (base1 ++ p.2.1.map (fG 159)), .cells [.mown S.length] none, .mp true countsA, .mit p.1 p.2.2]) (fun p => p.2.2.length) (none, [], countsA) ?_ ?_
  · exact ⟨.refl _, fun _ => rfl, ss, ss, ss, ss, ss, ss, rfl⟩
  rintro ⟨cur, vis, rest⟩ env S2 ⟨hp, hcur, e0, e1, e2, e3, e4, eit, rfl⟩ IH
  have HI := Lib.hid IH
  have HP := Lib.hid hp
  clear IH hp hac
  simp only at hcur
  repeat' first | refine st ?_ | (refine br ?_ ?_ <;> intro hb) | fail
  apply x_nextM
  · (simp only [go_sem, *]; try rfl)
  · rfl
  · (simp only [go_sem, *]; try rfl)
  · (simp only [go_sem, *]; try rfl)
  · rfl
  rotate_left
  · intro e rest' hr
    have hp : countsA.Perm (vis ++ e :: rest') := HP.out.trans (List.Perm.append_left _ hr)
    have hnew := new_key (f := fG 159) nodup2 hp
    obtain ⟨n, k, rfl⟩ := counts_mem (hp.mem_iff.2 (List.mem_append_right _ (List.mem_cons_self ..)))
    have hkeys : ∀ x ∈ base1 ++ vis.map (fG 159), WayE x := by
      intro x hx
      rcases List.mem_append.1 hx with hx | hx
      · exact base1_way x hx
      · obtain ⟨y, hy, rfl⟩ := List.mem_map.1 hx
        obtain ⟨n, k, rfl⟩ := counts_mem (hp.mem_iff.2 (List.mem_append_left _ hy))
        exact plain_map rfl fun m => rfl
    have HN := Lib.hid hnew
    have HK := Lib.hid hkeys
    have HP2 := Lib.hid hp
    have HR := Lib.hid hr
    have HL2 : RowKit.Hid (∀ n, ltP n rest' = true ∧ ltP n countsA = true) := Lib.hid (by
      intro m
      constructor
      · rw [ltP_iff]
        intro x hx
        obtain ⟨n, k, rfl⟩ := counts_mem (hp.mem_iff.2 (List.mem_append_right _ (List.mem_cons_of_mem _ hx)))
        exact ⟨rfl, rfl⟩
      · rw [ltP_iff]
        intro x hx
        obtain ⟨n, k, rfl⟩ := counts_mem hx
        exact ⟨rfl, rfl⟩)
    clear hp hnew hkeys hr
    simp only [putA, actV]
    repeat' ((fail_if_success (apply x_stop 33 rfl)); first | refine st ?_ | (refine br ?_ ?_ <;> intro hb) | fail)
    refine x_frz (t := 7) (a := S.length + 4) (o := 0) ss ss ?_
    simp only [List.drop_zero]
    have hone := fun S' => aOne w0 S' 159 [.pro [.int .i64 k]] rfl (fun _ => rfl)
    unfold oneV at hone
    repeat' ((fail_if_success (apply x_stop 38 rfl)); first | refine st ?_ | (refine ca ?_; apply hone) | (refine br ?_ ?_ <;> intro hb) | fail)
    apply x_callA []
    · (simp only [go_sem, *]; try rfl)
    · rfl
    · (simp only [go_sem, *]; try rfl)
    · rfl
    · (simp only [go_sem, *]; try rfl)
    · (simp only [go_sem, *]; try rfl)
    have hke : WayE (fG 159 (.int .u8 n, .int .i64 k)) := plain_map rfl fun m => rfl
    refine aPut w0 _ (S.length + 1) S.length (base1 ++ vis.map (fG 159)) 0 [] n _ ?_ ?_ (List.all_eq_true.2 fun x hx => (HK.out x hx).key) (keq_of_mem (way_key 0 [] n) (fun x hx => (HK.out x hx).key) HN.out) (WayE.lts (es := (base1 ++ vis.map (fG 159)) ++ [fG 159 (.int .u8 n, .int .i64 k)]) (by
      intro x hx
      rcases List.mem_append.1 hx with hx | hx
      · exact HK.out x hx
      · rw [List.mem_singleton.1 hx]; exact hke) _) _ ?_
    · (simp only [go_sem, *]; try rfl)
    · (simp only [go_sem, *]; try rfl)
    rw [set_first]
    clear hke
    repeat' first | refine st ?_ | (refine br ?_ ?_ <;> intro hb) | fail
    refine x_keep HO.out 4 [1, 2, 3, 4, 27] rfl ss ss ?_ ?_
    · have hke : WayE (fG 159 (.int .u8 n, .int .i64 k)) := plain_map rfl fun m => rfl
      have l1 := WayE.lts (es := (base1 ++ vis.map (fG 159)) ++ [fG 159 (.int .u8 n, .int .i64 k)]) (by
        intro x hx
        rcases List.mem_append.1 hx with hx | hx
        · exact HK.out x hx
        · rw [List.mem_singleton.1 hx]; exact hke)
      have l2 := fun n => (HL2.out n).1
      have l3 := fun n => (HL2.out n).2
      clear hke
      simp only [fG, oneV, AV.cells, actV, List.append_assoc] at l1 ⊢
      (simp only [go_sem, *]; try rfl)
    simp only [List.take_succ_cons, List.take_zero]
    refine HI.out (some (.int .u8 n, .int .i64 k), vis ++ [(.int .u8 n, .int .i64 k)], rest') _ _ ?_ ⟨?_, ?_, ?_, ?_, ?_, ?_, ?_, ?_, ?_⟩
    · have := HR.out.length_eq; simp at this ⊢; omega
    · simpa using HP2.out
    · intro n; rfl
    · (simp only [go_sem, *]; try rfl)
    · (simp only [go_sem, *]; try rfl)
    · (simp only [go_sem, *]; try rfl)
    · (simp only [go_sem, *]; try rfl)
    · (simp only [go_sem, *]; try rfl)
    · (simp only [go_sem, *]; try rfl)
    · simp [fG, oneV, actV, AV.cells]
  intro hr
  have hp := HP.out
  rw [hr, List.append_nil] at hp
  subst hr
  simp only [putA]
  refine x_mperm S.length (es' := base2) ss ((hp.symm.map (fG 159)).append_left base1) ss ?_
  clear hp HI HP
  repeat' ((fail_if_success (apply x_stopR 10)); first | refine st ?_ | (refine br ?_ ?_ <;> intro hb) | fail)
  refine x_keep HO.out 2 [1, 2, 3, 4] rfl ss ss ?_ ?_
  · have l1 := WayE.lts base2_way
    (simp only [go_sem, *]; try rfl)
  simp only [List.take_succ_cons, List.take_zero]
  have Hac2 := Hac.out
  repeat' ((fail_if_success (apply x_stopR 11)); first | refine st ?_ | (refine ca ?_; apply Hac2) | (refine br ?_ ?_ <;> intro hb) | fail)
  refine x_mark (S.length + 2) ss ?_
  repeat' first | refine st ?_ | (refine br ?_ ?_ <;> intro hb) | fail
  refine x_ind (fun (p : Option (AV × AV) × List (AV × AV) × List (AV × AV)) env S2 => choicesA.Perm (p.2.1 ++ p.2.2) ∧ (∀ n, (Blk.mit p.1 []).ltB n = true) ∧ env 1000000 = .dfr [] ∧ env 1 = .own (S.length + 1) 0 ∧ env 2 = .fn (.func 153) [] [.own (S.length + 1) 0] ∧ env 3 = .fn (.func 154) [] [] ∧ env 4 = .fn (.func 156) [] [] ∧ env 42 = .own (S.length + 3) 0 ∧
    S2 = S ++ [.mp false (base2 ++ p.2.1.map (fG 161)), .cells [.mown S.length] none, .mp true choicesA, .mit p.1 p.2.2]) (fun p => p.2.2.length) (none, [], choicesA) ?_ ?_
  · exact ⟨.refl _, fun _ => rfl, ss, ss, ss, ss, ss, ss, by simp only [List.map_nil, List.append_nil]; rfl⟩
  clear e0 e1 e2 e3 e4 eit hcur
  rintro ⟨cur, vis, rest⟩ env S2 ⟨hp, hcur, e0, e1, e2, e3, e4, eit, rfl⟩ IH
  have HI := Lib.hid IH
  have HP := Lib.hid hp
  clear IH hp
  simp only at hcur
  repeat' first | refine st ?_ | (refine br ?_ ?_ <;> intro hb) | fail
  apply x_nextM
  · (simp only [go_sem, *]; try rfl)
  · rfl
  · (simp only [go_sem, *]; try rfl)
  · (simp only [go_sem, *]; try rfl)
  · rfl
  rotate_left
  · intro e rest' hr
    have hp : choicesA.Perm (vis ++ e :: rest') := HP.out.trans (List.Perm.append_left _ hr)
    have hnew := new_key (f := fG 161) nodup3 hp
    obtain ⟨n, k, rfl⟩ := choices_mem (hp.mem_iff.2 (List.mem_append_right _ (List.mem_cons_self ..)))
    have hkeys : ∀ x ∈ base2 ++ vis.map (fG 161), WayE x := by
      intro x hx
      rcases List.mem_append.1 hx with hx | hx
      · exact base2_way x hx
      · obtain ⟨y, hy, rfl⟩ := List.mem_map.1 hx
        obtain ⟨n, k, rfl⟩ := choices_mem (hp.mem_iff.2 (List.mem_append_left _ hy))
        exact plain_map rfl fun m => rfl
    have HN := Lib.hid hnew
    have HK := Lib.hid hkeys
    have HP2 := Lib.hid hp
    have HR := Lib.hid hr
    have HL2 : RowKit.Hid (∀ n, ltP n rest' = true ∧ ltP n choicesA = true) := Lib.hid (by
      intro m
      constructor
      · rw [ltP_iff]
        intro x hx
        obtain ⟨n, k, rfl⟩ := choices_mem (hp.mem_iff.2 (List.mem_append_right _ (List.mem_cons_of_mem _ hx)))
        exact ⟨rfl, rfl⟩
      · rw [ltP_iff]
        intro x hx
        obtain ⟨n, k, rfl⟩ := choices_mem hx
        exact ⟨rfl, rfl⟩)
    clear hp hnew hkeys hr
    simp only [putA, actV]
    repeat' ((fail_if_success (apply x_stop 48 rfl)); first | refine st ?_ | (refine br ?_ ?_ <;> intro hb) | fail)
    refine x_frz (t := 10) (a := S.length + 4) (o := 0) ss ss ?_
    simp only [List.drop_zero]
    have hone := fun S' => aOne w0 S' 161 [.pro [.int .i64 k]] rfl (fun _ => rfl)
    unfold oneV at hone
    repeat' ((fail_if_success (apply x_stop 53 rfl)); first | refine st ?_ | (refine ca ?_; apply hone) | (refine br ?_ ?_ <;> intro hb) | fail)
    apply x_callA []
    · (simp only [go_sem, *]; try rfl)
    · rfl
    · (simp only [go_sem, *]; try rfl)
    · rfl
    · (simp only [go_sem, *]; try rfl)
    · (simp only [go_sem, *]; try rfl)
    have hke : WayE (fG 161 (.int .u8 n, .int .i64 k)) := plain_map rfl fun m => rfl
    refine aPut w0 _ (S.length + 1) S.length (base2 ++ vis.map (fG 161)) 0 [] n _ ?_ ?_ (List.all_eq_true.2 fun x hx => (HK.out x hx).key) (keq_of_mem (way_key 0 [] n) (fun x hx => (HK.out x hx).key) HN.out) (WayE.lts (es := (base2 ++ vis.map (fG 161)) ++ [fG 161 (.int .u8 n, .int .i64 k)]) (by
      intro x hx
      rcases List.mem_append.1 hx with hx | hx
      · exact HK.out x hx
      · rw [List.mem_singleton.1 hx]; exact hke) _) _ ?_
    · (simp only [go_sem, *]; try rfl)
    · (simp only [go_sem, *]; try rfl)
    rw [set_first]
    clear hke
    repeat' first | refine st ?_ | (refine br ?_ ?_ <;> intro hb) | fail
    refine x_keep HO.out 4 [1, 2, 3, 4, 42] rfl ss ss ?_ ?_
    · have hke : WayE (fG 161 (.int .u8 n, .int .i64 k)) := plain_map rfl fun m => rfl
      have l1 := WayE.lts (es := (base2 ++ vis.map (fG 161)) ++ [fG 161 (.int .u8 n, .int .i64 k)]) (by
        intro x hx
        rcases List.mem_append.1 hx with hx | hx
        · exact HK.out x hx
        · rw [List.mem_singleton.1 hx]; exact hke)
      have l2 := fun n => (HL2.out n).1
      have l3 := fun n => (HL2.out n).2
      clear hke
      simp only [fG, oneV, AV.cells, actV, List.append_assoc] at l1 ⊢
      (simp only [go_sem, *]; try rfl)
    simp only [List.take_succ_cons, List.take_zero]
    refine HI.out (some (.int .u8 n, .int .i64 k), vis ++ [(.int .u8 n, .int .i64 k)], rest') _ _ ?_ ⟨?_, ?_, ?_, ?_, ?_, ?_, ?_, ?_, ?_⟩
    · have := HR.out.length_eq; simp at this ⊢; omega
    · simpa using HP2.out
    · intro n; rfl
    · (simp only [go_sem, *]; try rfl)
    · (simp only [go_sem, *]; try rfl)
    · (simp only [go_sem, *]; try rfl)
    · (simp only [go_sem, *]; try rfl)
    · (simp only [go_sem, *]; try rfl)
    · (simp only [go_sem, *]; try rfl)
    · simp [fG, oneV, actV, AV.cells]
  intro hr
  have hp := HP.out
  rw [hr, List.append_nil] at hp
  subst hr
  simp only [putA]
  refine x_mperm S.length (es' := base3) ss ((hp.symm.map (fG 161)).append_left base2) ss ?_
  clear hp HI HP
  repeat' ((fail_if_success (apply x_stopR 15)); first | refine st ?_ | (refine br ?_ ?_ <;> intro hb) | fail)
  refine x_keep HO.out 2 [1, 2, 3, 4] rfl ss ss ?_ ?_
  · have l1 := WayE.lts base3_way
    (simp only [go_sem, *]; try rfl)
  simp only [List.take_succ_cons, List.take_zero]
  repeat' ((fail_if_success (apply x_stopR 16)); first | refine st ?_ | (refine ca ?_; apply Hac2) | (refine br ?_ ?_ <;> intro hb) | fail)
  refine x_mark (S.length + 2) ss ?_
  repeat' first | refine st ?_ | (refine br ?_ ?_ <;> intro hb) | fail
  refine x_ind (fun (p : Option (AV × AV) × List (AV × AV) × List (AV × AV)) env S2 => waysA.Perm (p.2.1 ++ p.2.2) ∧ (∀ n, (Blk.mit p.1 []).ltB n = true) ∧ env 1000000 = .dfr [] ∧ env 1 = .own (S.length + 1) 0 ∧ env 2 = .fn (.func 153) [] [.own (S.length + 1) 0] ∧ env 3 = .fn (.func 154) [] [] ∧ env 4 = .fn (.func 156) [] [] ∧ env 65 = .own (S.length + 3) 0 ∧
    S2 = S ++ [.mp false (base3 ++ p.2.1.map (fG 163)), .cells [.mown S.length] none, .mp true waysA, .mit p.1 p.2.2]) (fun p => p.2.2.length) (none, [], waysA) ?_ ?_
  · exact ⟨.refl _, fun _ => rfl, ss, ss, ss, ss, ss, ss, by simp only [List.map_nil, List.append_nil]; rfl⟩
  clear e0 e1 e2 e3 e4 eit hcur
  rintro ⟨cur, vis, rest⟩ env S2 ⟨hp, hcur, e0, e1, e2, e3, e4, eit, rfl⟩ IH
  have HI := Lib.hid IH
  have HP := Lib.hid hp
  clear IH hp
  simp only at hcur
  repeat' first | refine st ?_ | (refine br ?_ ?_ <;> intro hb) | fail
  apply x_nextM
  · (simp only [go_sem, *]; try rfl)
  · rfl
  · (simp only [go_sem, *]; try rfl)
  · (simp only [go_sem, *]; try rfl)
  · rfl
  rotate_left
  · intro e rest' hr
    have hp : waysA.Perm (vis ++ e :: rest') := HP.out.trans (List.Perm.append_left _ hr)
    have hnew := new_key (f := fG 163) nodup4 hp
    obtain ⟨n, k, a, rfl⟩ := ways_mem (hp.mem_iff.2 (List.mem_append_right _ (List.mem_cons_self ..)))
    have hkeys : ∀ x ∈ base3 ++ vis.map (fG 163), WayE x := by
      intro x hx
      rcases List.mem_append.1 hx with hx | hx
      · exact base3_way x hx
      · obtain ⟨y, hy, rfl⟩ := List.mem_map.1 hx
        obtain ⟨n, k, a, rfl⟩ := ways_mem (hp.mem_iff.2 (List.mem_append_left _ hy))
        exact plain_map rfl fun m => rfl
    have HN := Lib.hid hnew
    have HK := Lib.hid hkeys
    have HP2 := Lib.hid hp
    have HR := Lib.hid hr
    have HL2 : RowKit.Hid (∀ n, ltP n rest' = true ∧ ltP n waysA = true) := Lib.hid (by
      intro m
      constructor
      · rw [ltP_iff]
        intro x hx
        obtain ⟨n, k, a, rfl⟩ := ways_mem (hp.mem_iff.2 (List.mem_append_right _ (List.mem_cons_of_mem _ hx)))
        exact ⟨rfl, rfl⟩
      · rw [ltP_iff]
        intro x hx
        obtain ⟨n, k, a, rfl⟩ := ways_mem hx
        exact ⟨rfl, rfl⟩)
    clear hp hnew hkeys hr
    simp only [putA, actV]
    repeat' ((fail_if_success (apply x_stop 71 rfl)); first | refine st ?_ | (refine br ?_ ?_ <;> intro hb) | fail)
    refine x_frz (t := 13) (a := S.length + 4) (o := 0) ss ss ?_
    simp only [List.drop_zero]
    have hone := fun S' => aOne w0 S' 163 [.pro [.int .i64 k, .int .i64 a, .int .i64 0, .int .i64 0, .int .i64 0, .str []]] rfl (fun _ => rfl)
    unfold oneV at hone
    repeat' ((fail_if_success (apply x_stop 76 rfl)); first | refine st ?_ | (refine ca ?_; apply hone) | (refine br ?_ ?_ <;> intro hb) | fail)
    apply x_callA []
    · (simp only [go_sem, *]; try rfl)
    · rfl
    · (simp only [go_sem, *]; try rfl)
    · rfl
    · (simp only [go_sem, *]; try rfl)
    · (simp only [go_sem, *]; try rfl)
    have hke : WayE (fG 163 (.int .u8 n, actV k a 0)) := plain_map rfl fun m => rfl
    refine aPut w0 _ (S.length + 1) S.length (base3 ++ vis.map (fG 163)) 0 [] n _ ?_ ?_ (List.all_eq_true.2 fun x hx => (HK.out x hx).key) (keq_of_mem (way_key 0 [] n) (fun x hx => (HK.out x hx).key) HN.out) (WayE.lts (es := (base3 ++ vis.map (fG 163)) ++ [fG 163 (.int .u8 n, actV k a 0)]) (by
      intro x hx
      rcases List.mem_append.1 hx with hx | hx
      · exact HK.out x hx
      · rw [List.mem_singleton.1 hx]; exact hke) _) _ ?_
    · (simp only [go_sem, *]; try rfl)
    · (simp only [go_sem, *]; try rfl)
    rw [set_first]
    clear hke
    repeat' first | refine st ?_ | (refine br ?_ ?_ <;> intro hb) | fail
    refine x_keep HO.out 4 [1, 2, 3, 4, 65] rfl ss ss ?_ ?_
    · have hke : WayE (fG 163 (.int .u8 n, actV k a 0)) := plain_map rfl fun m => rfl
      have l1 := WayE.lts (es := (base3 ++ vis.map (fG 163)) ++ [fG 163 (.int .u8 n, actV k a 0)]) (by
        intro x hx
        rcases List.mem_append.1 hx with hx | hx
        · exact HK.out x hx
        · rw [List.mem_singleton.1 hx]; exact hke)
      have l2 := fun n => (HL2.out n).1
      have l3 := fun n => (HL2.out n).2
      clear hke
      simp only [fG, oneV, AV.cells, actV, List.append_assoc] at l1 ⊢
      (simp only [go_sem, *]; try rfl)
    simp only [List.take_succ_cons, List.take_zero]
    refine HI.out (some (.int .u8 n, actV k a 0), vis ++ [(.int .u8 n, actV k a 0)], rest') _ _ ?_ ⟨?_, ?_, ?_, ?_, ?_, ?_, ?_, ?_, ?_⟩
    · have := HR.out.length_eq; simp at this ⊢; omega
    · simpa using HP2.out
    · intro n; rfl
    · (simp only [go_sem, *]; try rfl)
    · (simp only [go_sem, *]; try rfl)
    · (simp only [go_sem, *]; try rfl)
    · (simp only [go_sem, *]; try rfl)
    · (simp only [go_sem, *]; try rfl)
    · (simp only [go_sem, *]; try rfl)
    · simp [fG, oneV, actV, AV.cells]
  intro hr
  have hp := HP.out
  rw [hr, List.append_nil] at hp
  subst hr
  simp only [putA]
  refine x_mperm S.length (es' := base4) ss ((hp.symm.map (fG 163)).append_left base3) ss ?_
  clear hp HI HP
  repeat' ((fail_if_success (apply x_stopR 20)); first | refine st ?_ | (refine br ?_ ?_ <;> intro hb) | fail)
  refine x_keep HO.out 2 [1, 2, 3, 4] rfl ss ss ?_ ?_
  · have l1 := WayE.lts base4_way
    (simp only [go_sem, *]; try rfl)
  simp only [List.take_succ_cons, List.take_zero]
  simp only [base4, base3, base2, base1, countsA, countsT, choicesA, choicesT, waysA, waysT, fG, oneV, AV.cells, actV, List.map_cons, List.map_nil, List.nil_append, List.cons_append, Int.cast_ofNat_Int]
  have hput := aPut w0
  have hwk := way_key
  have hone := fun S' g => aOne w0 S' g [] rfl (fun _ => rfl)
  have heach := aEach w0
  unfold oneV at hone
  unfold sqV at heach
  have hone2 := fun S' n => aOne w0 S' 174 [.pro [.int .i64 n]] rfl (fun _ => rfl)
  unfold oneV at hone2
  repeat' ((fail_if_success (apply x_stop 112 rfl)); first | refine st ?_ | (refine ca ?_; first | apply hone | apply heach | (apply hput; (iterate 5 (· simp only [go_sem, *]; try rfl))) | apply hone2) | (refine br ?_ ?_ <;> intro hb) | apply x_loop | apply x_lp | fail)
  refine x_frz (t := 18) (a := S.length + 2) (o := 0) ss ss ?_
  simp only [List.drop_zero]
  repeat' ((fail_if_success (apply x_stop 113 rfl)); first | refine st ?_ | (refine br ?_ ?_ <;> intro hb) | fail)
  repeat' ((fail_if_success (apply x_stop 112 rfl)); first | refine st ?_ | (refine ca ?_; first | apply hone | apply heach | (apply hput; (iterate 5 (· simp only [go_sem, *]; try rfl))) | apply hone2) | (refine br ?_ ?_ <;> intro hb) | apply x_loop | apply x_lp | fail)
  refine x_frz (t := 18) (a := S.length + 3) (o := 0) ss ss ?_
  simp only [List.drop_zero]
  repeat' ((fail_if_success (apply x_stop 113 rfl)); first | refine st ?_ | (refine br ?_ ?_ <;> intro hb) | fail)
  repeat' ((fail_if_success (apply x_stop 145 rfl)); first | refine st ?_ | (refine ca ?_; first | apply hone | apply heach | (apply hput; (iterate 5 (· simp only [go_sem, *]; try rfl))) | apply hone2) | (refine br ?_ ?_ <;> intro hb) | apply x_loop | apply x_lp | fail)
  refine x_frz (t := 20) (a := S.length + 4) (o := 0) ss ss ?_
  simp only [List.drop_zero]
  repeat' ((fail_if_success (apply x_stop 146 rfl)); first | refine st ?_ | (refine br ?_ ?_ <;> intro hb) | fail)
  repeat' ((fail_if_success (apply x_stop 145 rfl)); first | refine st ?_ | (refine ca ?_; first | apply hone | apply heach | (apply hput; (iterate 5 (· simp only [go_sem, *]; try rfl))) | apply hone2) | (refine br ?_ ?_ <;> intro hb) | apply x_loop | apply x_lp | fail)
  refine x_frz (t := 20) (a := S.length + 5) (o := 0) ss ss ?_
  simp only [List.drop_zero]
  repeat' ((fail_if_success (apply x_stop 146 rfl)); first | refine st ?_ | (refine br ?_ ?_ <;> intro hb) | fail)
  repeat' first | refine st ?_ | (refine ca ?_; first | apply hone | apply heach | (apply hput; (iterate 5 (· simp only [go_sem, *]; try rfl))) | apply hone2) | (refine br ?_ ?_ <;> intro hb) | apply x_loop | apply x_lp | fail
  refine fR Tryz.results109 ?_
  exact H.out
end Go.Proofs.YtecgddmmdgccfaaGreatDoor
namespace Go.Proofs.YtecgddmmdgccfaaGreatDoor
open Go Go.Fen
set_option linter.unusedSimpArgs false
set_option linter.unusedVariables false
attribute [local irreducible] RunX WP ACall AnyP OpA ProtL afterCall afterOp
set_option maxRecDepth 8000
theorem take_any {α : Type} {p : α → Bool} {l : List α} {k : Nat} {x : α} (hx : l[k]? = some x) (h : (l.take k).any p = false) (hp : p x = false) : (l.take (k + 1)).any p = false := by
  rw [List.take_add_one, hx]
  simp [h, hp]
theorem any_at {α : Type} {p : α → Bool} {l : List α} {k : Nat} {x : α} (hx : l[k]? = some x) (hp : p x = true) : l.any p = true :=
  List.any_eq_true.2 ⟨x, List.mem_of_getElem? hx, hp⟩
def inR (T : List (Int × Int)) (c : Int) : Bool := T.any fun p => decide (p.1 ≤ c) && decide (c ≤ p.2)
def SpV (p : Int × Int) : AV := .agg [.int .i64 p.1, .int .i64 p.2]
attribute [go_sem] SpV
@[go_sem] theorem SpV.plainL (l : List (Int × Int)) : plainL (l.map SpV) = true := plainL_map (fun _ => rfl) l
@[go_sem] theorem SpV.ltL (l : List (Int × Int)) (n : Nat) : ltL n (l.map SpV) = true := ltL_iff.2 fun x hx => by obtain ⟨y, _, rfl⟩ := List.mem_map.1 hx; rfl
theorem inR_take {T : List (Int × Int)} {k : Nat} {x : Int × Int} {c : Int} (hx : T[k]? = some x) (h : inR (T.take k) c = false) (hp : (decide (x.1 ≤ c) && decide (c ≤ x.2)) = false) : inR (T.take (k + 1)) c = false := take_any hx h hp
set_option maxHeartbeats 4000000 in
theorem wIn (w0 : World) (S : List Blk) (f : Bool) (c : Int) (T : List (Int × Int)) (hT : T.length ≤ 1000000) (R : AOut → List Blk → Prop) (h : R (.ret (.bool (inR T c))) S) : ACall Tryz.prog w0 142 [.int .i64 c, .sval f (T.map SpV)] S R := by
  refine eN Tryz.func142 rfl Tryz.ntmps142 fun hO => ?_
  repeat' first | refine st ?_ | (refine br ?_ ?_ <;> intro hb) | fail
  refine x_ind (fun (k : Nat) env S' => k ≤ T.length ∧ inR (T.take k) c = false ∧ env 1000000 = .dfr [] ∧ env 0 = .int .i64 c ∧ env 7 = .sval f (T.map SpV) ∧ env 8 = .int .i64 T.length ∧ env 9 = .int .i64 (k : Int) ∧ S' = S) (fun k => T.length - k) 0 ?_ ?_
  · exact ⟨Nat.zero_le _, by simp [inR], ss, ss, ss, ss, ss, rfl⟩
  · rintro k env S' ⟨hk, hp, e0, f0, f7, f8, f9, rfl⟩ IH
    have HI := Lib.hid IH
    have H := Lib.hid h
    clear IH h
    by_cases hlt : k < T.length
    · obtain ⟨⟨a, b⟩, hx⟩ : ∃ x, T[k]? = some x := ⟨_, List.getElem?_eq_getElem hlt⟩
      have h1 : decide ((k : Int) < (T.length : Int)) = true := by simpa using hlt
      have hw : IntKind.i64.wrap ((k : Int) + 1) = ((k + 1 : Nat) : Int) := by rw [IntWalk.i64_in _ (by omega)]; omega
      have Hlt := Lib.hid (And.intro hlt hp)
      clear hk hp hlt
      cases d1 : decide (a ≤ c) <;> cases d2 : decide (c ≤ b)
      · have Hn := Lib.hid (inR_take hx Hlt.out.2 (by simp only; rw [d1, d2]; rfl))
        repeat' first | refine st ?_ | (refine br ?_ ?_ <;> intro hb) | fail
        refine x_keep hO 0 [0, 7, 8, 9] rfl ss ss ss ?_
        simp only [List.take_zero, List.append_nil]
        refine HI.out (k + 1) _ _ (by have := Hlt.out.1; omega) ⟨Hlt.out.1, Hn.out, ?_, ?_, ?_, ?_, ?_, rfl⟩
        all_goals (simp only [go_sem, *]; try rfl)
      · have Hn := Lib.hid (inR_take hx Hlt.out.2 (by simp only; rw [d1, d2]; rfl))
        repeat' first | refine st ?_ | (refine br ?_ ?_ <;> intro hb) | fail
        refine x_keep hO 0 [0, 7, 8, 9] rfl ss ss ss ?_
        simp only [List.take_zero, List.append_nil]
        refine HI.out (k + 1) _ _ (by have := Hlt.out.1; omega) ⟨Hlt.out.1, Hn.out, ?_, ?_, ?_, ?_, ?_, rfl⟩
        all_goals (simp only [go_sem, *]; try rfl)
      · have Hn := Lib.hid (inR_take hx Hlt.out.2 (by simp only; rw [d1, d2]; rfl))
        repeat' first | refine st ?_ | (refine br ?_ ?_ <;> intro hb) | fail
        refine x_keep hO 0 [0, 7, 8, 9] rfl ss ss ss ?_
        simp only [List.take_zero, List.append_nil]
        refine HI.out (k + 1) _ _ (by have := Hlt.out.1; omega) ⟨Hlt.out.1, Hn.out, ?_, ?_, ?_, ?_, ?_, rfl⟩
        all_goals (simp only [go_sem, *]; try rfl)
      · have hh := H.out
        rw [show inR T c = true from any_at hx (by simp only; rw [d1, d2]; rfl)] at hh
        repeat' first | refine st ?_ | (refine br ?_ ?_ <;> intro hb) | fail
        refine fR Tryz.results142 ?_
        exact hh
    · have h1 : decide ((k : Int) < (T.length : Int)) = false := by simpa using hlt
      have hk' : k = T.length := by omega
      rw [hk', List.take_length] at hp
      have hh := H.out
      rw [hp] at hh
      clear hlt hk hk' HI hp
      repeat' first | refine st ?_ | (refine br ?_ ?_ <;> intro hb) | fail
      refine fR Tryz.results142 ?_
      exact hh
end Go.Proofs.YtecgddmmdgccfaaGreatDoor
namespace Go.Proofs.YtecgddmmdgccfaaGreatDoor
open Go Go.Fen
set_option linter.unusedSimpArgs false
set_option linter.unusedVariables false
attribute [local irreducible] RunX WP ACall AnyP OpA ProtL afterCall afterOp
set_option maxRecDepth 8000
def okU (cp : Nat) : Bool := decide (cp ≤ 1114111) && !(decide (55296 ≤ cp) && decide (cp ≤ 57343))
set_option maxHeartbeats 1000000 in
theorem uCheck (w0 : World) (S : List Blk) (cp : Nat) (R : AOut → List Blk → Prop) (h : R (.ret (.bool (okU cp))) S) : ACall Tryz.prog w0 141 [.int .i64 cp] S R := by
  refine eN Tryz.func141 rfl Tryz.ntmps141 fun hO => ?_
  repeat' first | refine st ?_ | (refine br ?_ ?_ <;> intro hb) | fail
  all_goals refine fR Tryz.results141 ?_
  all_goals
    have e : (cp : Int).fdiv (2 ^ min 11 64) = ((cp / 2048 : Nat) : Int) := by
      rw [show (2 : Int) ^ min 11 64 = 2048 by decide, Int.fdiv_eq_ediv_of_nonneg _ (by omega)]
      omega
    refine cast (congrArg (fun v => R (.ret (.bool v)) S) ?_) h
    simp only [decide_eq_true_eq, decide_eq_false_iff_not] at hb
    unfold okU
    first
    | (rw [Bool.eq_iff_iff, e]; simp only [Bool.and_eq_true, decide_eq_true_eq, Bool.not_eq_true', Bool.and_eq_false_iff, decide_eq_false_iff_not, bne_iff_ne, ne_eq]; omega)
    | (rw [Bool.and_eq_false_iff]; left; simp only [decide_eq_false_iff_not]; omega)
def marksT : List (Int × Int) := [(768, 879), (1155, 1161), (1425, 1469), (1552, 1562), (1611, 1631), (6832, 6911), (7616, 7679), (8203, 8207), (8400, 8447), (65024, 65039), (65056, 65071)]
def widesT : List (Int × Int) := [(4352, 4447), (11904, 12350), (12353, 19903), (19968, 42191), (44032, 55203), (63744, 64255), (65072, 65135), (65280, 65376), (65504, 65510), (127744, 128591), (128640, 128767), (129280, 129535), (131072, 262141)]
def twoT : List (Int × Int) := [(4352, 4447), (11904, 12350), (12353, 13311), (13312, 19903), (19968, 40959), (40960, 42191), (44032, 55203), (63744, 64255), (65072, 65135), (65280, 65376), (65504, 65510), (127744, 128591), (128640, 128767), (129280, 129535), (131072, 262141)]
def widthOf (c : Int) : Int := if !(decide (0 ≤ c) && okU c.toNat) || (decide (c < 32) || (decide (127 ≤ c) && decide (c < 160))) then -1 else if inR marksT c then 0 else if inR widesT c then 2 else 1
theorem two_wides (c : Int) : inR twoT c = inR widesT c := by
  rw [Bool.eq_iff_iff]
  simp only [inR, twoT, widesT, List.any_cons, List.any_nil, Bool.or_eq_true, Bool.and_eq_true, decide_eq_true_eq, Bool.or_false, Bool.false_eq_true, or_false]
  omega
theorem ctl_two (c : Int) (h : 0 ≤ c) : inR [(0, 31), (127, 159)] c = (decide (c < 32) || (decide (127 ≤ c) && decide (c < 160))) := by
  rw [Bool.eq_iff_iff]
  simp only [inR, List.any_cons, List.any_nil, Bool.or_eq_true, Bool.and_eq_true, decide_eq_true_eq, Bool.or_false, Bool.false_eq_true, or_false]
  omega
theorem below_marks (c : Int) (h : c < 768) : inR marksT c = false ∧ inR widesT c = false := by
  constructor <;> rw [Bool.eq_false_iff] <;>
  · simp only [inR, marksT, widesT, List.any_cons, List.any_nil, ne_eq, Bool.or_eq_true, Bool.and_eq_true, decide_eq_true_eq, Bool.or_false, Bool.false_eq_true, or_false]
    omega
theorem uCheckI (w0 : World) (S : List Blk) (c : Int) (R : AOut → List Blk → Prop) (h : R (.ret (.bool (decide (0 ≤ c) && okU c.toNat))) S) : ACall Tryz.prog w0 141 [.int .i64 c] S R := by
  by_cases c0 : 0 ≤ c
  · obtain ⟨n, rfl⟩ : ∃ n : Nat, c = n := ⟨c.toNat, by omega⟩
    rw [decide_eq_true c0, Bool.true_and, Int.toNat_natCast] at h
    exact uCheck w0 S n R h
  · have d0 : decide (0 ≤ c) = false := decide_eq_false c0
    rw [d0, Bool.false_and] at h
    clear c0
    refine eN Tryz.func141 rfl Tryz.ntmps141 fun hO => ?_
    repeat' first | refine st ?_ | (refine br ?_ ?_ <;> intro hb) | fail
    refine fR Tryz.results141 ?_
    exact h
def MarksOk (w0 : World) : Prop := gl w0 0 = .pro (flat (marksT.map SpV))
def WidesOk (w0 : World) : Prop := gl w0 1 = .pro (flat (widesT.map SpV))
theorem SpV_len {T : List (Int × Int)} : ∀ y ∈ T.map SpV, y.cells.length = 2 := by
  intro y hy
  obtain ⟨p, _, rfl⟩ := List.mem_map.1 hy
  rfl
set_option maxHeartbeats 4000000 in
theorem wOf (w0 : World) (hM : MarksOk w0) (hW : WidesOk w0) (S : List Blk) (c : Int) (R : AOut → List Blk → Prop) (h : R (.ret (.int .i64 (widthOf c))) S) : ACall Tryz.prog w0 93 [.int .i64 c] S R := by
  have hu := fun S' => uCheckI w0 S' c
  have hc := fun S' => wIn w0 S' false c [(0, 31), (127, 159)] (by decide)
  have hm := fun S' => wIn w0 S' false c marksT (by decide)
  have hw := fun S' => wIn w0 S' false c widesT (by decide)
  unfold MarksOk at hM
  unfold WidesOk at hW
  unfold widthOf at h
  simp only [List.map_cons, List.map_nil, SpV] at hc
  have hM1 : gl w0 0 = .pro (.int .i64 768 :: (flat (marksT.map SpV)).drop 1) := by rw [hM]; rfl
  cases hk : decide (0 ≤ c) && okU c.toNat with
  | false =>
    rw [hk] at h hu
    clear hm hw hc hM hW hM1 hk
    refine eN Tryz.func93 rfl Tryz.ntmps93 fun hO => ?_
    repeat' first | refine st ?_ | (refine ca ?_; apply hu) | (refine br ?_ ?_ <;> intro hb) | fail
    refine fR Tryz.results93 ?_
    exact h
  | true =>
    have h0 : 0 ≤ c := by
      have := (Bool.and_eq_true _ _ ▸ hk).1
      simpa using this
    rw [ctl_two c h0] at hc
    rw [hk] at h hu
    simp only [Bool.not_true, Bool.false_or] at h
    cases hi : decide (c < 32) || (decide (127 ≤ c) && decide (c < 160)) with
    | true =>
      rw [hi] at h hc
      clear hm hw hM hW hM1 hk hi h0
      refine eN Tryz.func93 rfl Tryz.ntmps93 fun hO => ?_
      repeat' first | refine st ?_ | (refine ca ?_; first | apply hu | apply hc) | (apply x_callA [S.length]; (· simp only [go_sem, *]; try rfl); (· rfl); (· simp only [go_sem, *]; try rfl); (· rfl); (iterate 2 (· simp only [go_sem, *]; try rfl)); first | apply hu | apply hc) | (refine br ?_ ?_ <;> intro hb) | fail
      refine fR Tryz.results93 ?_
      exact h
    | false =>
      rw [hi] at h hc
      simp only [Bool.false_eq_true, if_false] at h
      by_cases h7 : c < 768
      · obtain ⟨b1, b2⟩ := below_marks c h7
        rw [b1, b2] at h
        have d7 : decide (c < 768) = true := decide_eq_true h7
        clear hm hw hM hW hk hi h0 h7 b1 b2
        refine eN Tryz.func93 rfl Tryz.ntmps93 fun hO => ?_
        repeat' first | refine st ?_ | (refine ca ?_; first | apply hu | apply hc) | (apply x_callA [S.length]; (· simp only [go_sem, *]; try rfl); (· rfl); (· simp only [go_sem, *]; try rfl); (· rfl); (iterate 2 (· simp only [go_sem, *]; try rfl)); first | apply hu | apply hc) | (refine br ?_ ?_ <;> intro hb) | fail
        refine fR Tryz.results93 ?_
        exact h
      · have d7 : decide (c < 768) = false := decide_eq_false h7
        clear hk hi h0 h7
        cases hi1 : inR marksT c with
        | true =>
          rw [hi1] at h hm
          have HM := Lib.hid hM
          clear hw hM hW hi1
          refine eN Tryz.func93 rfl Tryz.ntmps93 fun hO => ?_
          repeat' first | refine st ?_ | (refine ca ?_; first | apply hu | apply hc) | (apply x_callA [S.length]; (· simp only [go_sem, *]; try rfl); (· rfl); (· simp only [go_sem, *]; try rfl); (· rfl); (iterate 2 (· simp only [go_sem, *]; try rfl)); first | apply hu | apply hc) | (refine br ?_ ?_ <;> intro hb) | fail
          have hM := HM.out
          clear hM1
          refine x_sliceG (els := marksT.map SpV) ss rfl un_250 sz_249 hM (by decide) SpV_len ss ?_
          clear hM
          repeat' first | refine st ?_ | (refine ca ?_; apply hm) | (refine br ?_ ?_ <;> intro hb) | fail
          refine fR Tryz.results93 ?_
          exact h
        | false =>
          rw [hi1] at h hm
          have HM := Lib.hid hM
          have HW := Lib.hid hW
          clear hM hW hi1
          refine eN Tryz.func93 rfl Tryz.ntmps93 fun hO => ?_
          repeat' first | refine st ?_ | (refine ca ?_; first | apply hu | apply hc) | (apply x_callA [S.length]; (· simp only [go_sem, *]; try rfl); (· rfl); (· simp only [go_sem, *]; try rfl); (· rfl); (iterate 2 (· simp only [go_sem, *]; try rfl)); first | apply hu | apply hc) | (refine br ?_ ?_ <;> intro hb) | fail
          have hM := HM.out
          clear hM1
          refine x_sliceG (els := marksT.map SpV) ss rfl un_250 sz_249 hM (by decide) SpV_len ss ?_
          clear hM
          repeat' first | refine st ?_ | (refine ca ?_; apply hm) | (refine br ?_ ?_ <;> intro hb) | fail
          have hW := HW.out
          refine x_sliceG (els := widesT.map SpV) ss rfl un_252 sz_249 hW (by decide) SpV_len ss ?_
          clear hW
          cases hi2 : inR widesT c <;> rw [hi2] at h hw <;> clear hi2
          all_goals
            repeat' first | refine st ?_ | (refine ca ?_; apply hw) | (refine br ?_ ?_ <;> intro hb) | fail
            refine fR Tryz.results93 ?_
            exact h
end Go.Proofs.YtecgddmmdgccfaaGreatDoor
namespace Go.Proofs.YtecgddmmdgccfaaGreatDoor
open Go Go.Fen
set_option linter.unusedSimpArgs false
set_option linter.unusedVariables false
attribute [local irreducible] RunX WP ACall AnyP OpA ProtL afterCall afterOp
set_option maxRecDepth 8000
def penA (n m : Int) : Ac := ⟨39, n, m, 0, 0, []⟩
def colA (n k c : Int) : Ac := ⟨39, n, 0, k, c, []⟩
theorem sPen (w0 : World) (S : List Blk) (n m : Int) (R : AOut → List Blk → Prop) (h : R (.ret (penA n m).av) S) : ACall Tryz.prog w0 245 [.int .i64 n, .int .i64 m] S R := by
  unfold penA Ac.av at h
  refine eN Tryz.func245 rfl Tryz.ntmps245 fun hO => ?_
  repeat' first | refine st ?_ | (refine br ?_ ?_ <;> intro hb) | fail
  refine fR Tryz.results245 ?_
  exact h
theorem sColored (w0 : World) (S : List Blk) (n k c : Int) (R : AOut → List Blk → Prop) (h : R (.ret (colA n k c).av) S) : ACall Tryz.prog w0 400 [.int .i64 n, .int .i64 k, .int .i64 c] S R := by
  unfold colA Ac.av at h
  refine eN Tryz.func400 rfl Tryz.ntmps400 fun hO => ?_
  repeat' first | refine st ?_ | (refine br ?_ ?_ <;> intro hb) | fail
  refine fR Tryz.results400 ?_
  exact h
def AttrsOk (w0 : World) : Prop := gl w0 3 = .pro [.int .i64 1, .int .i64 1, .int .i64 22, .int .i64 2, .int .i64 2, .int .i64 22, .int .i64 4, .int .i64 3, .int .i64 23, .int .i64 8, .int .i64 5, .int .i64 25, .int .i64 16, .int .i64 7, .int .i64 27, .int .i64 32, .int .i64 8, .int .i64 28, .int .i64 64, .int .i64 9, .int .i64 29, .int .i64 128, .int .i64 53, .int .i64 55]
def simT : List (Int × Ac) := [(0, penA 0 0), (4, penA 3 1), (21, penA 3 2), (24, penA 3 0), (39, penA 4 0), (49, penA 5 0), (59, penA 6 0), (1, penA 1 1), (22, penA 2 3), (2, penA 1 2), (3, penA 1 4), (23, penA 2 4), (5, penA 1 8), (25, penA 2 8), (7, penA 1 16), (27, penA 2 16), (8, penA 1 32), (28, penA 2 32), (9, penA 1 64), (29, penA 2 64), (53, penA 1 128), (55, penA 2 128), (6, penA 1 8), (30, colA 4 1 0), (90, colA 4 1 8), (40, colA 5 1 0), (100, colA 5 1 8), (31, colA 4 1 1), (91, colA 4 1 9), (41, colA 5 1 1), (101, colA 5 1 9), (32, colA 4 1 2), (92, colA 4 1 10), (42, colA 5 1 2), (102, colA 5 1 10), (33, colA 4 1 3), (93, colA 4 1 11), (43, colA 5 1 3), (103, colA 5 1 11), (34, colA 4 1 4), (94, colA 4 1 12), (44, colA 5 1 4), (104, colA 5 1 12), (35, colA 4 1 5), (95, colA 4 1 13), (45, colA 5 1 5), (105, colA 5 1 13), (36, colA 4 1 6), (96, colA 4 1 14), (46, colA 5 1 6), (106, colA 5 1 14), (37, colA 4 1 7), (97, colA 4 1 15), (47, colA 5 1 7), (107, colA 5 1 15)]
def simE : List (AV × AV) := simT.map fun p => (.int .i64 p.1, p.2.av)
set_option maxHeartbeats 40000000 in
theorem sSimple (w0 : World) (hA : AttrsOk w0) (S : List Blk) (R : AOut → List Blk → Prop) (h : R (.ret (.mval simE)) S) : ACall Tryz.prog w0 332 [] S R := by
  have hpn := sPen w0
  have hco := sColored w0
  have H := Lib.hid h
  clear h
  unfold AttrsOk at hA
  simp only [penA, Ac.av] at hpn
  simp only [colA, Ac.av] at hco
  refine eN Tryz.func332 rfl Tryz.ntmps332 fun hO => ?_
  iterate 16
    repeat' first | refine st ?_ | (refine ca ?_; first | apply hpn | apply hco) | (refine br ?_ ?_ <;> intro hb) | apply x_loop | apply x_lp | refine sd ?_ | refine sx ?_ | apply pl_nil | (apply c_end; (· decide +kernel)) | refine bd ?_ ?_ | (refine cd ?_; first | apply hpn | apply hco) | fail
    apply x_entry3
    iterate 9 (· rfl)
    iterate 2 (· decide)
    iterate 3 (· simp only [go_sem, *]; try rfl)
    try simp only [go_sem]
  repeat' first | refine st ?_ | (refine ca ?_; first | apply hpn | apply hco) | (refine br ?_ ?_ <;> intro hb) | apply x_loop | apply x_lp | refine sd ?_ | refine sx ?_ | apply pl_nil | (apply c_end; (· decide +kernel)) | refine bd ?_ ?_ | (refine cd ?_; first | apply hpn | apply hco) | fail
  refine fR Tryz.results332 ?_
  exact H.out
end Go.Proofs.YtecgddmmdgccfaaGreatDoor
namespace Go.Proofs.YtecgddmmdgccfaaGreatDoor
open Go Go.Fen
set_option linter.unusedSimpArgs false
set_option linter.unusedVariables false
attribute [local irreducible] RunX WP ACall AnyP OpA ProtL afterCall afterOp
set_option maxRecDepth 8000
theorem cMul (w0 : World) (S : List Blk) (n : Nat) (hn : n < 18446744073709551616) (R : AOut → List Blk → Prop) (h : R (.ret (.tup [.int .u64 0, .int .u64 n])) S) : ACall Tryz.prog w0 185 [.int .u64 1, .int .u64 n] S R := by
  refine ACall.libR (vs := [.int .u64 1, .int .u64 n]) (Go.Proofs.enters_of Tryz.func185 (by kernel_rfl) rfl) rfl ?_
  intro w hb
  refine (Go.Proofs.Any.bits_Mul Go.Proofs.Tryz.lays212 1 n (by omega) hn w).mono ?_
  rintro e w' ⟨rfl, rfl⟩
  refine ⟨_, rfl, RowKit.Below.refl _ _, .tup [.int .u64 0, .int .u64 n], fun ι ψ => ?_, h⟩
  have e1 : 1 * n / 18446744073709551616 = 0 := by omega
  have e2 : 1 * n % 18446744073709551616 = n := by omega
  rw [e1, e2]
  refine .tup _ _ rfl fun j x v hx hv => ?_
  rcases j with _ | _ | j
  · cases hx; cases hv; exact .int _ _
  · cases hx; cases hv; exact .int _ _
  · cases hx
def zCell : AV := .agg [.int .i64 0, .int .i64 0, .int .i64 0, .int .i64 0, .int .i64 0, .int .i64 0, .int .i64 0, .int .i64 0, .int .i64 0, .int .i64 0, .int .i64 0, .int .i64 0]
def fillC (c : AV) (n m : Nat) : List AV := List.replicate m c ++ List.replicate (n - m) zCell
theorem fill_next (c : AV) (n m : Nat) (h : m ≤ n) : (fillC c n m).take m ++ (fillC c n m).take (min m (n - m)) ++ (fillC c n m).drop (m + min m (n - m)) = fillC c n (m + min m (n - m)) := by
  have t : ∀ k, k ≤ m → (fillC c n m).take k = List.replicate k c := fun k hk => by
    unfold fillC
    rw [List.take_append_of_le_length (by simp; omega), List.take_replicate, Nat.min_eq_left hk]
  have d : (fillC c n m).drop (m + min m (n - m)) = List.replicate (n - (m + min m (n - m))) zCell := by
    unfold fillC
    rw [List.drop_append, List.drop_of_length_le (by simp), List.length_replicate, List.nil_append, List.drop_replicate]
    congr 1
    omega
  rw [t m (Nat.le_refl _), t _ (Nat.min_le_left _ _), d, List.replicate_append_replicate]
  rfl
theorem rRepeat (w0 : World) (S : List Blk) (f : Bool) (c : AV) (n : Nat) (h1 : 1 ≤ n) (h2 : n ≤ 1000) (hc : okEls 12 [c] = true) (R : AOut → List Blk → Prop) (h : R (.ret (.sown S.length 0 n)) (S ++ [.arr 85 12 0 0 (List.replicate n c)])) :
    ACall Tryz.prog w0 129 [.sval f [c], .int .i64 n] S R := by
  have d0 : decide ((n : Int) < 0) = false := decide_eq_false (by omega)
  have w1 : IntKind.u64.wrap ((1 : Nat) : Int) = 1 := by decide
  have w2 : IntKind.u64.wrap (n : Int) = n := IntWalk.u64_in _ (by omega)
  have w3 : IntKind.i64.wrap (n : Int) = n := IntWalk.i64_in _ (by omega)
  have d1 : decide ((9223372036854775807 : Int) < n) = false := decide_eq_false (by omega)
  have e1 : einfo Tryz.prog 85 = some (12, 96, 12) := by kernel_rfl
  have z1 : zeroV Tryz.prog 85 = some zCell := by kernel_rfl
  have u1 : Tryz.prog.underlying 80 = some (.slice 85) := by kernel_rfl
  have k1 : okEls 12 [zCell] = true := by decide
  have c1 : (0 : Int) ≤ n := by omega
  have c2 : (n : Int) * ((96 : Nat) : Int) ≤ 140737488355328 := by omega
  have m1 : makeSliceA Tryz.prog S 80 (.int .i64 n) (.int .i64 n) = some (.sown S.length 0 n, S ++ [.arr 85 12 0 0 (List.replicate n zCell)]) := by
    unfold makeSliceA
    simp only [u1, e1, z1]
    rw [if_pos ⟨k1, by omega, by omega, trivial, c1, Int.le_refl _, c2⟩]
    rfl
  clear k1 c1 c2 z1
  have s1 : sizeT Tryz.prog 85 = some 12 := by kernel_rfl
  have hM := cMul w0 S n (by omega)
  refine enterK Tryz.func129 rfl (by decide +kernel) (by rw [Tryz.ntmps129]; simp) (by rw [Tryz.ntmps129]; decide) (fun hO => ?_); rw [Tryz.ntmps129]
  repeat' first | refine st ?_ | (refine ca ?_; apply hM) | (refine br ?_ ?_ <;> intro hb) | fail
  refine x_step0 rfl (show stepF _ _ _ _ = _ from m1) rfl ?_
  simp only [putA]
  repeat' first | refine st ?_ | (refine br ?_ ?_ <;> intro hb) | fail
  refine x_copy (e := 85) (e' := 85) (sz := 12) (els := List.replicate n zCell) (news := [c]) (a := S.length) (g := 0) rfl rfl (by show AV.sown S.length 0 n = _; rw [List.length_replicate]) (by simp) u1 s1 (by show srcA _ _ _ (.sval f [c]) = _; simp only [srcA, u1]) hc (by simp; omega) (by simp; omega) rfl ?_
  rw [show (S ++ [Blk.arr 85 12 0 0 (List.replicate n zCell)]).set S.length (.arr 85 12 0 0 ([c] ++ (List.replicate n zCell).drop [c].length)) = S ++ [.arr 85 12 0 0 (fillC c n 1)] from by
    rw [List.set_append_right _ _ (Nat.le_refl _), Nat.sub_self]
    simp [fillC]]
  simp only [putA]
  repeat' first | refine st ?_ | (refine br ?_ ?_ <;> intro hb) | fail
  refine x_ind (fun (m : Nat) env S' => 1 ≤ m ∧ m ≤ n ∧ env 1000000 = .dfr [] ∧ env 7 = .sown S.length 0 n ∧ env 8 = .int .i64 m ∧ S' = S ++ [.arr 85 12 0 0 (fillC c n m)]) (fun m => n - m) 1 ⟨Nat.le_refl _, h1, ss, ss, ss, rfl⟩ ?_
  rintro m env S' ⟨hm1, hmn, e0, e7, e8, rfl⟩ IH
  have HI := Lib.hid IH
  have H := Lib.hid h
  clear IH h
  by_cases hlt : m < n
  · have d2 : decide ((m : Int) < (n : Int)) = true := decide_eq_true (by omega)
    repeat' first | refine st ?_ | (refine br ?_ ?_ <;> intro hb) | fail
    refine x_selfCopy (ts := 80) (ti := 3) (e' := 85) (a := S.length) (g := 0) (m := m) (n := n) (els := fillC c n m) (sz := 12) ?_ (by kernel_rfl) u1 s1 ss ss (by simp; rfl) (by simp [fillC]; omega) (by omega) hlt (by omega) ?_
    · exact ⟨by kernel_rfl, by kernel_rfl, ⟨_, rfl, rfl, rfl, rfl⟩, ⟨_, rfl, rfl, rfl, rfl⟩, ⟨_, rfl, rfl, rfl, rfl⟩, ⟨_, rfl, rfl, rfl, rfl⟩, ⟨_, rfl, rfl, rfl, rfl⟩, ⟨_, rfl, rfl, rfl, rfl⟩, ⟨_, rfl, rfl, rfl, rfl⟩, ⟨_, rfl, rfl, rfl, rfl⟩, ⟨_, rfl, rfl, rfl, rfl⟩, ⟨_, rfl, rfl, rfl, rfl⟩, ⟨by kernel_rfl, by kernel_rfl⟩, ⟨by kernel_rfl, by kernel_rfl⟩, ⟨by kernel_rfl, by kernel_rfl⟩, ⟨by kernel_rfl, by kernel_rfl⟩, ⟨by kernel_rfl, by kernel_rfl⟩, ⟨by kernel_rfl, by kernel_rfl⟩, ⟨by kernel_rfl, by kernel_rfl⟩, by kernel_rfl, by kernel_rfl, by kernel_rfl, by kernel_rfl⟩
    rw [show (S ++ [Blk.arr 85 12 0 0 (fillC c n m)]).set S.length (.arr 85 12 0 0 ((fillC c n m).take m ++ (fillC c n m).take (min m (n - m)) ++ (fillC c n m).drop (m + min m (n - m)))) = S ++ [.arr 85 12 0 0 (fillC c n (m + min m (n - m)))] from by
      rw [List.set_append_right _ _ (Nat.le_refl _), Nat.sub_self, fill_next c n m hmn]; rfl]
    simp only [putA]
    repeat' first | refine st ?_ | (refine br ?_ ?_ <;> intro hb) | fail
    refine HI.out (m + min m (n - m)) _ _ (by omega) ⟨by omega, by omega, ss, ss, ss, rfl⟩
  · have d2 : decide ((m : Int) < (n : Int)) = false := decide_eq_false (by omega)
    obtain rfl : m = n := by omega
    repeat' first | refine st ?_ | (refine br ?_ ?_ <;> intro hb) | fail
    have hfull : fillC c m m = List.replicate m c := by simp [fillC]
    rw [hfull]
    refine f_retK (ms := []) (vs := [.sown S.length 0 m]) (v := .sown S.length 0 m) (S2 := S ++ [.arr 85 12 0 0 (List.replicate m c)]) ss rfl ?_ rfl H.out
    simp only [go_sem, Tryz.results129]
    try rfl
end Go.Proofs.YtecgddmmdgccfaaGreatDoor
namespace Go.Proofs.YtecgddmmdgccfaaGreatDoor
open Go Go.Fen
set_option linter.unusedSimpArgs false
set_option linter.unusedVariables false
attribute [local irreducible] RunX WP ACall AnyP OpA ProtL afterCall afterOp
set_option maxRecDepth 8000
theorem bldEx156 : Go.Proofs.Builder.Extra Tryz.prog Go.Proofs.Tryz.lays156_ren where
  sizeBuilder := by kernel_rfl
  liesBuilder := by kernel_rfl
  t5 := Tryz.underlying5
  a5 := Tryz.isAgg5
  z5 := Tryz.sizeOf5
  v5 := Tryz.zeroValue5
  infoByte := by kernel_rfl
  cellsByte := by kernel_rfl
  sizeByte := by kernel_rfl
  neB5 := by decide +kernel
theorem str_inv {ι : List Pl} {ψ : Psi} {s : List UInt8} {v : Value} (h : VR ι ψ (.str s) v) : ∃ b : ByteArray, v = .string b ∧ b.data.toList = s := by
  cases h with
  | str _ b hb => exact ⟨b, rfl, hb⟩
theorem cJoin (w0 : World) (S : List Blk) (l : List (List UInt8)) (sep : List UInt8) (hl : l ≠ []) (hn : l.length ≤ 140737488355328) (hlen : (Lib.join l sep).length ≤ 140737488355328) (R : AOut → List Blk → Prop)
    (h : R (.ret (.str (Lib.join l sep))) S) : ACall Tryz.prog w0 182 [.sval false (l.map AV.str), .str sep] S R := by
  unfold ACall
  refine ⟨Go.Proofs.enters_of Tryz.func182 (by kernel_rfl) rfl, fun ι ψ w cargs hRel hal hargs => ?_⟩
  obtain ⟨c1, c2, rfl⟩ : ∃ c1 c2, cargs = #[c1, c2] := by
    obtain ⟨cl⟩ := cargs
    match cl, hal with
    | [a, b], _ => exact ⟨a, b, rfl⟩
  have v1 := hargs 0 _ c1 rfl rfl
  have v2 := hargs 1 _ c2 rfl rfl
  obtain ⟨sb, rfl, hsb⟩ := str_inv v2
  generalize hel : l.map AV.str = els at v1
  cases v1 with
  | svnil _ => exact absurd (List.map_eq_nil_iff.1 hel) hl
  | sve _ _ _ _ => exact absurd (List.map_eq_nil_iff.1 hel) hl
  | sval sz _ _ b o cap cv hsz hcap hf h1 h2 =>
    have hget : ∀ (j : Nat) x, l[j]? = some x → ∃ ba : ByteArray, ba.data.toList = x ∧ w.cell? ⟨b, o + j, none⟩ = some (.string ba) := by
      intro j x hx
      have hej : els[j]? = some (.str x) := by rw [← hel, List.getElem?_map, hx]; rfl
      have hs1 : sz = 1 := (hsz j _ hej).symm
      subst hs1
      obtain ⟨_, hψ⟩ := h1 j _ 0 (.str x) hej rfl
      obtain ⟨ba, hba, hbx⟩ := str_inv (h2 j _ 0 (.str x) hej rfl)
      rw [hba] at hψ
      exact ⟨ba, hbx, by have := hRel.psi _ _ _ hψ; simpa using this⟩
    have hxs : ∃ xs : List ByteArray, xs.map (·.data.toList) = l ∧ ∀ (j : Nat) x, xs[j]? = some x → w.cell? ⟨b, o + j, none⟩ = some (.string x) := by
      refine ⟨l.map fun x => ⟨x.toArray⟩, (by rw [List.map_map]; exact (List.map_congr_left (fun _ _ => rfl)).trans (List.map_id l)), fun j x hx => ?_⟩
      rw [List.getElem?_map, Option.map_eq_some_iff] at hx
      obtain ⟨y, hy, rfl⟩ := hx
      obtain ⟨ba, hb1, hb2⟩ := hget j y hy
      rw [hb2]
      subst hb1
      rfl
    obtain ⟨xs, hx1, hx2⟩ := hxs
    have hlen2 : els.length = xs.length := by rw [← hel, ← hx1]; simp
    rw [hlen2] at hcap ⊢
    have hbk : b < w.heap.size := by
      cases xs with
      | nil => rw [List.map_nil] at hx1; exact absurd hx1.symm hl
      | cons x r => exact World.block_lt_of_cell? w _ (hx2 0 x rfl)
    refine (Go.Proofs.Any.strings_Join Go.Proofs.Tryz.lays156 bldEx156 b o cap xs sb w hx2 hbk (by have := congrArg List.length hx1; simp at this; omega) hcap (by rw [hx1, hsb]; exact hlen)).mono ?_
    rintro e w' ⟨rfl, hb⟩
    have hb0 : RowKit.Below w0.heap.size w w' := hb.mono hRel.n0
    rw [hx1, hsb]
    exact ⟨ι, ψ, .ret (.str (Lib.join l sep)), S, Ext.refl _ _, hRel.grow hb0 (fun k hk => hb.block k hk) (Psi.le_refl _) (fun _ _ _ e => .inl e) (fun _ _ _ e => .inl e), .str' _, h⟩
end Go.Proofs.YtecgddmmdgccfaaGreatDoor
namespace Go.Proofs.YtecgddmmdgccfaaGreatDoor
open Go Go.Fen
set_option linter.unusedSimpArgs false
set_option linter.unusedVariables false
attribute [local irreducible] RunX WP ACall AnyP OpA ProtL afterCall afterOp
set_option maxRecDepth 8000
theorem eiRow : einfo Tryz.prog 82 = some (2, 32, 2) := by kernel_rfl
theorem growRow (w0 : World) (S : List Blk) (n : Nat) (h1 : 1 ≤ n) (h2 : n ≤ 100000) (R : AOut → List Blk → Prop) (h : R (.ret (.sown S.length 0 0)) (S ++ [.arr 82 2 0 0 []])) :
    ACall Tryz.prog w0 230 [.snil, .int .i64 (n : Int)] S R := by
  unfold ACall
  refine ⟨Go.Proofs.enters_of Tryz.func230 (by kernel_rfl) rfl, fun ι ψ w cargs hRel hl hargs => ?_⟩
  obtain ⟨c0, c1, rfl⟩ : ∃ c0 c1, cargs = #[c0, c1] := by
    match cargs, hl with
    | ⟨[c0, c1]⟩, _ => exact ⟨c0, c1, rfl⟩
  have v0 := hargs 0 _ _ rfl rfl
  obtain rfl := (hargs 1 _ _ rfl rfl).int_inv
  cases v0 with
  | snil =>
  obtain ⟨i, z, hi, hz, hs, hb, hzs⟩ := einfo_spec eiRow
  refine (Go.Proofs.Any8.slices_Grow_grow Go.Proofs.Tryz.growRow i z hi hz (by omega) none 0 0 n [] w (Nat.le_refl _) (by omega) ?_ (by omega) (by simp) (fun _ => rfl) (fun a ha => by cases ha)).mono ?_
  · rw [hb]; omega
  rintro e w' ⟨rfl, rfl⟩
  have hcm := grownCap_le_maxLen w (0 + n) 0 82 (by simp only [maxLen]; omega)
  have hge := grownCap_ge w (0 + n) 0 82
  have key := hRel.drew.newArr 82 2 0 (grownCap w (0 + n) 0 82) [] (#[] ++ Builtin.zeroCells z.cells (0 + n - 0) ++ Builtin.zeroCells z.cells (grownCap w (0 + n) 0 82 - (0 + n))) rfl rfl (by omega) (Nat.zero_le _) hcm ?_ (fun j x e => by simp [flat] at e)
  · refine ⟨_, _, .ret (.sown S.length 0 0), _, Ext.push ι ψ _, key, ?_, h⟩
    refine .sown _ _ _ _ _ ⟨0, 0, .slice (some ⟨w.heap.size, 0, none⟩) 0 (grownCap w (0 + n) 0 82), 2⟩ ?_ (Nat.le_refl _) (fun _ => rfl)
    rw [← hRel.len]; simp
  · simp only [Array.size_append, size_zeroCells, hzs, List.size_toArray, List.length_nil]
    omega
end Go.Proofs.YtecgddmmdgccfaaGreatDoor
