/- YtnndmokndgnidaaGreatDoorWalk2. Texts of the proof of a law about recordings: a layer of abstract values above the worlds, the types, the walks of the functions that the law reaches, the law and its card. Own work of an AI agent. -/
import Derived.Test.YtnndmokndgnidaaGreatDoorWalk1
import Derived.Test.YtnndmokndgnidaaGreatDoorCore1
set_option linter.all false
set_option linter.unusedVariables false
set_option linter.unusedSimpArgs false
namespace Go.Proofs.YtnndmokndgnidaaGreatDoor
open Go Go.Fen
set_option linter.unusedSimpArgs false
set_option linter.unusedVariables false
attribute [local irreducible] RunX WP ACall AnyP OpA ProtL
set_option maxRecDepth 8000
def hexD1 (b : UInt8) : Option Nat :=
  if 48 ≤ b.toNat ∧ b.toNat ≤ 57 then some (b.toNat - 48)
  else if 97 ≤ b.toNat ∧ b.toNat ≤ 102 then some (b.toNat - 87)
  else if 65 ≤ b.toNat ∧ b.toNat ≤ 70 then some (b.toNat - 55) else none
def hexV (a b : UInt8) : Option Nat :=
  match hexD1 a, hexD1 b with
  | some x, some y => some (x * 16 + y)
  | _, _ => none
theorem hexD1_lt {a : UInt8} {x : Nat} (h : hexD1 a = some x) : x < 16 := by
  unfold hexD1 at h
  split at h
  · cases h; omega
  · split at h
    · cases h; omega
    · split at h
      · cases h; omega
      · cases h
theorem hexV_lt {a b : UInt8} {v : Nat} (h : hexV a b = some v) : v < 256 := by
  unfold hexV at h
  split at h
  · next x y hx hy =>
    cases h
    have := hexD1_lt hx
    have := hexD1_lt hy
    omega
  · cases h
def unq : List UInt8 → List UInt8 → Option (List UInt8 × List UInt8)
  | _, [] => none
  | acc, c :: s =>
    if c.toNat = 34 then some (acc, s) else if ¬ c.toNat = 92 then (if 32 ≤ c.toNat ∧ c.toNat ≤ 126 then unq (acc ++ [c]) s else none) else
      match s with
      | [] => none
      | d :: s2 => if d.toNat = 92 ∨ d.toNat = 34 then unq (acc ++ [d]) s2 else if d.toNat = 110 then unq (acc ++ [10]) s2 else if d.toNat = 120 then
        (match s2 with
        | b1 :: b2 :: s3 => (match hexV b1 b2 with
          | some v => unq (acc ++ [UInt8.ofNat v]) s3
          | none => none)
        | _ => none) else none
theorem unq_cons (acc : List UInt8) (c : UInt8) (s : List UInt8) : unq acc (c :: s) =
    if c.toNat = 34 then some (acc, s) else if ¬ c.toNat = 92 then (if 32 ≤ c.toNat ∧ c.toNat ≤ 126 then unq (acc ++ [c]) s else none) else
      match s with
      | [] => none
      | d :: s2 => if d.toNat = 92 ∨ d.toNat = 34 then unq (acc ++ [d]) s2 else if d.toNat = 110 then unq (acc ++ [10]) s2 else if d.toNat = 120 then
        (match s2 with
        | b1 :: b2 :: s3 => (match hexV b1 b2 with
          | some v => unq (acc ++ [UInt8.ofNat v]) s3
          | none => none)
        | _ => none) else none := by
  first
  | rfl
  | rw [unq.eq_def]
def PU16 (w0 : World) : Prop := ∀ (S : List Blk) (b1 b2 : UInt8) (R : AOut → List Blk → Prop), (∀ v, hexV b1 b2 = some v → R (.ret (.tup [.int .u64 v, .inil])) S) → (hexV b1 b2 = none → ∀ t x, R (.ret (.tup [.int .u64 0, .ifc t x])) S) →
  ACall Tryz.prog w0 87 [.str [b1, b2], .int .i64 16, .int .i64 8] S R
theorem tkT (w0 : World) (a n : Nat) {s l r : List UInt8} (hs : s = l ++ r) (hn : l.length = n) : TxT w0 a 78 [.int .i64 n] s r (.str l) := by
  intro S ha R hR
  refine takeT w0 S a s n _ ha (by rw [hs, ← hn]; simp) rfl R ?_
  rw [hs, ← hn, List.take_left, List.drop_left]
  exact hR
theorem tkF (w0 : World) (a n : Nat) {s : List UInt8} (hs : s.length < n) : TxF w0 a 78 [.int .i64 n] s := by
  intro S ha R hR
  refine takeF w0 S a s n ha (by simp; omega) R ?_
  have := hR s
  rwa [show S.set a (.cells [.str s]) = S from set_self ha] at this
@[go_sem] theorem get_newS (S L : List Blk) (a : Nat) (X : Blk) : (S.set a X ++ L)[S.length]? = L[0]? := by
  have := List.getElem?_append_right (l₁ := S.set a X) (l₂ := L) (i := S.length) (by simp)
  simpa using this
@[go_sem] theorem get_newSi (S L : List Blk) (a i : Nat) (X : Blk) : (S.set a X ++ L)[S.length + i]? = L[i]? := by
  have := List.getElem?_append_right (l₁ := S.set a X) (l₂ := L) (i := S.length + i) (by simp)
  simpa using this
@[go_sem] theorem set_newS (S L : List Blk) (a : Nat) (X B : Blk) : (S.set a X ++ L).set S.length B = S.set a X ++ L.set 0 B := by
  have := set_new (S.set a X) L 0 B
  simpa using this
@[go_sem] theorem set_newSi (S L : List Blk) (a i : Nat) (X B : Blk) : (S.set a X ++ L).set (S.length + i) B = S.set a X ++ L.set i B := by
  have := set_new (S.set a X) L i B
  simpa using this
theorem f_panicO {P : Program} {F : Func} {S0 S S2 L : List Blk} {R : AOut → List Blk → Prop} {ms : List AV} {env : Env} {v v' : AV} (h0 : env DS = .dfr ms) (h01 : leaveM ms S = some (S2 ++ L)) (hl : S2.length = S0.length) (hO : OuterOk S2)
    (h3 : conv (S2 ++ L) (fun a => decide (S2.length ≤ a)) 4 v = v') (h4 : v'.lt S2.length = true) (h : R (.panic v') S2) : FPost P F S0 R (.panic v) env S := by
  subst h3
  refine ⟨ms, S2 ++ L, h0, h01, okOuter_of hO hl, ?_, ?_⟩
  · rw [← hl]; exact h4
  · rw [← hl, List.take_left]; exact h
set_option maxHeartbeats 4000000 in
theorem quotedL (w0 : World) (hPU : PU16 w0) (S : List Blk) (a : Nat) (s s1 : List UInt8) (hs : s.length ≤ 1000000000) (ha : S[a]? = some (.cells [.str s])) (h34 : oneP [34] s = some s1) (R : AOut → List Blk → Prop)
    (hR : ∀ v r, unq [] s1 = some (v, r) → R (.ret (.str v)) (S.set a (.cells [.str r]))) (hF : unq [] s1 = none → ∀ s', R (.panic badV) (S.set a (.cells [.str s']))) : ACall Tryz.prog w0 80 [.own a 0] S R := by
  have hal := (List.getElem?_eq_some_iff.1 ha).1
  have l1 := oneP_len h34
  have h1 := oT w0 a h34
  unfold TxT at h1
  have Hs := Lib.hid (show s1.length ≤ 1000000000 by omega)
  obtain ⟨fin, hfin⟩ : ∃ fin, unq [] s1 = fin := ⟨_, rfl⟩
  rw [hfin] at hR hF
  have HR := Lib.hid hR
  have HF := Lib.hid hF
  have HFin := Lib.hid hfin
  have HPU := Lib.hid hPU
  clear hs l1 hR hF hfin hPU h34
  refine enter Tryz.func80 rfl (by decide +kernel) (by rw [Tryz.ntmps80]; simp) (by rw [Tryz.ntmps80]; decide) (fun hO => ?_); rw [Tryz.ntmps80]
  repeat' first
    | apply x_seq | apply x_skip | apply x_block | apply x_exit | apply x_ret | apply x_ops_nil | apply p_blk | apply p_exit_it | apply p_exit_hit | apply p_ret_it | apply p_ret_blk | apply p_panic_it | apply p_panic_blk | apply p_end
    | (apply p_exit_miss; (focus rfl))
    | (apply x_region; simp only [List.toList_toArray])
    | (apply x_step0; (focus rfl); (focus (simp only [go_sem, *]; (try rfl); done)); (focus rfl); simp only [putA])
    | (apply x_callA []; (focus (simp only [go_sem, *]; (try rfl); done)); (focus rfl); (focus (simp only [go_sem, *]; (try rfl); done)); (focus rfl); (iterate 2 (focus (simp only [go_sem, *]; (try rfl); done))); (first | (apply h1; (focus (simp only [go_sem, *]; (try rfl); done)))); simp only [afterCall, putA])
    | (apply x_panic; (focus (simp only [go_sem, *]; (try rfl); done)); (focus rfl); (focus (simp only [go_sem, *]; (try rfl); done)))
    | (apply x_step; (iterate 2 (focus (simp only [go_sem, *]; (try rfl); done))); (focus rfl); simp only [putA])
    | (apply x_unwanted; (focus (simp only [go_sem, *]; (try rfl); done)); (focus rfl); simp only [putA])
    | (apply x_condT; (focus (simp only [go_sem, *]; (try rfl); done)))
    | (apply x_condF; (focus (simp only [go_sem, *]; (try rfl); done)))
    | (apply x_guardS; (focus rfl); (fail_if_success (focus (show _ = some true; (focus (simp only [go_sem, *]; (try rfl); done))))); (focus (simp only [go_sem, *]; (try rfl); done)); all_goals (intro hb; try simp only [Bool.not_eq_true', Bool.not_eq_false'] at hb))
    | (apply x_condS; (focus (simp only [go_sem, *]; (try rfl); done)); all_goals (intro hb; try simp only [Bool.not_eq_true', Bool.not_eq_false'] at hb))
  refine x_thaw (t := 4) 5 1 (by (simp only [go_sem, *]; try rfl)) (by decide) ?_
  refine x_ind (fun (p : List UInt8 × List UInt8 × Nat) env S' => p.1.length + p.2.1.length ≤ 1000000000 ∧ unq p.1 p.2.1 = fin ∧ env 1000000 = .dfr [] ∧ env 0 = .own a 0 ∧ env 3 = .fn (.func 78) [.own a 0] [] ∧ env 4 = .sown S.length p.2.2 p.1.length ∧
    S' = S.set a (.cells [.str p.2.1]) ++ [.arr 5 1 0 p.2.2 (p.1.map bAV)]) (fun p => p.2.1.length) ([], s1, 0) ?_ ?_
  · refine ⟨by have := Hs.out; simpa using this, HFin.out, by (simp only [go_sem, *]; try rfl), by (simp only [go_sem, *]; try rfl), by (simp only [go_sem, *]; try rfl), by (simp only [go_sem, *]; try rfl), ?_⟩
    simp
  · clear h1 ha Hs HFin
    rintro ⟨acc, s, g⟩ env S' ⟨hl, hu, e0, f0, f3, f4, rfl⟩ IH
    have HI := Lib.hid IH
    have Hl := Lib.hid hl
    have hbl : (acc.map bAV).length = acc.length := by simp
    have hb1 : (acc.length + 1) * 1 ≤ 140737488355328 := by simp only at hl; omega
    have ha : ∀ X, (S.set a X)[a]? = some X := by intro X; simp [hal]
    clear IH hl
    cases s with
    | nil =>
      have hfin : fin = none := by rw [← hu]; rfl
      have t1 := tkF w0 a 1 (s := []) (by simp)
      unfold TxF at t1
      clear hu
      repeat' first
        | apply x_seq | apply x_skip | apply x_block | apply x_exit | apply x_ret | apply x_ops_nil | apply p_blk | apply p_exit_it | apply p_exit_hit | apply p_ret_it | apply p_ret_blk | apply p_panic_it | apply p_panic_blk | apply p_end
        | (apply p_exit_miss; (focus rfl))
        | (apply x_region; simp only [List.toList_toArray])
        | (apply x_step0; (focus rfl); (focus (simp only [go_sem, *]; (try rfl); done)); (focus rfl); simp only [putA])
        | (apply x_callA []; (focus (simp only [go_sem, *]; (try rfl); done)); (focus rfl); (focus (simp only [go_sem, *]; (try rfl); done)); (focus rfl); (iterate 2 (focus (simp only [go_sem, *]; (try rfl); done))); (first | (apply t1; (focus (simp only [go_sem, *]; (try rfl); done)))); simp only [afterCall, putA])
        | (apply x_panic; (focus (simp only [go_sem, *]; (try rfl); done)); (focus rfl); (focus (simp only [go_sem, *]; (try rfl); done)))
        | (apply x_step; (iterate 2 (focus (simp only [go_sem, *]; (try rfl); done))); (focus rfl); simp only [putA])
        | (apply x_unwanted; (focus (simp only [go_sem, *]; (try rfl); done)); (focus rfl); simp only [putA])
        | (apply x_condT; (focus (simp only [go_sem, *]; (try rfl); done)))
        | (apply x_condF; (focus (simp only [go_sem, *]; (try rfl); done)))
        | (apply x_guardS; (focus rfl); (fail_if_success (focus (show _ = some true; (focus (simp only [go_sem, *]; (try rfl); done))))); (focus (simp only [go_sem, *]; (try rfl); done)); all_goals (intro hb; try simp only [Bool.not_eq_true', Bool.not_eq_false'] at hb))
        | (apply x_condS; (focus (simp only [go_sem, *]; (try rfl); done)); all_goals (intro hb; try simp only [Bool.not_eq_true', Bool.not_eq_false'] at hb))
      intro s'
      repeat' first
        | apply x_seq | apply x_skip | apply x_block | apply x_exit | apply x_ret | apply x_ops_nil | apply p_blk | apply p_exit_it | apply p_exit_hit | apply p_ret_it | apply p_ret_blk | apply p_panic_it | apply p_panic_blk | apply p_end
        | (apply p_exit_miss; (focus rfl))
        | (apply x_region; simp only [List.toList_toArray])
        | (apply x_step0; (focus rfl); (focus (simp only [go_sem, *]; (try rfl); done)); (focus rfl); simp only [putA])
        | (apply x_panic; (focus (simp only [go_sem, *]; (try rfl); done)); (focus rfl); (focus (simp only [go_sem, *]; (try rfl); done)))
        | (apply x_step; (iterate 2 (focus (simp only [go_sem, *]; (try rfl); done))); (focus rfl); simp only [putA])
        | (apply x_unwanted; (focus (simp only [go_sem, *]; (try rfl); done)); (focus rfl); simp only [putA])
        | (apply x_condT; (focus (simp only [go_sem, *]; (try rfl); done)))
        | (apply x_condF; (focus (simp only [go_sem, *]; (try rfl); done)))
        | (apply x_guardS; (focus rfl); (fail_if_success (focus (show _ = some true; (focus (simp only [go_sem, *]; (try rfl); done))))); (focus (simp only [go_sem, *]; (try rfl); done)); all_goals (intro hb; try simp only [Bool.not_eq_true', Bool.not_eq_false'] at hb))
        | (apply x_condS; (focus (simp only [go_sem, *]; (try rfl); done)); all_goals (intro hb; try simp only [Bool.not_eq_true', Bool.not_eq_false'] at hb))
      apply f_panicO (S2 := S.set a (.cells [.str s'])) (L := [.arr 5 1 0 g (acc.map bAV)])
      · (simp only [go_sem, *]; try rfl)
      · (simp only [go_sem, *]; try rfl)
      · simp
      · exact OuterOk.set hO rfl
      · (simp only [go_sem, *, badV]; try rfl)
      · (simp only [go_sem, *, badV]; try rfl)
      · exact HF.out hfin _
    | cons c s =>
      have t1 := tkT w0 a 1 (s := c :: s) (l := [c]) (r := s) rfl rfl
      unfold TxT at t1
      have hwi := within w0
      have hmT := mustT w0
      have hmF := mustF w0
      have hcn := c.toNat_lt
      have hwc : IntKind.i64.wrap (c.toNat : Int) = (c.toNat : Int) := IntWalk.i64_in _ (by omega)
      by_cases q1 : c.toNat = 34
      · obtain rfl : c = 34 := by rw [← UInt8.ofNat_toNat (x := c), q1]; rfl
        have hfin : fin = some (acc, s) := by rw [← hu, unq_cons]; rfl
        have hby := bytesOf_map acc
        clear hu hcn hwc q1
        repeat' first
          | apply x_seq | apply x_skip | apply x_block | apply x_exit | apply x_ret | apply x_ops_nil | apply p_blk | apply p_exit_it | apply p_exit_hit | apply p_ret_it | apply p_ret_blk | apply p_panic_it | apply p_panic_blk | apply p_end
          | (apply p_exit_miss; (focus rfl))
          | (apply x_region; simp only [List.toList_toArray])
          | (apply x_step0; (focus rfl); (focus (simp only [go_sem, *]; (try rfl); done)); (focus rfl); simp only [putA])
          | (apply x_callA []; (focus (simp only [go_sem, *]; (try rfl); done)); (focus rfl); (focus (simp only [go_sem, *]; (try rfl); done)); (focus rfl); (iterate 2 (focus (simp only [go_sem, *]; (try rfl); done))); (first | (apply t1; (focus (simp only [go_sem, *]; (try rfl); done)))); simp only [afterCall, putA])
          | (apply x_panic; (focus (simp only [go_sem, *]; (try rfl); done)); (focus rfl); (focus (simp only [go_sem, *]; (try rfl); done)))
          | (apply x_step; (iterate 2 (focus (simp only [go_sem, *]; (try rfl); done))); (focus rfl); simp only [putA])
          | (apply x_unwanted; (focus (simp only [go_sem, *]; (try rfl); done)); (focus rfl); simp only [putA])
          | (apply x_condT; (focus (simp only [go_sem, *]; (try rfl); done)))
          | (apply x_condF; (focus (simp only [go_sem, *]; (try rfl); done)))
          | (apply x_guardS; (focus rfl); (fail_if_success (focus (show _ = some true; (focus (simp only [go_sem, *]; (try rfl); done))))); (focus (simp only [go_sem, *]; (try rfl); done)); all_goals (intro hb; try simp only [Bool.not_eq_true', Bool.not_eq_false'] at hb))
          | (apply x_condS; (focus (simp only [go_sem, *]; (try rfl); done)); all_goals (intro hb; try simp only [Bool.not_eq_true', Bool.not_eq_false'] at hb))
        apply f_retO (S2 := S.set a (.cells [.str s])) (L := [.arr 5 1 0 g (acc.map bAV)])
        · (simp only [go_sem, *]; try rfl)
        · (simp only [go_sem, *]; try rfl)
        · simp
        · exact OuterOk.set hO rfl
        · (simp only [go_sem, *, Tryz.results80]; try rfl)
        · (simp only [go_sem, *]; try rfl)
        · (simp only [go_sem, *]; try rfl)
        · exact HR.out _ _ hfin
      have e34 : (c == 34) = false := by simp; rintro rfl; simp at q1
      have l34 : ([c] == [34]) = false := by simp [e34]
      by_cases q2 : c.toNat = 92
      · obtain rfl : c = 92 := by rw [← UInt8.ofNat_toNat (x := c), q2]; rfl
        rw [unq_cons, if_neg q1, if_neg (by simp [q2])] at hu
        clear hwc hcn q1 q2 e34 l34 hwi
        cases s with
        | nil =>
          have hfin : fin = none := hu.symm
          have t2 := tkF w0 a 1 (s := []) (by simp)
          unfold TxF at t2
          clear hu
          repeat' first
            | apply x_seq | apply x_skip | apply x_block | apply x_exit | apply x_ret | apply x_ops_nil | apply p_blk | apply p_exit_it | apply p_exit_hit | apply p_ret_it | apply p_ret_blk | apply p_panic_it | apply p_panic_blk | apply p_end
            | (apply p_exit_miss; (focus rfl))
            | (apply x_region; simp only [List.toList_toArray])
            | (apply x_step0; (focus rfl); (focus (simp only [go_sem, *]; (try rfl); done)); (focus rfl); simp only [putA])
            | (apply x_callA []; (focus (simp only [go_sem, *]; (try rfl); done)); (focus rfl); (focus (simp only [go_sem, *]; (try rfl); done)); (focus rfl); (iterate 2 (focus (simp only [go_sem, *]; (try rfl); done))); (first | (apply t1; (focus (simp only [go_sem, *]; (try rfl); done))) | (apply t2; (focus (simp only [go_sem, *]; (try rfl); done)))); simp only [afterCall, putA])
            | (apply x_panic; (focus (simp only [go_sem, *]; (try rfl); done)); (focus rfl); (focus (simp only [go_sem, *]; (try rfl); done)))
            | (apply x_step; (iterate 2 (focus (simp only [go_sem, *]; (try rfl); done))); (focus rfl); simp only [putA])
            | (apply x_unwanted; (focus (simp only [go_sem, *]; (try rfl); done)); (focus rfl); simp only [putA])
            | (apply x_condT; (focus (simp only [go_sem, *]; (try rfl); done)))
            | (apply x_condF; (focus (simp only [go_sem, *]; (try rfl); done)))
            | (apply x_guardS; (focus rfl); (fail_if_success (focus (show _ = some true; (focus (simp only [go_sem, *]; (try rfl); done))))); (focus (simp only [go_sem, *]; (try rfl); done)); all_goals (intro hb; try simp only [Bool.not_eq_true', Bool.not_eq_false'] at hb))
            | (apply x_condS; (focus (simp only [go_sem, *]; (try rfl); done)); all_goals (intro hb; try simp only [Bool.not_eq_true', Bool.not_eq_false'] at hb))
          intro s'
          repeat' first
            | apply x_seq | apply x_skip | apply x_block | apply x_exit | apply x_ret | apply x_ops_nil | apply p_blk | apply p_exit_it | apply p_exit_hit | apply p_ret_it | apply p_ret_blk | apply p_panic_it | apply p_panic_blk | apply p_end
            | (apply p_exit_miss; (focus rfl))
            | (apply x_region; simp only [List.toList_toArray])
            | (apply x_step0; (focus rfl); (focus (simp only [go_sem, *]; (try rfl); done)); (focus rfl); simp only [putA])
            | (apply x_panic; (focus (simp only [go_sem, *]; (try rfl); done)); (focus rfl); (focus (simp only [go_sem, *]; (try rfl); done)))
            | (apply x_step; (iterate 2 (focus (simp only [go_sem, *]; (try rfl); done))); (focus rfl); simp only [putA])
            | (apply x_unwanted; (focus (simp only [go_sem, *]; (try rfl); done)); (focus rfl); simp only [putA])
            | (apply x_condT; (focus (simp only [go_sem, *]; (try rfl); done)))
            | (apply x_condF; (focus (simp only [go_sem, *]; (try rfl); done)))
            | (apply x_guardS; (focus rfl); (fail_if_success (focus (show _ = some true; (focus (simp only [go_sem, *]; (try rfl); done))))); (focus (simp only [go_sem, *]; (try rfl); done)); all_goals (intro hb; try simp only [Bool.not_eq_true', Bool.not_eq_false'] at hb))
            | (apply x_condS; (focus (simp only [go_sem, *]; (try rfl); done)); all_goals (intro hb; try simp only [Bool.not_eq_true', Bool.not_eq_false'] at hb))
          apply f_panicO (S2 := S.set a (.cells [.str s'])) (L := [.arr 5 1 0 g (acc.map bAV)])
          · (simp only [go_sem, *]; try rfl)
          · (simp only [go_sem, *]; try rfl)
          · simp
          · exact OuterOk.set hO rfl
          · (simp only [go_sem, *, badV]; try rfl)
          · (simp only [go_sem, *, badV]; try rfl)
          · exact HF.out hfin _
        | cons d s2 =>
          simp only at hu
          have t2 := tkT w0 a 1 (s := d :: s2) (l := [d]) (r := s2) rfl rfl
          unfold TxT at t2
          by_cases p1 : d.toNat = 92
          · have Hu := Lib.hid (show unq (acc ++ [d]) s2 = fin by rw [← hu, if_pos (.inl p1)])
            obtain rfl : d = 92 := by rw [← UInt8.ofNat_toNat (x := d), p1]; rfl
            clear hu p1
            repeat' first
              | apply x_seq | apply x_skip | apply x_block | apply x_exit | apply x_ret | apply x_ops_nil | apply p_blk | apply p_exit_it | apply p_exit_hit | apply p_ret_it | apply p_ret_blk | apply p_panic_it | apply p_panic_blk | apply p_end
              | (apply p_exit_miss; (focus rfl))
              | (apply x_region; simp only [List.toList_toArray])
              | (apply x_step0; (focus rfl); (focus (simp only [go_sem, *]; (try rfl); done)); (focus rfl); simp only [putA])
              | (apply x_callA []; (focus (simp only [go_sem, *]; (try rfl); done)); (focus rfl); (focus (simp only [go_sem, *]; (try rfl); done)); (focus rfl); (iterate 2 (focus (simp only [go_sem, *]; (try rfl); done))); (first | (apply t1; (focus (simp only [go_sem, *]; (try rfl); done))) | (apply t2; (focus (simp only [go_sem, *]; (try rfl); done)))); simp only [afterCall, putA])
              | (apply x_panic; (focus (simp only [go_sem, *]; (try rfl); done)); (focus rfl); (focus (simp only [go_sem, *]; (try rfl); done)))
              | (apply x_step; (iterate 2 (focus (simp only [go_sem, *]; (try rfl); done))); (focus rfl); simp only [putA])
              | (apply x_unwanted; (focus (simp only [go_sem, *]; (try rfl); done)); (focus rfl); simp only [putA])
              | (apply x_condT; (focus (simp only [go_sem, *]; (try rfl); done)))
              | (apply x_condF; (focus (simp only [go_sem, *]; (try rfl); done)))
              | (apply x_guardS; (focus rfl); (fail_if_success (focus (show _ = some true; (focus (simp only [go_sem, *]; (try rfl); done))))); (focus (simp only [go_sem, *]; (try rfl); done)); all_goals (intro hb; try simp only [Bool.not_eq_true', Bool.not_eq_false'] at hb))
              | (apply x_condS; (focus (simp only [go_sem, *]; (try rfl); done)); all_goals (intro hb; try simp only [Bool.not_eq_true', Bool.not_eq_false'] at hb))
            refine x_keepO (S0 := S.set a (.cells [.str s2])) (OuterOk.set hO rfl) 1 [0, 3, 4] (by simp) (by (simp only [go_sem, *]; try rfl)) (by (simp only [go_sem, *]; try rfl)) (by (simp only [go_sem, *]; try rfl)) ?_
            simp only [List.take_succ_cons, List.take_zero]
            refine HI.out (acc ++ [92], s2, g + 1) _ _ (by simp; try omega) ⟨by have := Hl.out; simp at this ⊢; omega, Hu.out, ?_, ?_, ?_, ?_, ?_⟩
            · (simp only [go_sem, *]; try rfl)
            · (simp only [go_sem, *]; try rfl)
            · (simp only [go_sem, *]; try rfl)
            · simp only [List.length_append, List.length_cons, List.length_nil, Nat.zero_add]; (simp only [go_sem, *]; try rfl)
            · simp only [List.map_append, List.map_cons, List.map_nil]; rfl
          by_cases p2 : d.toNat = 34
          · have Hu := Lib.hid (show unq (acc ++ [d]) s2 = fin by rw [← hu, if_pos (.inr p2)])
            obtain rfl : d = 34 := by rw [← UInt8.ofNat_toNat (x := d), p2]; rfl
            clear hu p1 p2
            repeat' first
              | apply x_seq | apply x_skip | apply x_block | apply x_exit | apply x_ret | apply x_ops_nil | apply p_blk | apply p_exit_it | apply p_exit_hit | apply p_ret_it | apply p_ret_blk | apply p_panic_it | apply p_panic_blk | apply p_end
              | (apply p_exit_miss; (focus rfl))
              | (apply x_region; simp only [List.toList_toArray])
              | (apply x_step0; (focus rfl); (focus (simp only [go_sem, *]; (try rfl); done)); (focus rfl); simp only [putA])
              | (apply x_callA []; (focus (simp only [go_sem, *]; (try rfl); done)); (focus rfl); (focus (simp only [go_sem, *]; (try rfl); done)); (focus rfl); (iterate 2 (focus (simp only [go_sem, *]; (try rfl); done))); (first | (apply t1; (focus (simp only [go_sem, *]; (try rfl); done))) | (apply t2; (focus (simp only [go_sem, *]; (try rfl); done)))); simp only [afterCall, putA])
              | (apply x_panic; (focus (simp only [go_sem, *]; (try rfl); done)); (focus rfl); (focus (simp only [go_sem, *]; (try rfl); done)))
              | (apply x_step; (iterate 2 (focus (simp only [go_sem, *]; (try rfl); done))); (focus rfl); simp only [putA])
              | (apply x_unwanted; (focus (simp only [go_sem, *]; (try rfl); done)); (focus rfl); simp only [putA])
              | (apply x_condT; (focus (simp only [go_sem, *]; (try rfl); done)))
              | (apply x_condF; (focus (simp only [go_sem, *]; (try rfl); done)))
              | (apply x_guardS; (focus rfl); (fail_if_success (focus (show _ = some true; (focus (simp only [go_sem, *]; (try rfl); done))))); (focus (simp only [go_sem, *]; (try rfl); done)); all_goals (intro hb; try simp only [Bool.not_eq_true', Bool.not_eq_false'] at hb))
              | (apply x_condS; (focus (simp only [go_sem, *]; (try rfl); done)); all_goals (intro hb; try simp only [Bool.not_eq_true', Bool.not_eq_false'] at hb))
            refine x_keepO (S0 := S.set a (.cells [.str s2])) (OuterOk.set hO rfl) 1 [0, 3, 4] (by simp) (by (simp only [go_sem, *]; try rfl)) (by (simp only [go_sem, *]; try rfl)) (by (simp only [go_sem, *]; try rfl)) ?_
            simp only [List.take_succ_cons, List.take_zero]
            refine HI.out (acc ++ [34], s2, g + 1) _ _ (by simp; try omega) ⟨by have := Hl.out; simp at this ⊢; omega, Hu.out, ?_, ?_, ?_, ?_, ?_⟩
            · (simp only [go_sem, *]; try rfl)
            · (simp only [go_sem, *]; try rfl)
            · (simp only [go_sem, *]; try rfl)
            · simp only [List.length_append, List.length_cons, List.length_nil, Nat.zero_add]; (simp only [go_sem, *]; try rfl)
            · simp only [List.map_append, List.map_cons, List.map_nil]; rfl
          rw [if_neg (by omega)] at hu
          by_cases p3 : d.toNat = 110
          · have Hu := Lib.hid (show unq (acc ++ [10]) s2 = fin by rw [← hu, if_pos p3])
            obtain rfl : d = 110 := by rw [← UInt8.ofNat_toNat (x := d), p3]; rfl
            clear hu p1 p2 p3
            repeat' first
              | apply x_seq | apply x_skip | apply x_block | apply x_exit | apply x_ret | apply x_ops_nil | apply p_blk | apply p_exit_it | apply p_exit_hit | apply p_ret_it | apply p_ret_blk | apply p_panic_it | apply p_panic_blk | apply p_end
              | (apply p_exit_miss; (focus rfl))
              | (apply x_region; simp only [List.toList_toArray])
              | (apply x_step0; (focus rfl); (focus (simp only [go_sem, *]; (try rfl); done)); (focus rfl); simp only [putA])
              | (apply x_callA []; (focus (simp only [go_sem, *]; (try rfl); done)); (focus rfl); (focus (simp only [go_sem, *]; (try rfl); done)); (focus rfl); (iterate 2 (focus (simp only [go_sem, *]; (try rfl); done))); (first | (apply t1; (focus (simp only [go_sem, *]; (try rfl); done))) | (apply t2; (focus (simp only [go_sem, *]; (try rfl); done)))); simp only [afterCall, putA])
              | (apply x_panic; (focus (simp only [go_sem, *]; (try rfl); done)); (focus rfl); (focus (simp only [go_sem, *]; (try rfl); done)))
              | (apply x_step; (iterate 2 (focus (simp only [go_sem, *]; (try rfl); done))); (focus rfl); simp only [putA])
              | (apply x_unwanted; (focus (simp only [go_sem, *]; (try rfl); done)); (focus rfl); simp only [putA])
              | (apply x_condT; (focus (simp only [go_sem, *]; (try rfl); done)))
              | (apply x_condF; (focus (simp only [go_sem, *]; (try rfl); done)))
              | (apply x_guardS; (focus rfl); (fail_if_success (focus (show _ = some true; (focus (simp only [go_sem, *]; (try rfl); done))))); (focus (simp only [go_sem, *]; (try rfl); done)); all_goals (intro hb; try simp only [Bool.not_eq_true', Bool.not_eq_false'] at hb))
              | (apply x_condS; (focus (simp only [go_sem, *]; (try rfl); done)); all_goals (intro hb; try simp only [Bool.not_eq_true', Bool.not_eq_false'] at hb))
            refine x_keepO (S0 := S.set a (.cells [.str s2])) (OuterOk.set hO rfl) 1 [0, 3, 4] (by simp) (by (simp only [go_sem, *]; try rfl)) (by (simp only [go_sem, *]; try rfl)) (by (simp only [go_sem, *]; try rfl)) ?_
            simp only [List.take_succ_cons, List.take_zero]
            refine HI.out (acc ++ [10], s2, g + 1) _ _ (by simp; try omega) ⟨by have := Hl.out; simp at this ⊢; omega, Hu.out, ?_, ?_, ?_, ?_, ?_⟩
            · (simp only [go_sem, *]; try rfl)
            · (simp only [go_sem, *]; try rfl)
            · (simp only [go_sem, *]; try rfl)
            · simp only [List.length_append, List.length_cons, List.length_nil, Nat.zero_add]; (simp only [go_sem, *]; try rfl)
            · simp only [List.map_append, List.map_cons, List.map_nil]; rfl
          rw [if_neg p3] at hu
          by_cases p4 : d.toNat = 120
          · rw [if_pos p4] at hu
            obtain rfl : d = 120 := by rw [← UInt8.ofNat_toNat (x := d), p4]; rfl
            clear p1 p2 p3 p4
            rcases s2 with _ | ⟨b1, _ | ⟨b2, s3⟩⟩
            · have hfin : fin = none := hu.symm
              have t3 := tkF w0 a 2 (s := []) (by simp)
              unfold TxF at t3
              clear hu
              repeat' first
                | apply x_seq | apply x_skip | apply x_block | apply x_exit | apply x_ret | apply x_ops_nil | apply p_blk | apply p_exit_it | apply p_exit_hit | apply p_ret_it | apply p_ret_blk | apply p_panic_it | apply p_panic_blk | apply p_end
                | (apply p_exit_miss; (focus rfl))
                | (apply x_region; simp only [List.toList_toArray])
                | (apply x_step0; (focus rfl); (focus (simp only [go_sem, *]; (try rfl); done)); (focus rfl); simp only [putA])
                | (apply x_callA []; (focus (simp only [go_sem, *]; (try rfl); done)); (focus rfl); (focus (simp only [go_sem, *]; (try rfl); done)); (focus rfl); (iterate 2 (focus (simp only [go_sem, *]; (try rfl); done))); (first | (apply t1; (focus (simp only [go_sem, *]; (try rfl); done))) | (apply t2; (focus (simp only [go_sem, *]; (try rfl); done))) | (apply t3; (focus (simp only [go_sem, *]; (try rfl); done)))); simp only [afterCall, putA])
                | (apply x_panic; (focus (simp only [go_sem, *]; (try rfl); done)); (focus rfl); (focus (simp only [go_sem, *]; (try rfl); done)))
                | (apply x_step; (iterate 2 (focus (simp only [go_sem, *]; (try rfl); done))); (focus rfl); simp only [putA])
                | (apply x_unwanted; (focus (simp only [go_sem, *]; (try rfl); done)); (focus rfl); simp only [putA])
                | (apply x_condT; (focus (simp only [go_sem, *]; (try rfl); done)))
                | (apply x_condF; (focus (simp only [go_sem, *]; (try rfl); done)))
                | (apply x_guardS; (focus rfl); (fail_if_success (focus (show _ = some true; (focus (simp only [go_sem, *]; (try rfl); done))))); (focus (simp only [go_sem, *]; (try rfl); done)); all_goals (intro hb; try simp only [Bool.not_eq_true', Bool.not_eq_false'] at hb))
                | (apply x_condS; (focus (simp only [go_sem, *]; (try rfl); done)); all_goals (intro hb; try simp only [Bool.not_eq_true', Bool.not_eq_false'] at hb))
              intro s'
              repeat' first
                | apply x_seq | apply x_skip | apply x_block | apply x_exit | apply x_ret | apply x_ops_nil | apply p_blk | apply p_exit_it | apply p_exit_hit | apply p_ret_it | apply p_ret_blk | apply p_panic_it | apply p_panic_blk | apply p_end
                | (apply p_exit_miss; (focus rfl))
                | (apply x_region; simp only [List.toList_toArray])
                | (apply x_step0; (focus rfl); (focus (simp only [go_sem, *]; (try rfl); done)); (focus rfl); simp only [putA])
                | (apply x_panic; (focus (simp only [go_sem, *]; (try rfl); done)); (focus rfl); (focus (simp only [go_sem, *]; (try rfl); done)))
                | (apply x_step; (iterate 2 (focus (simp only [go_sem, *]; (try rfl); done))); (focus rfl); simp only [putA])
                | (apply x_unwanted; (focus (simp only [go_sem, *]; (try rfl); done)); (focus rfl); simp only [putA])
                | (apply x_condT; (focus (simp only [go_sem, *]; (try rfl); done)))
                | (apply x_condF; (focus (simp only [go_sem, *]; (try rfl); done)))
                | (apply x_guardS; (focus rfl); (fail_if_success (focus (show _ = some true; (focus (simp only [go_sem, *]; (try rfl); done))))); (focus (simp only [go_sem, *]; (try rfl); done)); all_goals (intro hb; try simp only [Bool.not_eq_true', Bool.not_eq_false'] at hb))
                | (apply x_condS; (focus (simp only [go_sem, *]; (try rfl); done)); all_goals (intro hb; try simp only [Bool.not_eq_true', Bool.not_eq_false'] at hb))
              apply f_panicO (S2 := S.set a (.cells [.str s'])) (L := [.arr 5 1 0 g (acc.map bAV)])
              · (simp only [go_sem, *]; try rfl)
              · (simp only [go_sem, *]; try rfl)
              · simp
              · exact OuterOk.set hO rfl
              · (simp only [go_sem, *, badV]; try rfl)
              · (simp only [go_sem, *, badV]; try rfl)
              · exact HF.out hfin _
            · have hfin : fin = none := hu.symm
              have t3 := tkF w0 a 2 (s := [b1]) (by simp)
              unfold TxF at t3
              clear hu
              repeat' first
                | apply x_seq | apply x_skip | apply x_block | apply x_exit | apply x_ret | apply x_ops_nil | apply p_blk | apply p_exit_it | apply p_exit_hit | apply p_ret_it | apply p_ret_blk | apply p_panic_it | apply p_panic_blk | apply p_end
                | (apply p_exit_miss; (focus rfl))
                | (apply x_region; simp only [List.toList_toArray])
                | (apply x_step0; (focus rfl); (focus (simp only [go_sem, *]; (try rfl); done)); (focus rfl); simp only [putA])
                | (apply x_callA []; (focus (simp only [go_sem, *]; (try rfl); done)); (focus rfl); (focus (simp only [go_sem, *]; (try rfl); done)); (focus rfl); (iterate 2 (focus (simp only [go_sem, *]; (try rfl); done))); (first | (apply t1; (focus (simp only [go_sem, *]; (try rfl); done))) | (apply t2; (focus (simp only [go_sem, *]; (try rfl); done))) | (apply t3; (focus (simp only [go_sem, *]; (try rfl); done)))); simp only [afterCall, putA])
                | (apply x_panic; (focus (simp only [go_sem, *]; (try rfl); done)); (focus rfl); (focus (simp only [go_sem, *]; (try rfl); done)))
                | (apply x_step; (iterate 2 (focus (simp only [go_sem, *]; (try rfl); done))); (focus rfl); simp only [putA])
                | (apply x_unwanted; (focus (simp only [go_sem, *]; (try rfl); done)); (focus rfl); simp only [putA])
                | (apply x_condT; (focus (simp only [go_sem, *]; (try rfl); done)))
                | (apply x_condF; (focus (simp only [go_sem, *]; (try rfl); done)))
                | (apply x_guardS; (focus rfl); (fail_if_success (focus (show _ = some true; (focus (simp only [go_sem, *]; (try rfl); done))))); (focus (simp only [go_sem, *]; (try rfl); done)); all_goals (intro hb; try simp only [Bool.not_eq_true', Bool.not_eq_false'] at hb))
                | (apply x_condS; (focus (simp only [go_sem, *]; (try rfl); done)); all_goals (intro hb; try simp only [Bool.not_eq_true', Bool.not_eq_false'] at hb))
              intro s'
              repeat' first
                | apply x_seq | apply x_skip | apply x_block | apply x_exit | apply x_ret | apply x_ops_nil | apply p_blk | apply p_exit_it | apply p_exit_hit | apply p_ret_it | apply p_ret_blk | apply p_panic_it | apply p_panic_blk | apply p_end
                | (apply p_exit_miss; (focus rfl))
                | (apply x_region; simp only [List.toList_toArray])
                | (apply x_step0; (focus rfl); (focus (simp only [go_sem, *]; (try rfl); done)); (focus rfl); simp only [putA])
                | (apply x_panic; (focus (simp only [go_sem, *]; (try rfl); done)); (focus rfl); (focus (simp only [go_sem, *]; (try rfl); done)))
                | (apply x_step; (iterate 2 (focus (simp only [go_sem, *]; (try rfl); done))); (focus rfl); simp only [putA])
                | (apply x_unwanted; (focus (simp only [go_sem, *]; (try rfl); done)); (focus rfl); simp only [putA])
                | (apply x_condT; (focus (simp only [go_sem, *]; (try rfl); done)))
                | (apply x_condF; (focus (simp only [go_sem, *]; (try rfl); done)))
                | (apply x_guardS; (focus rfl); (fail_if_success (focus (show _ = some true; (focus (simp only [go_sem, *]; (try rfl); done))))); (focus (simp only [go_sem, *]; (try rfl); done)); all_goals (intro hb; try simp only [Bool.not_eq_true', Bool.not_eq_false'] at hb))
                | (apply x_condS; (focus (simp only [go_sem, *]; (try rfl); done)); all_goals (intro hb; try simp only [Bool.not_eq_true', Bool.not_eq_false'] at hb))
              apply f_panicO (S2 := S.set a (.cells [.str s'])) (L := [.arr 5 1 0 g (acc.map bAV)])
              · (simp only [go_sem, *]; try rfl)
              · (simp only [go_sem, *]; try rfl)
              · simp
              · exact OuterOk.set hO rfl
              · (simp only [go_sem, *, badV]; try rfl)
              · (simp only [go_sem, *, badV]; try rfl)
              · exact HF.out hfin _
            · simp only at hu
              have t3 := tkT w0 a 2 (s := b1 :: b2 :: s3) (l := [b1, b2]) (r := s3) rfl rfl
              unfold TxT at t3
              cases hx : hexV b1 b2 with
              | none =>
                rw [hx] at hu
                have hfin : fin = none := hu.symm
                have hpu : ∀ S' (R : AOut → List Blk → Prop), (∀ t x, R (.ret (.tup [.int .u64 0, .ifc t x])) S') → ACall Tryz.prog w0 87 [.str [b1, b2], .int .i64 16, .int .i64 8] S' R := fun S' R h => HPU.out S' b1 b2 R (by intro v hv; rw [hx] at hv; cases hv) (fun _ => h)
                clear hu hx
                repeat' first
                  | apply x_seq | apply x_skip | apply x_block | apply x_exit | apply x_ret | apply x_ops_nil | apply p_blk | apply p_exit_it | apply p_exit_hit | apply p_ret_it | apply p_ret_blk | apply p_panic_it | apply p_panic_blk | apply p_end
                  | (apply p_exit_miss; (focus rfl))
                  | (apply x_region; simp only [List.toList_toArray])
                  | (apply x_step0; (focus rfl); (focus (simp only [go_sem, *]; (try rfl); done)); (focus rfl); simp only [putA])
                  | (apply x_callA []; (focus (simp only [go_sem, *]; (try rfl); done)); (focus rfl); (focus (simp only [go_sem, *]; (try rfl); done)); (focus rfl); (iterate 2 (focus (simp only [go_sem, *]; (try rfl); done))); (first | (apply t1; (focus (simp only [go_sem, *]; (try rfl); done))) | (apply t2; (focus (simp only [go_sem, *]; (try rfl); done))) | (apply t3; (focus (simp only [go_sem, *]; (try rfl); done))) | (apply hpu)); simp only [afterCall, putA])
                  | (apply x_panic; (focus (simp only [go_sem, *]; (try rfl); done)); (focus rfl); (focus (simp only [go_sem, *]; (try rfl); done)))
                  | (apply x_step; (iterate 2 (focus (simp only [go_sem, *]; (try rfl); done))); (focus rfl); simp only [putA])
                  | (apply x_unwanted; (focus (simp only [go_sem, *]; (try rfl); done)); (focus rfl); simp only [putA])
                  | (apply x_condT; (focus (simp only [go_sem, *]; (try rfl); done)))
                  | (apply x_condF; (focus (simp only [go_sem, *]; (try rfl); done)))
                  | (apply x_guardS; (focus rfl); (fail_if_success (focus (show _ = some true; (focus (simp only [go_sem, *]; (try rfl); done))))); (focus (simp only [go_sem, *]; (try rfl); done)); all_goals (intro hb; try simp only [Bool.not_eq_true', Bool.not_eq_false'] at hb))
                  | (apply x_condS; (focus (simp only [go_sem, *]; (try rfl); done)); all_goals (intro hb; try simp only [Bool.not_eq_true', Bool.not_eq_false'] at hb))
                intro t x
                repeat' first
                  | apply x_seq | apply x_skip | apply x_block | apply x_exit | apply x_ret | apply x_ops_nil | apply p_blk | apply p_exit_it | apply p_exit_hit | apply p_ret_it | apply p_ret_blk | apply p_panic_it | apply p_panic_blk | apply p_end
                  | (apply p_exit_miss; (focus rfl))
                  | (apply x_region; simp only [List.toList_toArray])
                  | (apply x_step0; (focus rfl); (focus (simp only [go_sem, *]; (try rfl); done)); (focus rfl); simp only [putA])
                  | (apply x_callA []; (focus (simp only [go_sem, *]; (try rfl); done)); (focus rfl); (focus (simp only [go_sem, *]; (try rfl); done)); (focus rfl); (iterate 2 (focus (simp only [go_sem, *]; (try rfl); done))); (first | (apply hmF)); simp only [afterCall, putA])
                  | (apply x_panic; (focus (simp only [go_sem, *]; (try rfl); done)); (focus rfl); (focus (simp only [go_sem, *]; (try rfl); done)))
                  | (apply x_step; (iterate 2 (focus (simp only [go_sem, *]; (try rfl); done))); (focus rfl); simp only [putA])
                  | (apply x_unwanted; (focus (simp only [go_sem, *]; (try rfl); done)); (focus rfl); simp only [putA])
                  | (apply x_condT; (focus (simp only [go_sem, *]; (try rfl); done)))
                  | (apply x_condF; (focus (simp only [go_sem, *]; (try rfl); done)))
                  | (apply x_guardS; (focus rfl); (fail_if_success (focus (show _ = some true; (focus (simp only [go_sem, *]; (try rfl); done))))); (focus (simp only [go_sem, *]; (try rfl); done)); all_goals (intro hb; try simp only [Bool.not_eq_true', Bool.not_eq_false'] at hb))
                  | (apply x_condS; (focus (simp only [go_sem, *]; (try rfl); done)); all_goals (intro hb; try simp only [Bool.not_eq_true', Bool.not_eq_false'] at hb))
                apply f_panicO (S2 := S.set a (.cells [.str s3])) (L := [.arr 5 1 0 g (acc.map bAV)])
                · (simp only [go_sem, *]; try rfl)
                · (simp only [go_sem, *]; try rfl)
                · simp
                · exact OuterOk.set hO rfl
                · (simp only [go_sem, *, badV]; try rfl)
                · (simp only [go_sem, *, badV]; try rfl)
                · exact HF.out hfin _
              | some v =>
                rw [hx] at hu
                simp only at hu
                have Hu := Lib.hid hu
                have hpu : ∀ S' (R : AOut → List Blk → Prop), R (.ret (.tup [.int .u64 v, .inil])) S' → ACall Tryz.prog w0 87 [.str [b1, b2], .int .i64 16, .int .i64 8] S' R := fun S' R h => HPU.out S' b1 b2 R (by intro v' hv; rw [hx] at hv; cases hv; exact h) (by intro hn; rw [hx] at hn; cases hn)
                have hv : v < 256 := hexV_lt hx
                have hwv : IntKind.u8.wrap (v : Int) = ((UInt8.ofNat v).toNat : Int) := by
                  rw [IntWalk.u8_in _ (by omega)]; simp; omega
                clear hu hx hv
                repeat' first
                  | apply x_seq | apply x_skip | apply x_block | apply x_exit | apply x_ret | apply x_ops_nil | apply p_blk | apply p_exit_it | apply p_exit_hit | apply p_ret_it | apply p_ret_blk | apply p_panic_it | apply p_panic_blk | apply p_end
                  | (apply p_exit_miss; (focus rfl))
                  | (apply x_region; simp only [List.toList_toArray])
                  | (apply x_step0; (focus rfl); (focus (simp only [go_sem, *]; (try rfl); done)); (focus rfl); simp only [putA])
                  | (apply x_callA []; (focus (simp only [go_sem, *]; (try rfl); done)); (focus rfl); (focus (simp only [go_sem, *]; (try rfl); done)); (focus rfl); (iterate 2 (focus (simp only [go_sem, *]; (try rfl); done))); (first | (apply t1; (focus (simp only [go_sem, *]; (try rfl); done))) | (apply t2; (focus (simp only [go_sem, *]; (try rfl); done))) | (apply t3; (focus (simp only [go_sem, *]; (try rfl); done))) | (apply hpu) | (apply hmT)); simp only [afterCall, putA])
                  | (apply x_panic; (focus (simp only [go_sem, *]; (try rfl); done)); (focus rfl); (focus (simp only [go_sem, *]; (try rfl); done)))
                  | (apply x_step; (iterate 2 (focus (simp only [go_sem, *]; (try rfl); done))); (focus rfl); simp only [putA])
                  | (apply x_unwanted; (focus (simp only [go_sem, *]; (try rfl); done)); (focus rfl); simp only [putA])
                  | (apply x_condT; (focus (simp only [go_sem, *]; (try rfl); done)))
                  | (apply x_condF; (focus (simp only [go_sem, *]; (try rfl); done)))
                  | (apply x_guardS; (focus rfl); (fail_if_success (focus (show _ = some true; (focus (simp only [go_sem, *]; (try rfl); done))))); (focus (simp only [go_sem, *]; (try rfl); done)); all_goals (intro hb; try simp only [Bool.not_eq_true', Bool.not_eq_false'] at hb))
                  | (apply x_condS; (focus (simp only [go_sem, *]; (try rfl); done)); all_goals (intro hb; try simp only [Bool.not_eq_true', Bool.not_eq_false'] at hb))
                refine x_keepO (S0 := S.set a (.cells [.str s3])) (OuterOk.set hO rfl) 1 [0, 3, 4] (by simp) (by (simp only [go_sem, *]; try rfl)) (by (simp only [go_sem, *]; try rfl)) (by (simp only [go_sem, *]; try rfl)) ?_
                simp only [List.take_succ_cons, List.take_zero]
                refine HI.out (acc ++ [UInt8.ofNat v], s3, g + 1) _ _ (by simp; try omega) ⟨by have := Hl.out; simp at this ⊢; omega, Hu.out, ?_, ?_, ?_, ?_, ?_⟩
                · (simp only [go_sem, *]; try rfl)
                · (simp only [go_sem, *]; try rfl)
                · (simp only [go_sem, *]; try rfl)
                · simp only [List.length_append, List.length_cons, List.length_nil, Nat.zero_add]; (simp only [go_sem, *]; try rfl)
                · simp only [List.map_append, List.map_cons, List.map_nil]; rfl
          · rw [if_neg p4] at hu
            have hfin : fin = none := hu.symm
            have m1 : ([d] == [92]) = false := by simp; rintro rfl; simp at p1
            have m2 : ([d] == [34]) = false := by simp; rintro rfl; simp at p2
            have m3 : ([d] == [110]) = false := by simp; rintro rfl; simp at p3
            have m4 : ([d] == [120]) = false := by simp; rintro rfl; simp at p4
            have m1' : (d == 92) = false := by simp; rintro rfl; simp at p1
            have m2' : (d == 34) = false := by simp; rintro rfl; simp at p2
            have m3' : (d == 110) = false := by simp; rintro rfl; simp at p3
            have m4' : (d == 120) = false := by simp; rintro rfl; simp at p4
            clear hu p1 p2 p3 p4
            repeat' first
              | apply x_seq | apply x_skip | apply x_block | apply x_exit | apply x_ret | apply x_ops_nil | apply p_blk | apply p_exit_it | apply p_exit_hit | apply p_ret_it | apply p_ret_blk | apply p_panic_it | apply p_panic_blk | apply p_end
              | (apply p_exit_miss; (focus rfl))
              | (apply x_region; simp only [List.toList_toArray])
              | (apply x_step0; (focus rfl); (focus (simp only [go_sem, *]; (try rfl); done)); (focus rfl); simp only [putA])
              | (apply x_callA []; (focus (simp only [go_sem, *]; (try rfl); done)); (focus rfl); (focus (simp only [go_sem, *]; (try rfl); done)); (focus rfl); (iterate 2 (focus (simp only [go_sem, *]; (try rfl); done))); (first | (apply t1; (focus (simp only [go_sem, *]; (try rfl); done))) | (apply t2; (focus (simp only [go_sem, *]; (try rfl); done))) | (apply hmF)); simp only [afterCall, putA])
              | (apply x_panic; (focus (simp only [go_sem, *]; (try rfl); done)); (focus rfl); (focus (simp only [go_sem, *]; (try rfl); done)))
              | (apply x_step; (iterate 2 (focus (simp only [go_sem, *]; (try rfl); done))); (focus rfl); simp only [putA])
              | (apply x_unwanted; (focus (simp only [go_sem, *]; (try rfl); done)); (focus rfl); simp only [putA])
              | (apply x_condT; (focus (simp only [go_sem, *]; (try rfl); done)))
              | (apply x_condF; (focus (simp only [go_sem, *]; (try rfl); done)))
              | (apply x_guardS; (focus rfl); (fail_if_success (focus (show _ = some true; (focus (simp only [go_sem, *]; (try rfl); done))))); (focus (simp only [go_sem, *]; (try rfl); done)); all_goals (intro hb; try simp only [Bool.not_eq_true', Bool.not_eq_false'] at hb))
              | (apply x_condS; (focus (simp only [go_sem, *]; (try rfl); done)); all_goals (intro hb; try simp only [Bool.not_eq_true', Bool.not_eq_false'] at hb))
            apply f_panicO (S2 := S.set a (.cells [.str s2])) (L := [.arr 5 1 0 g (acc.map bAV)])
            · (simp only [go_sem, *]; try rfl)
            · (simp only [go_sem, *]; try rfl)
            · simp
            · exact OuterOk.set hO rfl
            · (simp only [go_sem, *, badV]; try rfl)
            · (simp only [go_sem, *, badV]; try rfl)
            · exact HF.out hfin _
      have e92 : (c == 92) = false := by simp; rintro rfl; simp at q2
      have l92 : ([c] == [92]) = false := by simp [e92]
      by_cases q3 : 32 ≤ c.toNat ∧ c.toNat ≤ 126
      · have d4 : (decide ((32 : Int) ≤ (c.toNat : Int)) && decide ((c.toNat : Int) ≤ 126)) = true := by simp; omega
        have Hu := Lib.hid (show unq (acc ++ [c]) s = fin by rw [← hu, unq_cons, if_neg q1, if_pos q2, if_pos q3])
        clear hu q1 q2 q3 hcn
        repeat' first
          | apply x_seq | apply x_skip | apply x_block | apply x_exit | apply x_ret | apply x_ops_nil | apply p_blk | apply p_exit_it | apply p_exit_hit | apply p_ret_it | apply p_ret_blk | apply p_panic_it | apply p_panic_blk | apply p_end
          | (apply p_exit_miss; (focus rfl))
          | (apply x_region; simp only [List.toList_toArray])
          | (apply x_step0; (focus rfl); (focus (simp only [go_sem, *]; (try rfl); done)); (focus rfl); simp only [putA])
          | (apply x_callA []; (focus (simp only [go_sem, *]; (try rfl); done)); (focus rfl); (focus (simp only [go_sem, *]; (try rfl); done)); (focus rfl); (iterate 2 (focus (simp only [go_sem, *]; (try rfl); done))); (first | (apply t1; (focus (simp only [go_sem, *]; (try rfl); done))) | (apply hwi) | (apply hmT)); simp only [afterCall, putA])
          | (apply x_panic; (focus (simp only [go_sem, *]; (try rfl); done)); (focus rfl); (focus (simp only [go_sem, *]; (try rfl); done)))
          | (apply x_step; (iterate 2 (focus (simp only [go_sem, *]; (try rfl); done))); (focus rfl); simp only [putA])
          | (apply x_unwanted; (focus (simp only [go_sem, *]; (try rfl); done)); (focus rfl); simp only [putA])
          | (apply x_condT; (focus (simp only [go_sem, *]; (try rfl); done)))
          | (apply x_condF; (focus (simp only [go_sem, *]; (try rfl); done)))
          | (apply x_guardS; (focus rfl); (fail_if_success (focus (show _ = some true; (focus (simp only [go_sem, *]; (try rfl); done))))); (focus (simp only [go_sem, *]; (try rfl); done)); all_goals (intro hb; try simp only [Bool.not_eq_true', Bool.not_eq_false'] at hb))
          | (apply x_condS; (focus (simp only [go_sem, *]; (try rfl); done)); all_goals (intro hb; try simp only [Bool.not_eq_true', Bool.not_eq_false'] at hb))
        refine x_keepO (S0 := S.set a (.cells [.str s])) (OuterOk.set hO rfl) 1 [0, 3, 4] (by simp) (by (simp only [go_sem, *]; try rfl)) (by (simp only [go_sem, *]; try rfl)) (by (simp only [go_sem, *]; try rfl)) ?_
        simp only [List.take_succ_cons, List.take_zero]
        refine HI.out (acc ++ [c], s, g + 1) _ _ (by simp; try omega) ⟨by have := Hl.out; simp at this ⊢; omega, Hu.out, ?_, ?_, ?_, ?_, ?_⟩
        · (simp only [go_sem, *]; try rfl)
        · (simp only [go_sem, *]; try rfl)
        · (simp only [go_sem, *]; try rfl)
        · simp only [List.length_append, List.length_cons, List.length_nil, Nat.zero_add]; (simp only [go_sem, *]; try rfl)
        · simp only [List.map_append, List.map_cons, List.map_nil]; rfl
      · have d4 : (decide ((32 : Int) ≤ (c.toNat : Int)) && decide ((c.toNat : Int) ≤ 126)) = false := by simp; omega
        have hfin : fin = none := by rw [← hu, unq_cons, if_neg q1, if_pos q2, if_neg q3]
        clear hu q1 q2 q3 hcn
        repeat' first
          | apply x_seq | apply x_skip | apply x_block | apply x_exit | apply x_ret | apply x_ops_nil | apply p_blk | apply p_exit_it | apply p_exit_hit | apply p_ret_it | apply p_ret_blk | apply p_panic_it | apply p_panic_blk | apply p_end
          | (apply p_exit_miss; (focus rfl))
          | (apply x_region; simp only [List.toList_toArray])
          | (apply x_step0; (focus rfl); (focus (simp only [go_sem, *]; (try rfl); done)); (focus rfl); simp only [putA])
          | (apply x_callA []; (focus (simp only [go_sem, *]; (try rfl); done)); (focus rfl); (focus (simp only [go_sem, *]; (try rfl); done)); (focus rfl); (iterate 2 (focus (simp only [go_sem, *]; (try rfl); done))); (first | (apply t1; (focus (simp only [go_sem, *]; (try rfl); done))) | (apply hwi) | (apply hmF)); simp only [afterCall, putA])
          | (apply x_panic; (focus (simp only [go_sem, *]; (try rfl); done)); (focus rfl); (focus (simp only [go_sem, *]; (try rfl); done)))
          | (apply x_step; (iterate 2 (focus (simp only [go_sem, *]; (try rfl); done))); (focus rfl); simp only [putA])
          | (apply x_unwanted; (focus (simp only [go_sem, *]; (try rfl); done)); (focus rfl); simp only [putA])
          | (apply x_condT; (focus (simp only [go_sem, *]; (try rfl); done)))
          | (apply x_condF; (focus (simp only [go_sem, *]; (try rfl); done)))
          | (apply x_guardS; (focus rfl); (fail_if_success (focus (show _ = some true; (focus (simp only [go_sem, *]; (try rfl); done))))); (focus (simp only [go_sem, *]; (try rfl); done)); all_goals (intro hb; try simp only [Bool.not_eq_true', Bool.not_eq_false'] at hb))
          | (apply x_condS; (focus (simp only [go_sem, *]; (try rfl); done)); all_goals (intro hb; try simp only [Bool.not_eq_true', Bool.not_eq_false'] at hb))
        apply f_panicO (S2 := S.set a (.cells [.str s])) (L := [.arr 5 1 0 g (acc.map bAV)])
        · (simp only [go_sem, *]; try rfl)
        · (simp only [go_sem, *]; try rfl)
        · simp
        · exact OuterOk.set hO rfl
        · (simp only [go_sem, *, badV]; try rfl)
        · (simp only [go_sem, *, badV]; try rfl)
        · exact HF.out hfin _
def quoP (s : List UInt8) : Option (List UInt8 × List UInt8) := match oneP [34] s with
  | none => none
  | some s1 => unq [] s1
theorem qT (w0 : World) (hPU : PU16 w0) (a : Nat) {s s' v : List UInt8} (hs : s.length ≤ 1000000000) (h : quoP s = some (v, s')) : TxT w0 a 80 [] s s' (.str v) := by
  unfold quoP at h
  split at h
  · cases h
  next s1 h1 =>
  intro S ha R hR
  refine quotedL w0 hPU S a s s1 hs ha h1 R ?_ ?_
  · intro v' r hv
    rw [h] at hv
    cases hv
    exact hR
  · intro hn
    rw [h] at hn
    cases hn
set_option maxHeartbeats 1000000 in
theorem qF (w0 : World) (hPU : PU16 w0) (a : Nat) {s : List UInt8} (hs : s.length ≤ 1000000000) (h : quoP s = none) : TxF w0 a 80 [] s := by
  unfold quoP at h
  split at h
  · next h1 =>
    intro S ha R hR
    have h2 := oF w0 a h1
    unfold TxF at h2
    clear hs h h1 hPU
    refine enter Tryz.func80 rfl (by decide +kernel) (by rw [Tryz.ntmps80]; simp) (by rw [Tryz.ntmps80]; decide) (fun hO => ?_); rw [Tryz.ntmps80]
    repeat' first
      | apply x_seq | apply x_skip | apply x_block | apply x_exit | apply x_ret | apply x_ops_nil | apply p_blk | apply p_exit_it | apply p_exit_hit | apply p_ret_it | apply p_ret_blk | apply p_panic_it | apply p_panic_blk | apply p_end
      | (apply p_exit_miss; (focus rfl))
      | (apply x_region; simp only [List.toList_toArray])
      | (apply x_step0; (focus rfl); (focus (simp only [go_sem, *]; (try rfl); done)); (focus rfl); simp only [putA])
      | (apply x_callA []; (focus (simp only [go_sem, *]; (try rfl); done)); (focus rfl); (focus (simp only [go_sem, *]; (try rfl); done)); (focus rfl); (iterate 2 (focus (simp only [go_sem, *]; (try rfl); done))); (first | (apply h2; (focus (simp only [go_sem, *]; (try rfl); done)))); simp only [afterCall, putA])
      | (apply x_panic; (focus (simp only [go_sem, *]; (try rfl); done)); (focus rfl); (focus (simp only [go_sem, *]; (try rfl); done)))
      | (apply x_step; (iterate 2 (focus (simp only [go_sem, *]; (try rfl); done))); (focus rfl); simp only [putA])
      | (apply x_unwanted; (focus (simp only [go_sem, *]; (try rfl); done)); (focus rfl); simp only [putA])
      | (apply x_condT; (focus (simp only [go_sem, *]; (try rfl); done)))
      | (apply x_condF; (focus (simp only [go_sem, *]; (try rfl); done)))
      | (apply x_guardS; (focus rfl); (fail_if_success (focus (show _ = some true; (focus (simp only [go_sem, *]; (try rfl); done))))); (focus (simp only [go_sem, *]; (try rfl); done)); all_goals (intro hb; try simp only [Bool.not_eq_true', Bool.not_eq_false'] at hb))
      | (apply x_condS; (focus (simp only [go_sem, *]; (try rfl); done)); all_goals (intro hb; try simp only [Bool.not_eq_true', Bool.not_eq_false'] at hb))
    intro s'
    repeat' first
      | apply x_seq | apply x_skip | apply x_block | apply x_exit | apply x_ret | apply x_ops_nil | apply p_blk | apply p_exit_it | apply p_exit_hit | apply p_ret_it | apply p_ret_blk | apply p_panic_it | apply p_panic_blk | apply p_end
      | (apply p_exit_miss; (focus rfl))
      | (apply x_region; simp only [List.toList_toArray])
      | (apply x_step0; (focus rfl); (focus (simp only [go_sem, *]; (try rfl); done)); (focus rfl); simp only [putA])
      | (apply x_panic; (focus (simp only [go_sem, *]; (try rfl); done)); (focus rfl); (focus (simp only [go_sem, *]; (try rfl); done)))
      | (apply x_step; (iterate 2 (focus (simp only [go_sem, *]; (try rfl); done))); (focus rfl); simp only [putA])
      | (apply x_unwanted; (focus (simp only [go_sem, *]; (try rfl); done)); (focus rfl); simp only [putA])
      | (apply x_condT; (focus (simp only [go_sem, *]; (try rfl); done)))
      | (apply x_condF; (focus (simp only [go_sem, *]; (try rfl); done)))
      | (apply x_guardS; (focus rfl); (fail_if_success (focus (show _ = some true; (focus (simp only [go_sem, *]; (try rfl); done))))); (focus (simp only [go_sem, *]; (try rfl); done)); all_goals (intro hb; try simp only [Bool.not_eq_true', Bool.not_eq_false'] at hb))
      | (apply x_condS; (focus (simp only [go_sem, *]; (try rfl); done)); all_goals (intro hb; try simp only [Bool.not_eq_true', Bool.not_eq_false'] at hb))
    (apply f_panicX; iterate 4 (focus (simp only [go_sem, *, badV]; (try rfl); done)))
    · exact OuterOk.set hO rfl
    · simp
    · exact hR _
  next s1 h1 =>
  intro S ha R hR
  refine quotedL w0 hPU S a s s1 hs ha h1 R ?_ ?_
  · intro v' r hv
    rw [h] at hv
    cases hv
  · intro hn
    exact hR
end Go.Proofs.YtnndmokndgnidaaGreatDoor
namespace Go.Proofs.YtnndmokndgnidaaGreatDoor
open Go Go.Fen
set_option linter.unusedSimpArgs false
set_option linter.unusedVariables false
attribute [local irreducible] RunX WP ACall AnyP OpA ProtL
set_option maxRecDepth 8000
def kindOf (b : UInt8) : Option Int := if b.toNat = 111 then some 1 else if b.toNat = 105 then some 2 else if b.toNat = 114 then some 3 else if b.toNat = 109 then some 4 else none
theorem kindOf_none {b : UInt8} (h : kindOf b = none) : b.toNat ≠ 111 ∧ b.toNat ≠ 105 ∧ b.toNat ≠ 114 ∧ b.toNat ≠ 109 := by
  unfold kindOf at h
  refine ⟨?_, ?_, ?_, ?_⟩ <;> intro e <;> simp [e] at h
theorem kindOf_some {b : UInt8} {k : Int} (h : kindOf b = some k) : (b = 111 ∧ k = 1) ∨ (b = 105 ∧ k = 2) ∨ (b = 114 ∧ k = 3) ∨ (b = 109 ∧ k = 4) := by
  have hb : ∀ n, b.toNat = n → b = UInt8.ofNat n := fun n e => by rw [← e, UInt8.ofNat_toNat]
  unfold kindOf at h
  split at h
  · next e => cases h; exact .inl ⟨hb _ e, rfl⟩
  split at h
  · next e => cases h; exact .inr (.inl ⟨hb _ e, rfl⟩)
  split at h
  · next e => cases h; exact .inr (.inr (.inl ⟨hb _ e, rfl⟩))
  split at h
  · next e => cases h; exact .inr (.inr (.inr ⟨hb _ e, rfl⟩))
  cases h
def restP (w k : Int) (s4 : List UInt8) : Option (It × List UInt8) :=
  if k = 3 then (match sizeP s4 with
    | none => none
    | some ((c, r), s5) => some (⟨w, k, c, r, []⟩, s5))
  else (match quoP s4 with
    | none => none
    | some (t, s5) => some (⟨w, k, 0, 0, t⟩, s5))
def kindP (w k : Int) (s3 : List UInt8) : Option (It × List UInt8) :=
  match oneP [32] s3 with
  | none => none
  | some s4 => match restP w k s4 with
    | none => none
    | some (x, s5) => match oneP [10] s5 with
      | none => none
      | some s6 => some (x, s6)
def itemP (s : List UInt8) : Option (It × List UInt8) :=
  match numP s with
  | none => none
  | some (w, s1) => match oneP [32] s1 with
    | none => none
    | some [] => none
    | some (b :: s3) => match kindOf b with
      | none => none
      | some k => kindP w k s3
theorem sizeP_len {s s' : List UInt8} {v : Int × Int} (h : sizeP s = some (v, s')) : s'.length ≤ s.length := by
  unfold sizeP at h
  split at h
  · cases h
  next c s1 hc =>
  split at h
  · cases h
  next s2 ho =>
  split at h
  · cases h
  next r s3 hr =>
  cases h
  have := numP_len hc
  have := oneP_len ho
  have := numP_len hr
  omega
set_option maxHeartbeats 8000000 in
theorem item (w0 : World) (hPU : PU16 w0) (S : List Blk) (a : Nat) (s : List UInt8) (hs : s.length ≤ 1000000000) (ha : S[a]? = some (.cells [.str s])) (R : AOut → List Blk → Prop)
    (hR : ∀ v r, itemP s = some (v, r) → R (.ret v.av) (S.set a (.cells [.str r]))) (hF : itemP s = none → ∀ s', R (.panic badV) (S.set a (.cells [.str s']))) : ACall Tryz.prog w0 72 [.own a 0] S R := by
  have hal := (List.getElem?_eq_some_iff.1 ha).1
  obtain ⟨fin, hfin⟩ : ∃ fin, itemP s = fin := ⟨_, rfl⟩
  rw [hfin] at hR hF
  have HR := Lib.hid hR
  have HF := Lib.hid hF
  have HPU := Lib.hid hPU
  have hki := kinds w0
  have hmT := mustT w0
  have hmF := mustF w0
  clear hR hF hPU
  unfold itemP at hfin
  split at hfin
  · next hn =>
    have t1 := nF w0 a hs hn
    unfold TxF at t1
    clear hs hn
    refine enter Tryz.func72 rfl (by decide +kernel) (by rw [Tryz.ntmps72]; simp) (by rw [Tryz.ntmps72]; decide) (fun hO => ?_); rw [Tryz.ntmps72]
    repeat' first
      | apply x_seq | apply x_skip | apply x_block | apply x_exit | apply x_ret | apply x_ops_nil | apply p_blk | apply p_exit_it | apply p_exit_hit | apply p_ret_it | apply p_ret_blk | apply p_panic_it | apply p_panic_blk | apply p_end
      | (apply p_exit_miss; (focus rfl))
      | (apply x_region; simp only [List.toList_toArray])
      | (apply x_step0; (focus rfl); (focus (simp only [go_sem, *]; (try rfl); done)); (focus rfl); simp only [putA])
      | (apply x_callA []; (focus (simp only [go_sem, *]; (try rfl); done)); (focus rfl); (focus (simp only [go_sem, *]; (try rfl); done)); (focus rfl); (iterate 2 (focus (simp only [go_sem, *]; (try rfl); done))); (first | (apply t1; (focus (simp only [go_sem, *]; (try rfl); done)))); simp only [afterCall, putA])
      | (apply x_panic; (focus (simp only [go_sem, *]; (try rfl); done)); (focus rfl); (focus (simp only [go_sem, *]; (try rfl); done)))
      | (apply x_step; (iterate 2 (focus (simp only [go_sem, *]; (try rfl); done))); (focus rfl); simp only [putA])
      | (apply x_unwanted; (focus (simp only [go_sem, *]; (try rfl); done)); (focus rfl); simp only [putA])
      | (apply x_condT; (focus (simp only [go_sem, *]; (try rfl); done)))
      | (apply x_condF; (focus (simp only [go_sem, *]; (try rfl); done)))
      | (apply x_guardS; (focus rfl); (fail_if_success (focus (show _ = some true; (focus (simp only [go_sem, *]; (try rfl); done))))); (focus (simp only [go_sem, *]; (try rfl); done)); all_goals (intro hb; try simp only [Bool.not_eq_true', Bool.not_eq_false'] at hb))
      | (apply x_condS; (focus (simp only [go_sem, *]; (try rfl); done)); all_goals (intro hb; try simp only [Bool.not_eq_true', Bool.not_eq_false'] at hb))
    intro s'
    repeat' first
      | apply x_seq | apply x_skip | apply x_block | apply x_exit | apply x_ret | apply x_ops_nil | apply p_blk | apply p_exit_it | apply p_exit_hit | apply p_ret_it | apply p_ret_blk | apply p_panic_it | apply p_panic_blk | apply p_end
      | (apply p_exit_miss; (focus rfl))
      | (apply x_region; simp only [List.toList_toArray])
      | (apply x_step0; (focus rfl); (focus (simp only [go_sem, *]; (try rfl); done)); (focus rfl); simp only [putA])
      | (apply x_panic; (focus (simp only [go_sem, *]; (try rfl); done)); (focus rfl); (focus (simp only [go_sem, *]; (try rfl); done)))
      | (apply x_step; (iterate 2 (focus (simp only [go_sem, *]; (try rfl); done))); (focus rfl); simp only [putA])
      | (apply x_unwanted; (focus (simp only [go_sem, *]; (try rfl); done)); (focus rfl); simp only [putA])
      | (apply x_condT; (focus (simp only [go_sem, *]; (try rfl); done)))
      | (apply x_condF; (focus (simp only [go_sem, *]; (try rfl); done)))
      | (apply x_guardS; (focus rfl); (fail_if_success (focus (show _ = some true; (focus (simp only [go_sem, *]; (try rfl); done))))); (focus (simp only [go_sem, *]; (try rfl); done)); all_goals (intro hb; try simp only [Bool.not_eq_true', Bool.not_eq_false'] at hb))
      | (apply x_condS; (focus (simp only [go_sem, *]; (try rfl); done)); all_goals (intro hb; try simp only [Bool.not_eq_true', Bool.not_eq_false'] at hb))
    apply f_panicO (S2 := S.set a (.cells [.str s'])) (L := [.cells [.int .i64 0, .int .i64 0, .int .i64 0, .int .i64 0, .str []]])
    · (simp only [go_sem, *]; try rfl)
    · (simp only [go_sem, *]; try rfl)
    · simp
    · exact OuterOk.set hO rfl
    · (simp only [go_sem, *, badV]; try rfl)
    · (simp only [go_sem, *, badV]; try rfl)
    · exact HF.out hfin.symm _
  next w s1 hn =>
  have t1 := nT w0 a hs hn
  unfold TxT at t1
  have l1 := numP_len hn
  split at hfin
  · next ho =>
    have t2 := oF w0 a ho
    unfold TxF at t2
    clear hs hn ho l1
    refine enter Tryz.func72 rfl (by decide +kernel) (by rw [Tryz.ntmps72]; simp) (by rw [Tryz.ntmps72]; decide) (fun hO => ?_); rw [Tryz.ntmps72]
    repeat' first
      | apply x_seq | apply x_skip | apply x_block | apply x_exit | apply x_ret | apply x_ops_nil | apply p_blk | apply p_exit_it | apply p_exit_hit | apply p_ret_it | apply p_ret_blk | apply p_panic_it | apply p_panic_blk | apply p_end
      | (apply p_exit_miss; (focus rfl))
      | (apply x_region; simp only [List.toList_toArray])
      | (apply x_step0; (focus rfl); (focus (simp only [go_sem, *]; (try rfl); done)); (focus rfl); simp only [putA])
      | (apply x_callA []; (focus (simp only [go_sem, *]; (try rfl); done)); (focus rfl); (focus (simp only [go_sem, *]; (try rfl); done)); (focus rfl); (iterate 2 (focus (simp only [go_sem, *]; (try rfl); done))); (first | (apply t1; (focus (simp only [go_sem, *]; (try rfl); done))) | (apply t2; (focus (simp only [go_sem, *]; (try rfl); done)))); simp only [afterCall, putA])
      | (apply x_panic; (focus (simp only [go_sem, *]; (try rfl); done)); (focus rfl); (focus (simp only [go_sem, *]; (try rfl); done)))
      | (apply x_step; (iterate 2 (focus (simp only [go_sem, *]; (try rfl); done))); (focus rfl); simp only [putA])
      | (apply x_unwanted; (focus (simp only [go_sem, *]; (try rfl); done)); (focus rfl); simp only [putA])
      | (apply x_condT; (focus (simp only [go_sem, *]; (try rfl); done)))
      | (apply x_condF; (focus (simp only [go_sem, *]; (try rfl); done)))
      | (apply x_guardS; (focus rfl); (fail_if_success (focus (show _ = some true; (focus (simp only [go_sem, *]; (try rfl); done))))); (focus (simp only [go_sem, *]; (try rfl); done)); all_goals (intro hb; try simp only [Bool.not_eq_true', Bool.not_eq_false'] at hb))
      | (apply x_condS; (focus (simp only [go_sem, *]; (try rfl); done)); all_goals (intro hb; try simp only [Bool.not_eq_true', Bool.not_eq_false'] at hb))
    intro s'
    repeat' first
      | apply x_seq | apply x_skip | apply x_block | apply x_exit | apply x_ret | apply x_ops_nil | apply p_blk | apply p_exit_it | apply p_exit_hit | apply p_ret_it | apply p_ret_blk | apply p_panic_it | apply p_panic_blk | apply p_end
      | (apply p_exit_miss; (focus rfl))
      | (apply x_region; simp only [List.toList_toArray])
      | (apply x_step0; (focus rfl); (focus (simp only [go_sem, *]; (try rfl); done)); (focus rfl); simp only [putA])
      | (apply x_panic; (focus (simp only [go_sem, *]; (try rfl); done)); (focus rfl); (focus (simp only [go_sem, *]; (try rfl); done)))
      | (apply x_step; (iterate 2 (focus (simp only [go_sem, *]; (try rfl); done))); (focus rfl); simp only [putA])
      | (apply x_unwanted; (focus (simp only [go_sem, *]; (try rfl); done)); (focus rfl); simp only [putA])
      | (apply x_condT; (focus (simp only [go_sem, *]; (try rfl); done)))
      | (apply x_condF; (focus (simp only [go_sem, *]; (try rfl); done)))
      | (apply x_guardS; (focus rfl); (fail_if_success (focus (show _ = some true; (focus (simp only [go_sem, *]; (try rfl); done))))); (focus (simp only [go_sem, *]; (try rfl); done)); all_goals (intro hb; try simp only [Bool.not_eq_true', Bool.not_eq_false'] at hb))
      | (apply x_condS; (focus (simp only [go_sem, *]; (try rfl); done)); all_goals (intro hb; try simp only [Bool.not_eq_true', Bool.not_eq_false'] at hb))
    apply f_panicO (S2 := S.set a (.cells [.str s'])) (L := [.cells [.int .i64 w, .int .i64 0, .int .i64 0, .int .i64 0, .str []]])
    · (simp only [go_sem, *]; try rfl)
    · (simp only [go_sem, *]; try rfl)
    · simp
    · exact OuterOk.set hO rfl
    · (simp only [go_sem, *, badV]; try rfl)
    · (simp only [go_sem, *, badV]; try rfl)
    · exact HF.out hfin.symm _
  · next ho =>
    have t2 := oT w0 a ho
    have t3 := tkF w0 a 1 (s := []) (by simp)
    unfold TxT at t2
    unfold TxF at t3
    clear hs hn ho l1
    refine enter Tryz.func72 rfl (by decide +kernel) (by rw [Tryz.ntmps72]; simp) (by rw [Tryz.ntmps72]; decide) (fun hO => ?_); rw [Tryz.ntmps72]
    repeat' first
      | apply x_seq | apply x_skip | apply x_block | apply x_exit | apply x_ret | apply x_ops_nil | apply p_blk | apply p_exit_it | apply p_exit_hit | apply p_ret_it | apply p_ret_blk | apply p_panic_it | apply p_panic_blk | apply p_end
      | (apply p_exit_miss; (focus rfl))
      | (apply x_region; simp only [List.toList_toArray])
      | (apply x_step0; (focus rfl); (focus (simp only [go_sem, *]; (try rfl); done)); (focus rfl); simp only [putA])
      | (apply x_callA []; (focus (simp only [go_sem, *]; (try rfl); done)); (focus rfl); (focus (simp only [go_sem, *]; (try rfl); done)); (focus rfl); (iterate 2 (focus (simp only [go_sem, *]; (try rfl); done))); (first | (apply t1; (focus (simp only [go_sem, *]; (try rfl); done))) | (apply t2; (focus (simp only [go_sem, *]; (try rfl); done))) | (apply t3; (focus (simp only [go_sem, *]; (try rfl); done))) | (apply hki)); simp only [afterCall, putA])
      | (apply x_panic; (focus (simp only [go_sem, *]; (try rfl); done)); (focus rfl); (focus (simp only [go_sem, *]; (try rfl); done)))
      | (apply x_step; (iterate 2 (focus (simp only [go_sem, *]; (try rfl); done))); (focus rfl); simp only [putA])
      | (apply x_unwanted; (focus (simp only [go_sem, *]; (try rfl); done)); (focus rfl); simp only [putA])
      | (apply x_condT; (focus (simp only [go_sem, *]; (try rfl); done)))
      | (apply x_condF; (focus (simp only [go_sem, *]; (try rfl); done)))
      | (apply x_guardS; (focus rfl); (fail_if_success (focus (show _ = some true; (focus (simp only [go_sem, *]; (try rfl); done))))); (focus (simp only [go_sem, *]; (try rfl); done)); all_goals (intro hb; try simp only [Bool.not_eq_true', Bool.not_eq_false'] at hb))
      | (apply x_condS; (focus (simp only [go_sem, *]; (try rfl); done)); all_goals (intro hb; try simp only [Bool.not_eq_true', Bool.not_eq_false'] at hb))
    intro s'
    repeat' first
      | apply x_seq | apply x_skip | apply x_block | apply x_exit | apply x_ret | apply x_ops_nil | apply p_blk | apply p_exit_it | apply p_exit_hit | apply p_ret_it | apply p_ret_blk | apply p_panic_it | apply p_panic_blk | apply p_end
      | (apply p_exit_miss; (focus rfl))
      | (apply x_region; simp only [List.toList_toArray])
      | (apply x_step0; (focus rfl); (focus (simp only [go_sem, *]; (try rfl); done)); (focus rfl); simp only [putA])
      | (apply x_panic; (focus (simp only [go_sem, *]; (try rfl); done)); (focus rfl); (focus (simp only [go_sem, *]; (try rfl); done)))
      | (apply x_step; (iterate 2 (focus (simp only [go_sem, *]; (try rfl); done))); (focus rfl); simp only [putA])
      | (apply x_unwanted; (focus (simp only [go_sem, *]; (try rfl); done)); (focus rfl); simp only [putA])
      | (apply x_condT; (focus (simp only [go_sem, *]; (try rfl); done)))
      | (apply x_condF; (focus (simp only [go_sem, *]; (try rfl); done)))
      | (apply x_guardS; (focus rfl); (fail_if_success (focus (show _ = some true; (focus (simp only [go_sem, *]; (try rfl); done))))); (focus (simp only [go_sem, *]; (try rfl); done)); all_goals (intro hb; try simp only [Bool.not_eq_true', Bool.not_eq_false'] at hb))
      | (apply x_condS; (focus (simp only [go_sem, *]; (try rfl); done)); all_goals (intro hb; try simp only [Bool.not_eq_true', Bool.not_eq_false'] at hb))
    apply f_panicO (S2 := S.set a (.cells [.str s'])) (L := [.cells [.int .i64 w, .int .i64 0, .int .i64 0, .int .i64 0, .str []]])
    · (simp only [go_sem, *]; try rfl)
    · (simp only [go_sem, *]; try rfl)
    · simp
    · exact OuterOk.set hO rfl
    · (simp only [go_sem, *, badV]; try rfl)
    · (simp only [go_sem, *, badV]; try rfl)
    · exact HF.out hfin.symm _
  next b s3 ho =>
  have t2 := oT w0 a ho
  have t3 := tkT w0 a 1 (s := b :: s3) (l := [b]) (r := s3) rfl rfl
  unfold TxT at t2 t3
  have l2 := oneP_len ho
  have l3 : s3.length ≤ 1000000000 := by simp at l2; omega
  clear hs hn ho l1 l2
  split at hfin
  · next hk =>
    have hkn := kindOf_none hk
    have m1 : ((b.toNat : Int) == 111) = false := by simp; omega
    have m2 : ((b.toNat : Int) == 105) = false := by simp; omega
    have m3 : ((b.toNat : Int) == 114) = false := by simp; omega
    have m4 : ((b.toNat : Int) == 109) = false := by simp; omega
    clear hkn
    clear hk l3
    refine enter Tryz.func72 rfl (by decide +kernel) (by rw [Tryz.ntmps72]; simp) (by rw [Tryz.ntmps72]; decide) (fun hO => ?_); rw [Tryz.ntmps72]
    repeat' first
      | apply x_seq | apply x_skip | apply x_block | apply x_exit | apply x_ret | apply x_ops_nil | apply p_blk | apply p_exit_it | apply p_exit_hit | apply p_ret_it | apply p_ret_blk | apply p_panic_it | apply p_panic_blk | apply p_end
      | (apply p_exit_miss; (focus rfl))
      | (apply x_region; simp only [List.toList_toArray])
      | (apply x_step0; (focus rfl); (focus (simp only [go_sem, *, kindsL]; (try rfl); done)); (focus rfl); simp only [putA])
      | (apply x_callA []; (focus (simp only [go_sem, *, kindsL]; (try rfl); done)); (focus rfl); (focus (simp only [go_sem, *, kindsL]; (try rfl); done)); (focus rfl); (iterate 2 (focus (simp only [go_sem, *, kindsL]; (try rfl); done))); (first | (apply t1; (focus (simp only [go_sem, *, kindsL]; (try rfl); done))) | (apply t2; (focus (simp only [go_sem, *, kindsL]; (try rfl); done))) | (apply t3; (focus (simp only [go_sem, *, kindsL]; (try rfl); done))) | (apply hki) | (apply hmF)); simp only [afterCall, putA])
      | (apply x_panic; (focus (simp only [go_sem, *, kindsL]; (try rfl); done)); (focus rfl); (focus (simp only [go_sem, *, kindsL]; (try rfl); done)))
      | (apply x_step; (iterate 2 (focus (simp only [go_sem, *, kindsL]; (try rfl); done))); (focus rfl); simp only [putA])
      | (apply x_unwanted; (focus (simp only [go_sem, *, kindsL]; (try rfl); done)); (focus rfl); simp only [putA])
      | (apply x_condT; (focus (simp only [go_sem, *, kindsL]; (try rfl); done)))
      | (apply x_condF; (focus (simp only [go_sem, *, kindsL]; (try rfl); done)))
      | (apply x_guardS; (focus rfl); (fail_if_success (focus (show _ = some true; (focus (simp only [go_sem, *, kindsL]; (try rfl); done))))); (focus (simp only [go_sem, *, kindsL]; (try rfl); done)); all_goals (intro hb; try simp only [Bool.not_eq_true', Bool.not_eq_false'] at hb))
      | (apply x_condS; (focus (simp only [go_sem, *, kindsL]; (try rfl); done)); all_goals (intro hb; try simp only [Bool.not_eq_true', Bool.not_eq_false'] at hb))
    apply f_panicO (S2 := S.set a (.cells [.str s3])) (L := [.cells [.int .i64 w, .int .i64 0, .int .i64 0, .int .i64 0, .str []]])
    · (simp only [go_sem, *]; try rfl)
    · (simp only [go_sem, *]; try rfl)
    · simp
    · exact OuterOk.set hO rfl
    · (simp only [go_sem, *, badV]; try rfl)
    · (simp only [go_sem, *, badV]; try rfl)
    · exact HF.out hfin.symm _
  next k hk =>
  unfold kindP at hfin
  rcases kindOf_some hk with ⟨rfl, rfl⟩ | ⟨rfl, rfl⟩ | ⟨rfl, rfl⟩ | ⟨rfl, rfl⟩
  · clear hk
    split at hfin
    · next h4 =>
      have t4 := oF w0 a h4
      unfold TxF at t4
      clear h4 l3
      refine enter Tryz.func72 rfl (by decide +kernel) (by rw [Tryz.ntmps72]; simp) (by rw [Tryz.ntmps72]; decide) (fun hO => ?_); rw [Tryz.ntmps72]
      repeat' first
        | apply x_seq | apply x_skip | apply x_block | apply x_exit | apply x_ret | apply x_ops_nil | apply p_blk | apply p_exit_it | apply p_exit_hit | apply p_ret_it | apply p_ret_blk | apply p_panic_it | apply p_panic_blk | apply p_end
        | (apply p_exit_miss; (focus rfl))
        | (apply x_region; simp only [List.toList_toArray])
        | (apply x_step0; (focus rfl); (focus (simp only [go_sem, *, kindsL]; (try rfl); done)); (focus rfl); simp only [putA])
        | (apply x_callA []; (focus (simp only [go_sem, *, kindsL]; (try rfl); done)); (focus rfl); (focus (simp only [go_sem, *, kindsL]; (try rfl); done)); (focus rfl); (iterate 2 (focus (simp only [go_sem, *, kindsL]; (try rfl); done))); (first | (apply t1; (focus (simp only [go_sem, *, kindsL]; (try rfl); done))) | (apply t2; (focus (simp only [go_sem, *, kindsL]; (try rfl); done))) | (apply t3; (focus (simp only [go_sem, *, kindsL]; (try rfl); done))) | (apply hki) | (apply hmT) | (apply t4; (focus (simp only [go_sem, *, kindsL]; (try rfl); done)))); simp only [afterCall, putA])
        | (apply x_panic; (focus (simp only [go_sem, *, kindsL]; (try rfl); done)); (focus rfl); (focus (simp only [go_sem, *, kindsL]; (try rfl); done)))
        | (apply x_step; (iterate 2 (focus (simp only [go_sem, *, kindsL]; (try rfl); done))); (focus rfl); simp only [putA])
        | (apply x_unwanted; (focus (simp only [go_sem, *, kindsL]; (try rfl); done)); (focus rfl); simp only [putA])
        | (apply x_condT; (focus (simp only [go_sem, *, kindsL]; (try rfl); done)))
        | (apply x_condF; (focus (simp only [go_sem, *, kindsL]; (try rfl); done)))
        | (apply x_guardS; (focus rfl); (fail_if_success (focus (show _ = some true; (focus (simp only [go_sem, *, kindsL]; (try rfl); done))))); (focus (simp only [go_sem, *, kindsL]; (try rfl); done)); all_goals (intro hb; try simp only [Bool.not_eq_true', Bool.not_eq_false'] at hb))
        | (apply x_condS; (focus (simp only [go_sem, *, kindsL]; (try rfl); done)); all_goals (intro hb; try simp only [Bool.not_eq_true', Bool.not_eq_false'] at hb))
      intro s'
      repeat' first
        | apply x_seq | apply x_skip | apply x_block | apply x_exit | apply x_ret | apply x_ops_nil | apply p_blk | apply p_exit_it | apply p_exit_hit | apply p_ret_it | apply p_ret_blk | apply p_panic_it | apply p_panic_blk | apply p_end
        | (apply p_exit_miss; (focus rfl))
        | (apply x_region; simp only [List.toList_toArray])
        | (apply x_step0; (focus rfl); (focus (simp only [go_sem, *]; (try rfl); done)); (focus rfl); simp only [putA])
        | (apply x_panic; (focus (simp only [go_sem, *]; (try rfl); done)); (focus rfl); (focus (simp only [go_sem, *]; (try rfl); done)))
        | (apply x_step; (iterate 2 (focus (simp only [go_sem, *]; (try rfl); done))); (focus rfl); simp only [putA])
        | (apply x_unwanted; (focus (simp only [go_sem, *]; (try rfl); done)); (focus rfl); simp only [putA])
        | (apply x_condT; (focus (simp only [go_sem, *]; (try rfl); done)))
        | (apply x_condF; (focus (simp only [go_sem, *]; (try rfl); done)))
        | (apply x_guardS; (focus rfl); (fail_if_success (focus (show _ = some true; (focus (simp only [go_sem, *]; (try rfl); done))))); (focus (simp only [go_sem, *]; (try rfl); done)); all_goals (intro hb; try simp only [Bool.not_eq_true', Bool.not_eq_false'] at hb))
        | (apply x_condS; (focus (simp only [go_sem, *]; (try rfl); done)); all_goals (intro hb; try simp only [Bool.not_eq_true', Bool.not_eq_false'] at hb))
      apply f_panicO (S2 := S.set a (.cells [.str s'])) (L := [.cells [.int .i64 w, .int .i64 1, .int .i64 0, .int .i64 0, .str []]])
      · (simp only [go_sem, *]; try rfl)
      · (simp only [go_sem, *]; try rfl)
      · simp
      · exact OuterOk.set hO rfl
      · (simp only [go_sem, *, badV]; try rfl)
      · (simp only [go_sem, *, badV]; try rfl)
      · exact HF.out hfin.symm _
    next s4 h4 =>
    have t4 := oT w0 a h4
    unfold TxT at t4
    have l4 := oneP_len h4
    have l5 : s4.length ≤ 1000000000 := by omega
    clear h4 l3 l4
    unfold restP at hfin
    rw [if_neg (by decide)] at hfin
    cases h5 : quoP s4 with
    | none =>
      rw [h5] at hfin
      have t5 := qF w0 HPU.out a l5 h5
      unfold TxF at t5
      clear h5 l5
      refine enter Tryz.func72 rfl (by decide +kernel) (by rw [Tryz.ntmps72]; simp) (by rw [Tryz.ntmps72]; decide) (fun hO => ?_); rw [Tryz.ntmps72]
      repeat' first
        | apply x_seq | apply x_skip | apply x_block | apply x_exit | apply x_ret | apply x_ops_nil | apply p_blk | apply p_exit_it | apply p_exit_hit | apply p_ret_it | apply p_ret_blk | apply p_panic_it | apply p_panic_blk | apply p_end
        | (apply p_exit_miss; (focus rfl))
        | (apply x_region; simp only [List.toList_toArray])
        | (apply x_step0; (focus rfl); (focus (simp only [go_sem, *, kindsL]; (try rfl); done)); (focus rfl); simp only [putA])
        | (apply x_callA []; (focus (simp only [go_sem, *, kindsL]; (try rfl); done)); (focus rfl); (focus (simp only [go_sem, *, kindsL]; (try rfl); done)); (focus rfl); (iterate 2 (focus (simp only [go_sem, *, kindsL]; (try rfl); done))); (first | (apply t1; (focus (simp only [go_sem, *, kindsL]; (try rfl); done))) | (apply t2; (focus (simp only [go_sem, *, kindsL]; (try rfl); done))) | (apply t3; (focus (simp only [go_sem, *, kindsL]; (try rfl); done))) | (apply hki) | (apply hmT) | (apply t4; (focus (simp only [go_sem, *, kindsL]; (try rfl); done))) | (apply t5; (focus (simp only [go_sem, *, kindsL]; (try rfl); done)))); simp only [afterCall, putA])
        | (apply x_panic; (focus (simp only [go_sem, *, kindsL]; (try rfl); done)); (focus rfl); (focus (simp only [go_sem, *, kindsL]; (try rfl); done)))
        | (apply x_step; (iterate 2 (focus (simp only [go_sem, *, kindsL]; (try rfl); done))); (focus rfl); simp only [putA])
        | (apply x_unwanted; (focus (simp only [go_sem, *, kindsL]; (try rfl); done)); (focus rfl); simp only [putA])
        | (apply x_condT; (focus (simp only [go_sem, *, kindsL]; (try rfl); done)))
        | (apply x_condF; (focus (simp only [go_sem, *, kindsL]; (try rfl); done)))
        | (apply x_guardS; (focus rfl); (fail_if_success (focus (show _ = some true; (focus (simp only [go_sem, *, kindsL]; (try rfl); done))))); (focus (simp only [go_sem, *, kindsL]; (try rfl); done)); all_goals (intro hb; try simp only [Bool.not_eq_true', Bool.not_eq_false'] at hb))
        | (apply x_condS; (focus (simp only [go_sem, *, kindsL]; (try rfl); done)); all_goals (intro hb; try simp only [Bool.not_eq_true', Bool.not_eq_false'] at hb))
      intro s'
      repeat' first
        | apply x_seq | apply x_skip | apply x_block | apply x_exit | apply x_ret | apply x_ops_nil | apply p_blk | apply p_exit_it | apply p_exit_hit | apply p_ret_it | apply p_ret_blk | apply p_panic_it | apply p_panic_blk | apply p_end
        | (apply p_exit_miss; (focus rfl))
        | (apply x_region; simp only [List.toList_toArray])
        | (apply x_step0; (focus rfl); (focus (simp only [go_sem, *]; (try rfl); done)); (focus rfl); simp only [putA])
        | (apply x_panic; (focus (simp only [go_sem, *]; (try rfl); done)); (focus rfl); (focus (simp only [go_sem, *]; (try rfl); done)))
        | (apply x_step; (iterate 2 (focus (simp only [go_sem, *]; (try rfl); done))); (focus rfl); simp only [putA])
        | (apply x_unwanted; (focus (simp only [go_sem, *]; (try rfl); done)); (focus rfl); simp only [putA])
        | (apply x_condT; (focus (simp only [go_sem, *]; (try rfl); done)))
        | (apply x_condF; (focus (simp only [go_sem, *]; (try rfl); done)))
        | (apply x_guardS; (focus rfl); (fail_if_success (focus (show _ = some true; (focus (simp only [go_sem, *]; (try rfl); done))))); (focus (simp only [go_sem, *]; (try rfl); done)); all_goals (intro hb; try simp only [Bool.not_eq_true', Bool.not_eq_false'] at hb))
        | (apply x_condS; (focus (simp only [go_sem, *]; (try rfl); done)); all_goals (intro hb; try simp only [Bool.not_eq_true', Bool.not_eq_false'] at hb))
      apply f_panicO (S2 := S.set a (.cells [.str s'])) (L := [.cells [.int .i64 w, .int .i64 1, .int .i64 0, .int .i64 0, .str []]])
      · (simp only [go_sem, *]; try rfl)
      · (simp only [go_sem, *]; try rfl)
      · simp
      · exact OuterOk.set hO rfl
      · (simp only [go_sem, *, badV]; try rfl)
      · (simp only [go_sem, *, badV]; try rfl)
      · exact HF.out hfin.symm _
    | some p =>
      obtain ⟨t, s5⟩ := p
      rw [h5] at hfin
      have t5 := qT w0 HPU.out a l5 h5
      unfold TxT at t5
      simp only at hfin
      clear h5 l5
      cases h6 : oneP [10] s5 with
      | none =>
        rw [h6] at hfin
        have t6 := oF w0 a h6
        unfold TxF at t6
        clear h6
        refine enter Tryz.func72 rfl (by decide +kernel) (by rw [Tryz.ntmps72]; simp) (by rw [Tryz.ntmps72]; decide) (fun hO => ?_); rw [Tryz.ntmps72]
        repeat' first
          | apply x_seq | apply x_skip | apply x_block | apply x_exit | apply x_ret | apply x_ops_nil | apply p_blk | apply p_exit_it | apply p_exit_hit | apply p_ret_it | apply p_ret_blk | apply p_panic_it | apply p_panic_blk | apply p_end
          | (apply p_exit_miss; (focus rfl))
          | (apply x_region; simp only [List.toList_toArray])
          | (apply x_step0; (focus rfl); (focus (simp only [go_sem, *, kindsL]; (try rfl); done)); (focus rfl); simp only [putA])
          | (apply x_callA []; (focus (simp only [go_sem, *, kindsL]; (try rfl); done)); (focus rfl); (focus (simp only [go_sem, *, kindsL]; (try rfl); done)); (focus rfl); (iterate 2 (focus (simp only [go_sem, *, kindsL]; (try rfl); done))); (first | (apply t1; (focus (simp only [go_sem, *, kindsL]; (try rfl); done))) | (apply t2; (focus (simp only [go_sem, *, kindsL]; (try rfl); done))) | (apply t3; (focus (simp only [go_sem, *, kindsL]; (try rfl); done))) | (apply hki) | (apply hmT) | (apply t4; (focus (simp only [go_sem, *, kindsL]; (try rfl); done))) | (apply t5; (focus (simp only [go_sem, *, kindsL]; (try rfl); done))) | (apply t6; (focus (simp only [go_sem, *, kindsL]; (try rfl); done)))); simp only [afterCall, putA])
          | (apply x_panic; (focus (simp only [go_sem, *, kindsL]; (try rfl); done)); (focus rfl); (focus (simp only [go_sem, *, kindsL]; (try rfl); done)))
          | (apply x_step; (iterate 2 (focus (simp only [go_sem, *, kindsL]; (try rfl); done))); (focus rfl); simp only [putA])
          | (apply x_unwanted; (focus (simp only [go_sem, *, kindsL]; (try rfl); done)); (focus rfl); simp only [putA])
          | (apply x_condT; (focus (simp only [go_sem, *, kindsL]; (try rfl); done)))
          | (apply x_condF; (focus (simp only [go_sem, *, kindsL]; (try rfl); done)))
          | (apply x_guardS; (focus rfl); (fail_if_success (focus (show _ = some true; (focus (simp only [go_sem, *, kindsL]; (try rfl); done))))); (focus (simp only [go_sem, *, kindsL]; (try rfl); done)); all_goals (intro hb; try simp only [Bool.not_eq_true', Bool.not_eq_false'] at hb))
          | (apply x_condS; (focus (simp only [go_sem, *, kindsL]; (try rfl); done)); all_goals (intro hb; try simp only [Bool.not_eq_true', Bool.not_eq_false'] at hb))
        intro s'
        repeat' first
          | apply x_seq | apply x_skip | apply x_block | apply x_exit | apply x_ret | apply x_ops_nil | apply p_blk | apply p_exit_it | apply p_exit_hit | apply p_ret_it | apply p_ret_blk | apply p_panic_it | apply p_panic_blk | apply p_end
          | (apply p_exit_miss; (focus rfl))
          | (apply x_region; simp only [List.toList_toArray])
          | (apply x_step0; (focus rfl); (focus (simp only [go_sem, *]; (try rfl); done)); (focus rfl); simp only [putA])
          | (apply x_panic; (focus (simp only [go_sem, *]; (try rfl); done)); (focus rfl); (focus (simp only [go_sem, *]; (try rfl); done)))
          | (apply x_step; (iterate 2 (focus (simp only [go_sem, *]; (try rfl); done))); (focus rfl); simp only [putA])
          | (apply x_unwanted; (focus (simp only [go_sem, *]; (try rfl); done)); (focus rfl); simp only [putA])
          | (apply x_condT; (focus (simp only [go_sem, *]; (try rfl); done)))
          | (apply x_condF; (focus (simp only [go_sem, *]; (try rfl); done)))
          | (apply x_guardS; (focus rfl); (fail_if_success (focus (show _ = some true; (focus (simp only [go_sem, *]; (try rfl); done))))); (focus (simp only [go_sem, *]; (try rfl); done)); all_goals (intro hb; try simp only [Bool.not_eq_true', Bool.not_eq_false'] at hb))
          | (apply x_condS; (focus (simp only [go_sem, *]; (try rfl); done)); all_goals (intro hb; try simp only [Bool.not_eq_true', Bool.not_eq_false'] at hb))
        apply f_panicO (S2 := S.set a (.cells [.str s'])) (L := [.cells [.int .i64 w, .int .i64 1, .int .i64 0, .int .i64 0, .str t]])
        · (simp only [go_sem, *]; try rfl)
        · (simp only [go_sem, *]; try rfl)
        · simp
        · exact OuterOk.set hO rfl
        · (simp only [go_sem, *, badV]; try rfl)
        · (simp only [go_sem, *, badV]; try rfl)
        · exact HF.out hfin.symm _
      | some s6 =>
        rw [h6] at hfin
        have t6 := oT w0 a h6
        unfold TxT at t6
        clear h6
        refine enter Tryz.func72 rfl (by decide +kernel) (by rw [Tryz.ntmps72]; simp) (by rw [Tryz.ntmps72]; decide) (fun hO => ?_); rw [Tryz.ntmps72]
        repeat' first
          | apply x_seq | apply x_skip | apply x_block | apply x_exit | apply x_ret | apply x_ops_nil | apply p_blk | apply p_exit_it | apply p_exit_hit | apply p_ret_it | apply p_ret_blk | apply p_panic_it | apply p_panic_blk | apply p_end
          | (apply p_exit_miss; (focus rfl))
          | (apply x_region; simp only [List.toList_toArray])
          | (apply x_step0; (focus rfl); (focus (simp only [go_sem, *, kindsL]; (try rfl); done)); (focus rfl); simp only [putA])
          | (apply x_callA []; (focus (simp only [go_sem, *, kindsL]; (try rfl); done)); (focus rfl); (focus (simp only [go_sem, *, kindsL]; (try rfl); done)); (focus rfl); (iterate 2 (focus (simp only [go_sem, *, kindsL]; (try rfl); done))); (first | (apply t1; (focus (simp only [go_sem, *, kindsL]; (try rfl); done))) | (apply t2; (focus (simp only [go_sem, *, kindsL]; (try rfl); done))) | (apply t3; (focus (simp only [go_sem, *, kindsL]; (try rfl); done))) | (apply hki) | (apply hmT) | (apply t4; (focus (simp only [go_sem, *, kindsL]; (try rfl); done))) | (apply t5; (focus (simp only [go_sem, *, kindsL]; (try rfl); done))) | (apply t6; (focus (simp only [go_sem, *, kindsL]; (try rfl); done)))); simp only [afterCall, putA])
          | (apply x_panic; (focus (simp only [go_sem, *, kindsL]; (try rfl); done)); (focus rfl); (focus (simp only [go_sem, *, kindsL]; (try rfl); done)))
          | (apply x_step; (iterate 2 (focus (simp only [go_sem, *, kindsL]; (try rfl); done))); (focus rfl); simp only [putA])
          | (apply x_unwanted; (focus (simp only [go_sem, *, kindsL]; (try rfl); done)); (focus rfl); simp only [putA])
          | (apply x_condT; (focus (simp only [go_sem, *, kindsL]; (try rfl); done)))
          | (apply x_condF; (focus (simp only [go_sem, *, kindsL]; (try rfl); done)))
          | (apply x_guardS; (focus rfl); (fail_if_success (focus (show _ = some true; (focus (simp only [go_sem, *, kindsL]; (try rfl); done))))); (focus (simp only [go_sem, *, kindsL]; (try rfl); done)); all_goals (intro hb; try simp only [Bool.not_eq_true', Bool.not_eq_false'] at hb))
          | (apply x_condS; (focus (simp only [go_sem, *, kindsL]; (try rfl); done)); all_goals (intro hb; try simp only [Bool.not_eq_true', Bool.not_eq_false'] at hb))
        apply f_retO (S2 := S.set a (.cells [.str s6])) (L := [.cells [.int .i64 w, .int .i64 1, .int .i64 0, .int .i64 0, .str t]])
        · (simp only [go_sem, *]; try rfl)
        · (simp only [go_sem, *]; try rfl)
        · simp
        · exact OuterOk.set hO rfl
        · (simp only [go_sem, *, Tryz.results72]; try rfl)
        · (simp only [go_sem, *]; try rfl)
        · (simp only [go_sem, *]; try rfl)
        · exact HR.out _ _ hfin.symm
  · clear hk
    split at hfin
    · next h4 =>
      have t4 := oF w0 a h4
      unfold TxF at t4
      clear h4 l3
      refine enter Tryz.func72 rfl (by decide +kernel) (by rw [Tryz.ntmps72]; simp) (by rw [Tryz.ntmps72]; decide) (fun hO => ?_); rw [Tryz.ntmps72]
      repeat' first
        | apply x_seq | apply x_skip | apply x_block | apply x_exit | apply x_ret | apply x_ops_nil | apply p_blk | apply p_exit_it | apply p_exit_hit | apply p_ret_it | apply p_ret_blk | apply p_panic_it | apply p_panic_blk | apply p_end
        | (apply p_exit_miss; (focus rfl))
        | (apply x_region; simp only [List.toList_toArray])
        | (apply x_step0; (focus rfl); (focus (simp only [go_sem, *, kindsL]; (try rfl); done)); (focus rfl); simp only [putA])
        | (apply x_callA []; (focus (simp only [go_sem, *, kindsL]; (try rfl); done)); (focus rfl); (focus (simp only [go_sem, *, kindsL]; (try rfl); done)); (focus rfl); (iterate 2 (focus (simp only [go_sem, *, kindsL]; (try rfl); done))); (first | (apply t1; (focus (simp only [go_sem, *, kindsL]; (try rfl); done))) | (apply t2; (focus (simp only [go_sem, *, kindsL]; (try rfl); done))) | (apply t3; (focus (simp only [go_sem, *, kindsL]; (try rfl); done))) | (apply hki) | (apply hmT) | (apply t4; (focus (simp only [go_sem, *, kindsL]; (try rfl); done)))); simp only [afterCall, putA])
        | (apply x_panic; (focus (simp only [go_sem, *, kindsL]; (try rfl); done)); (focus rfl); (focus (simp only [go_sem, *, kindsL]; (try rfl); done)))
        | (apply x_step; (iterate 2 (focus (simp only [go_sem, *, kindsL]; (try rfl); done))); (focus rfl); simp only [putA])
        | (apply x_unwanted; (focus (simp only [go_sem, *, kindsL]; (try rfl); done)); (focus rfl); simp only [putA])
        | (apply x_condT; (focus (simp only [go_sem, *, kindsL]; (try rfl); done)))
        | (apply x_condF; (focus (simp only [go_sem, *, kindsL]; (try rfl); done)))
        | (apply x_guardS; (focus rfl); (fail_if_success (focus (show _ = some true; (focus (simp only [go_sem, *, kindsL]; (try rfl); done))))); (focus (simp only [go_sem, *, kindsL]; (try rfl); done)); all_goals (intro hb; try simp only [Bool.not_eq_true', Bool.not_eq_false'] at hb))
        | (apply x_condS; (focus (simp only [go_sem, *, kindsL]; (try rfl); done)); all_goals (intro hb; try simp only [Bool.not_eq_true', Bool.not_eq_false'] at hb))
      intro s'
      repeat' first
        | apply x_seq | apply x_skip | apply x_block | apply x_exit | apply x_ret | apply x_ops_nil | apply p_blk | apply p_exit_it | apply p_exit_hit | apply p_ret_it | apply p_ret_blk | apply p_panic_it | apply p_panic_blk | apply p_end
        | (apply p_exit_miss; (focus rfl))
        | (apply x_region; simp only [List.toList_toArray])
        | (apply x_step0; (focus rfl); (focus (simp only [go_sem, *]; (try rfl); done)); (focus rfl); simp only [putA])
        | (apply x_panic; (focus (simp only [go_sem, *]; (try rfl); done)); (focus rfl); (focus (simp only [go_sem, *]; (try rfl); done)))
        | (apply x_step; (iterate 2 (focus (simp only [go_sem, *]; (try rfl); done))); (focus rfl); simp only [putA])
        | (apply x_unwanted; (focus (simp only [go_sem, *]; (try rfl); done)); (focus rfl); simp only [putA])
        | (apply x_condT; (focus (simp only [go_sem, *]; (try rfl); done)))
        | (apply x_condF; (focus (simp only [go_sem, *]; (try rfl); done)))
        | (apply x_guardS; (focus rfl); (fail_if_success (focus (show _ = some true; (focus (simp only [go_sem, *]; (try rfl); done))))); (focus (simp only [go_sem, *]; (try rfl); done)); all_goals (intro hb; try simp only [Bool.not_eq_true', Bool.not_eq_false'] at hb))
        | (apply x_condS; (focus (simp only [go_sem, *]; (try rfl); done)); all_goals (intro hb; try simp only [Bool.not_eq_true', Bool.not_eq_false'] at hb))
      apply f_panicO (S2 := S.set a (.cells [.str s'])) (L := [.cells [.int .i64 w, .int .i64 2, .int .i64 0, .int .i64 0, .str []]])
      · (simp only [go_sem, *]; try rfl)
      · (simp only [go_sem, *]; try rfl)
      · simp
      · exact OuterOk.set hO rfl
      · (simp only [go_sem, *, badV]; try rfl)
      · (simp only [go_sem, *, badV]; try rfl)
      · exact HF.out hfin.symm _
    next s4 h4 =>
    have t4 := oT w0 a h4
    unfold TxT at t4
    have l4 := oneP_len h4
    have l5 : s4.length ≤ 1000000000 := by omega
    clear h4 l3 l4
    unfold restP at hfin
    rw [if_neg (by decide)] at hfin
    cases h5 : quoP s4 with
    | none =>
      rw [h5] at hfin
      have t5 := qF w0 HPU.out a l5 h5
      unfold TxF at t5
      clear h5 l5
      refine enter Tryz.func72 rfl (by decide +kernel) (by rw [Tryz.ntmps72]; simp) (by rw [Tryz.ntmps72]; decide) (fun hO => ?_); rw [Tryz.ntmps72]
      repeat' first
        | apply x_seq | apply x_skip | apply x_block | apply x_exit | apply x_ret | apply x_ops_nil | apply p_blk | apply p_exit_it | apply p_exit_hit | apply p_ret_it | apply p_ret_blk | apply p_panic_it | apply p_panic_blk | apply p_end
        | (apply p_exit_miss; (focus rfl))
        | (apply x_region; simp only [List.toList_toArray])
        | (apply x_step0; (focus rfl); (focus (simp only [go_sem, *, kindsL]; (try rfl); done)); (focus rfl); simp only [putA])
        | (apply x_callA []; (focus (simp only [go_sem, *, kindsL]; (try rfl); done)); (focus rfl); (focus (simp only [go_sem, *, kindsL]; (try rfl); done)); (focus rfl); (iterate 2 (focus (simp only [go_sem, *, kindsL]; (try rfl); done))); (first | (apply t1; (focus (simp only [go_sem, *, kindsL]; (try rfl); done))) | (apply t2; (focus (simp only [go_sem, *, kindsL]; (try rfl); done))) | (apply t3; (focus (simp only [go_sem, *, kindsL]; (try rfl); done))) | (apply hki) | (apply hmT) | (apply t4; (focus (simp only [go_sem, *, kindsL]; (try rfl); done))) | (apply t5; (focus (simp only [go_sem, *, kindsL]; (try rfl); done)))); simp only [afterCall, putA])
        | (apply x_panic; (focus (simp only [go_sem, *, kindsL]; (try rfl); done)); (focus rfl); (focus (simp only [go_sem, *, kindsL]; (try rfl); done)))
        | (apply x_step; (iterate 2 (focus (simp only [go_sem, *, kindsL]; (try rfl); done))); (focus rfl); simp only [putA])
        | (apply x_unwanted; (focus (simp only [go_sem, *, kindsL]; (try rfl); done)); (focus rfl); simp only [putA])
        | (apply x_condT; (focus (simp only [go_sem, *, kindsL]; (try rfl); done)))
        | (apply x_condF; (focus (simp only [go_sem, *, kindsL]; (try rfl); done)))
        | (apply x_guardS; (focus rfl); (fail_if_success (focus (show _ = some true; (focus (simp only [go_sem, *, kindsL]; (try rfl); done))))); (focus (simp only [go_sem, *, kindsL]; (try rfl); done)); all_goals (intro hb; try simp only [Bool.not_eq_true', Bool.not_eq_false'] at hb))
        | (apply x_condS; (focus (simp only [go_sem, *, kindsL]; (try rfl); done)); all_goals (intro hb; try simp only [Bool.not_eq_true', Bool.not_eq_false'] at hb))
      intro s'
      repeat' first
        | apply x_seq | apply x_skip | apply x_block | apply x_exit | apply x_ret | apply x_ops_nil | apply p_blk | apply p_exit_it | apply p_exit_hit | apply p_ret_it | apply p_ret_blk | apply p_panic_it | apply p_panic_blk | apply p_end
        | (apply p_exit_miss; (focus rfl))
        | (apply x_region; simp only [List.toList_toArray])
        | (apply x_step0; (focus rfl); (focus (simp only [go_sem, *]; (try rfl); done)); (focus rfl); simp only [putA])
        | (apply x_panic; (focus (simp only [go_sem, *]; (try rfl); done)); (focus rfl); (focus (simp only [go_sem, *]; (try rfl); done)))
        | (apply x_step; (iterate 2 (focus (simp only [go_sem, *]; (try rfl); done))); (focus rfl); simp only [putA])
        | (apply x_unwanted; (focus (simp only [go_sem, *]; (try rfl); done)); (focus rfl); simp only [putA])
        | (apply x_condT; (focus (simp only [go_sem, *]; (try rfl); done)))
        | (apply x_condF; (focus (simp only [go_sem, *]; (try rfl); done)))
        | (apply x_guardS; (focus rfl); (fail_if_success (focus (show _ = some true; (focus (simp only [go_sem, *]; (try rfl); done))))); (focus (simp only [go_sem, *]; (try rfl); done)); all_goals (intro hb; try simp only [Bool.not_eq_true', Bool.not_eq_false'] at hb))
        | (apply x_condS; (focus (simp only [go_sem, *]; (try rfl); done)); all_goals (intro hb; try simp only [Bool.not_eq_true', Bool.not_eq_false'] at hb))
      apply f_panicO (S2 := S.set a (.cells [.str s'])) (L := [.cells [.int .i64 w, .int .i64 2, .int .i64 0, .int .i64 0, .str []]])
      · (simp only [go_sem, *]; try rfl)
      · (simp only [go_sem, *]; try rfl)
      · simp
      · exact OuterOk.set hO rfl
      · (simp only [go_sem, *, badV]; try rfl)
      · (simp only [go_sem, *, badV]; try rfl)
      · exact HF.out hfin.symm _
    | some p =>
      obtain ⟨t, s5⟩ := p
      rw [h5] at hfin
      have t5 := qT w0 HPU.out a l5 h5
      unfold TxT at t5
      simp only at hfin
      clear h5 l5
      cases h6 : oneP [10] s5 with
      | none =>
        rw [h6] at hfin
        have t6 := oF w0 a h6
        unfold TxF at t6
        clear h6
        refine enter Tryz.func72 rfl (by decide +kernel) (by rw [Tryz.ntmps72]; simp) (by rw [Tryz.ntmps72]; decide) (fun hO => ?_); rw [Tryz.ntmps72]
        repeat' first
          | apply x_seq | apply x_skip | apply x_block | apply x_exit | apply x_ret | apply x_ops_nil | apply p_blk | apply p_exit_it | apply p_exit_hit | apply p_ret_it | apply p_ret_blk | apply p_panic_it | apply p_panic_blk | apply p_end
          | (apply p_exit_miss; (focus rfl))
          | (apply x_region; simp only [List.toList_toArray])
          | (apply x_step0; (focus rfl); (focus (simp only [go_sem, *, kindsL]; (try rfl); done)); (focus rfl); simp only [putA])
          | (apply x_callA []; (focus (simp only [go_sem, *, kindsL]; (try rfl); done)); (focus rfl); (focus (simp only [go_sem, *, kindsL]; (try rfl); done)); (focus rfl); (iterate 2 (focus (simp only [go_sem, *, kindsL]; (try rfl); done))); (first | (apply t1; (focus (simp only [go_sem, *, kindsL]; (try rfl); done))) | (apply t2; (focus (simp only [go_sem, *, kindsL]; (try rfl); done))) | (apply t3; (focus (simp only [go_sem, *, kindsL]; (try rfl); done))) | (apply hki) | (apply hmT) | (apply t4; (focus (simp only [go_sem, *, kindsL]; (try rfl); done))) | (apply t5; (focus (simp only [go_sem, *, kindsL]; (try rfl); done))) | (apply t6; (focus (simp only [go_sem, *, kindsL]; (try rfl); done)))); simp only [afterCall, putA])
          | (apply x_panic; (focus (simp only [go_sem, *, kindsL]; (try rfl); done)); (focus rfl); (focus (simp only [go_sem, *, kindsL]; (try rfl); done)))
          | (apply x_step; (iterate 2 (focus (simp only [go_sem, *, kindsL]; (try rfl); done))); (focus rfl); simp only [putA])
          | (apply x_unwanted; (focus (simp only [go_sem, *, kindsL]; (try rfl); done)); (focus rfl); simp only [putA])
          | (apply x_condT; (focus (simp only [go_sem, *, kindsL]; (try rfl); done)))
          | (apply x_condF; (focus (simp only [go_sem, *, kindsL]; (try rfl); done)))
          | (apply x_guardS; (focus rfl); (fail_if_success (focus (show _ = some true; (focus (simp only [go_sem, *, kindsL]; (try rfl); done))))); (focus (simp only [go_sem, *, kindsL]; (try rfl); done)); all_goals (intro hb; try simp only [Bool.not_eq_true', Bool.not_eq_false'] at hb))
          | (apply x_condS; (focus (simp only [go_sem, *, kindsL]; (try rfl); done)); all_goals (intro hb; try simp only [Bool.not_eq_true', Bool.not_eq_false'] at hb))
        intro s'
        repeat' first
          | apply x_seq | apply x_skip | apply x_block | apply x_exit | apply x_ret | apply x_ops_nil | apply p_blk | apply p_exit_it | apply p_exit_hit | apply p_ret_it | apply p_ret_blk | apply p_panic_it | apply p_panic_blk | apply p_end
          | (apply p_exit_miss; (focus rfl))
          | (apply x_region; simp only [List.toList_toArray])
          | (apply x_step0; (focus rfl); (focus (simp only [go_sem, *]; (try rfl); done)); (focus rfl); simp only [putA])
          | (apply x_panic; (focus (simp only [go_sem, *]; (try rfl); done)); (focus rfl); (focus (simp only [go_sem, *]; (try rfl); done)))
          | (apply x_step; (iterate 2 (focus (simp only [go_sem, *]; (try rfl); done))); (focus rfl); simp only [putA])
          | (apply x_unwanted; (focus (simp only [go_sem, *]; (try rfl); done)); (focus rfl); simp only [putA])
          | (apply x_condT; (focus (simp only [go_sem, *]; (try rfl); done)))
          | (apply x_condF; (focus (simp only [go_sem, *]; (try rfl); done)))
          | (apply x_guardS; (focus rfl); (fail_if_success (focus (show _ = some true; (focus (simp only [go_sem, *]; (try rfl); done))))); (focus (simp only [go_sem, *]; (try rfl); done)); all_goals (intro hb; try simp only [Bool.not_eq_true', Bool.not_eq_false'] at hb))
          | (apply x_condS; (focus (simp only [go_sem, *]; (try rfl); done)); all_goals (intro hb; try simp only [Bool.not_eq_true', Bool.not_eq_false'] at hb))
        apply f_panicO (S2 := S.set a (.cells [.str s'])) (L := [.cells [.int .i64 w, .int .i64 2, .int .i64 0, .int .i64 0, .str t]])
        · (simp only [go_sem, *]; try rfl)
        · (simp only [go_sem, *]; try rfl)
        · simp
        · exact OuterOk.set hO rfl
        · (simp only [go_sem, *, badV]; try rfl)
        · (simp only [go_sem, *, badV]; try rfl)
        · exact HF.out hfin.symm _
      | some s6 =>
        rw [h6] at hfin
        have t6 := oT w0 a h6
        unfold TxT at t6
        clear h6
        refine enter Tryz.func72 rfl (by decide +kernel) (by rw [Tryz.ntmps72]; simp) (by rw [Tryz.ntmps72]; decide) (fun hO => ?_); rw [Tryz.ntmps72]
        repeat' first
          | apply x_seq | apply x_skip | apply x_block | apply x_exit | apply x_ret | apply x_ops_nil | apply p_blk | apply p_exit_it | apply p_exit_hit | apply p_ret_it | apply p_ret_blk | apply p_panic_it | apply p_panic_blk | apply p_end
          | (apply p_exit_miss; (focus rfl))
          | (apply x_region; simp only [List.toList_toArray])
          | (apply x_step0; (focus rfl); (focus (simp only [go_sem, *, kindsL]; (try rfl); done)); (focus rfl); simp only [putA])
          | (apply x_callA []; (focus (simp only [go_sem, *, kindsL]; (try rfl); done)); (focus rfl); (focus (simp only [go_sem, *, kindsL]; (try rfl); done)); (focus rfl); (iterate 2 (focus (simp only [go_sem, *, kindsL]; (try rfl); done))); (first | (apply t1; (focus (simp only [go_sem, *, kindsL]; (try rfl); done))) | (apply t2; (focus (simp only [go_sem, *, kindsL]; (try rfl); done))) | (apply t3; (focus (simp only [go_sem, *, kindsL]; (try rfl); done))) | (apply hki) | (apply hmT) | (apply t4; (focus (simp only [go_sem, *, kindsL]; (try rfl); done))) | (apply t5; (focus (simp only [go_sem, *, kindsL]; (try rfl); done))) | (apply t6; (focus (simp only [go_sem, *, kindsL]; (try rfl); done)))); simp only [afterCall, putA])
          | (apply x_panic; (focus (simp only [go_sem, *, kindsL]; (try rfl); done)); (focus rfl); (focus (simp only [go_sem, *, kindsL]; (try rfl); done)))
          | (apply x_step; (iterate 2 (focus (simp only [go_sem, *, kindsL]; (try rfl); done))); (focus rfl); simp only [putA])
          | (apply x_unwanted; (focus (simp only [go_sem, *, kindsL]; (try rfl); done)); (focus rfl); simp only [putA])
          | (apply x_condT; (focus (simp only [go_sem, *, kindsL]; (try rfl); done)))
          | (apply x_condF; (focus (simp only [go_sem, *, kindsL]; (try rfl); done)))
          | (apply x_guardS; (focus rfl); (fail_if_success (focus (show _ = some true; (focus (simp only [go_sem, *, kindsL]; (try rfl); done))))); (focus (simp only [go_sem, *, kindsL]; (try rfl); done)); all_goals (intro hb; try simp only [Bool.not_eq_true', Bool.not_eq_false'] at hb))
          | (apply x_condS; (focus (simp only [go_sem, *, kindsL]; (try rfl); done)); all_goals (intro hb; try simp only [Bool.not_eq_true', Bool.not_eq_false'] at hb))
        apply f_retO (S2 := S.set a (.cells [.str s6])) (L := [.cells [.int .i64 w, .int .i64 2, .int .i64 0, .int .i64 0, .str t]])
        · (simp only [go_sem, *]; try rfl)
        · (simp only [go_sem, *]; try rfl)
        · simp
        · exact OuterOk.set hO rfl
        · (simp only [go_sem, *, Tryz.results72]; try rfl)
        · (simp only [go_sem, *]; try rfl)
        · (simp only [go_sem, *]; try rfl)
        · exact HR.out _ _ hfin.symm
  · clear hk
    split at hfin
    · next h4 =>
      have t4 := oF w0 a h4
      unfold TxF at t4
      clear h4 l3
      refine enter Tryz.func72 rfl (by decide +kernel) (by rw [Tryz.ntmps72]; simp) (by rw [Tryz.ntmps72]; decide) (fun hO => ?_); rw [Tryz.ntmps72]
      repeat' first
        | apply x_seq | apply x_skip | apply x_block | apply x_exit | apply x_ret | apply x_ops_nil | apply p_blk | apply p_exit_it | apply p_exit_hit | apply p_ret_it | apply p_ret_blk | apply p_panic_it | apply p_panic_blk | apply p_end
        | (apply p_exit_miss; (focus rfl))
        | (apply x_region; simp only [List.toList_toArray])
        | (apply x_step0; (focus rfl); (focus (simp only [go_sem, *, kindsL]; (try rfl); done)); (focus rfl); simp only [putA])
        | (apply x_callA []; (focus (simp only [go_sem, *, kindsL]; (try rfl); done)); (focus rfl); (focus (simp only [go_sem, *, kindsL]; (try rfl); done)); (focus rfl); (iterate 2 (focus (simp only [go_sem, *, kindsL]; (try rfl); done))); (first | (apply t1; (focus (simp only [go_sem, *, kindsL]; (try rfl); done))) | (apply t2; (focus (simp only [go_sem, *, kindsL]; (try rfl); done))) | (apply t3; (focus (simp only [go_sem, *, kindsL]; (try rfl); done))) | (apply hki) | (apply hmT) | (apply t4; (focus (simp only [go_sem, *, kindsL]; (try rfl); done)))); simp only [afterCall, putA])
        | (apply x_panic; (focus (simp only [go_sem, *, kindsL]; (try rfl); done)); (focus rfl); (focus (simp only [go_sem, *, kindsL]; (try rfl); done)))
        | (apply x_step; (iterate 2 (focus (simp only [go_sem, *, kindsL]; (try rfl); done))); (focus rfl); simp only [putA])
        | (apply x_unwanted; (focus (simp only [go_sem, *, kindsL]; (try rfl); done)); (focus rfl); simp only [putA])
        | (apply x_condT; (focus (simp only [go_sem, *, kindsL]; (try rfl); done)))
        | (apply x_condF; (focus (simp only [go_sem, *, kindsL]; (try rfl); done)))
        | (apply x_guardS; (focus rfl); (fail_if_success (focus (show _ = some true; (focus (simp only [go_sem, *, kindsL]; (try rfl); done))))); (focus (simp only [go_sem, *, kindsL]; (try rfl); done)); all_goals (intro hb; try simp only [Bool.not_eq_true', Bool.not_eq_false'] at hb))
        | (apply x_condS; (focus (simp only [go_sem, *, kindsL]; (try rfl); done)); all_goals (intro hb; try simp only [Bool.not_eq_true', Bool.not_eq_false'] at hb))
      intro s'
      repeat' first
        | apply x_seq | apply x_skip | apply x_block | apply x_exit | apply x_ret | apply x_ops_nil | apply p_blk | apply p_exit_it | apply p_exit_hit | apply p_ret_it | apply p_ret_blk | apply p_panic_it | apply p_panic_blk | apply p_end
        | (apply p_exit_miss; (focus rfl))
        | (apply x_region; simp only [List.toList_toArray])
        | (apply x_step0; (focus rfl); (focus (simp only [go_sem, *]; (try rfl); done)); (focus rfl); simp only [putA])
        | (apply x_panic; (focus (simp only [go_sem, *]; (try rfl); done)); (focus rfl); (focus (simp only [go_sem, *]; (try rfl); done)))
        | (apply x_step; (iterate 2 (focus (simp only [go_sem, *]; (try rfl); done))); (focus rfl); simp only [putA])
        | (apply x_unwanted; (focus (simp only [go_sem, *]; (try rfl); done)); (focus rfl); simp only [putA])
        | (apply x_condT; (focus (simp only [go_sem, *]; (try rfl); done)))
        | (apply x_condF; (focus (simp only [go_sem, *]; (try rfl); done)))
        | (apply x_guardS; (focus rfl); (fail_if_success (focus (show _ = some true; (focus (simp only [go_sem, *]; (try rfl); done))))); (focus (simp only [go_sem, *]; (try rfl); done)); all_goals (intro hb; try simp only [Bool.not_eq_true', Bool.not_eq_false'] at hb))
        | (apply x_condS; (focus (simp only [go_sem, *]; (try rfl); done)); all_goals (intro hb; try simp only [Bool.not_eq_true', Bool.not_eq_false'] at hb))
      apply f_panicO (S2 := S.set a (.cells [.str s'])) (L := [.cells [.int .i64 w, .int .i64 3, .int .i64 0, .int .i64 0, .str []]])
      · (simp only [go_sem, *]; try rfl)
      · (simp only [go_sem, *]; try rfl)
      · simp
      · exact OuterOk.set hO rfl
      · (simp only [go_sem, *, badV]; try rfl)
      · (simp only [go_sem, *, badV]; try rfl)
      · exact HF.out hfin.symm _
    next s4 h4 =>
    have t4 := oT w0 a h4
    unfold TxT at t4
    have l4 := oneP_len h4
    have l5 : s4.length ≤ 1000000000 := by omega
    clear h4 l3 l4
    unfold restP at hfin
    rw [if_pos rfl] at hfin
    cases h5 : sizeP s4 with
    | none =>
      rw [h5] at hfin
      have t5 := sizeF w0 a l5 h5
      unfold TxF at t5
      clear h5 l5
      refine enter Tryz.func72 rfl (by decide +kernel) (by rw [Tryz.ntmps72]; simp) (by rw [Tryz.ntmps72]; decide) (fun hO => ?_); rw [Tryz.ntmps72]
      repeat' first
        | apply x_seq | apply x_skip | apply x_block | apply x_exit | apply x_ret | apply x_ops_nil | apply p_blk | apply p_exit_it | apply p_exit_hit | apply p_ret_it | apply p_ret_blk | apply p_panic_it | apply p_panic_blk | apply p_end
        | (apply p_exit_miss; (focus rfl))
        | (apply x_region; simp only [List.toList_toArray])
        | (apply x_step0; (focus rfl); (focus (simp only [go_sem, *, kindsL]; (try rfl); done)); (focus rfl); simp only [putA])
        | (apply x_callA []; (focus (simp only [go_sem, *, kindsL]; (try rfl); done)); (focus rfl); (focus (simp only [go_sem, *, kindsL]; (try rfl); done)); (focus rfl); (iterate 2 (focus (simp only [go_sem, *, kindsL]; (try rfl); done))); (first | (apply t1; (focus (simp only [go_sem, *, kindsL]; (try rfl); done))) | (apply t2; (focus (simp only [go_sem, *, kindsL]; (try rfl); done))) | (apply t3; (focus (simp only [go_sem, *, kindsL]; (try rfl); done))) | (apply hki) | (apply hmT) | (apply t4; (focus (simp only [go_sem, *, kindsL]; (try rfl); done))) | (apply t5; (focus (simp only [go_sem, *, kindsL]; (try rfl); done)))); simp only [afterCall, putA])
        | (apply x_panic; (focus (simp only [go_sem, *, kindsL]; (try rfl); done)); (focus rfl); (focus (simp only [go_sem, *, kindsL]; (try rfl); done)))
        | (apply x_step; (iterate 2 (focus (simp only [go_sem, *, kindsL]; (try rfl); done))); (focus rfl); simp only [putA])
        | (apply x_unwanted; (focus (simp only [go_sem, *, kindsL]; (try rfl); done)); (focus rfl); simp only [putA])
        | (apply x_condT; (focus (simp only [go_sem, *, kindsL]; (try rfl); done)))
        | (apply x_condF; (focus (simp only [go_sem, *, kindsL]; (try rfl); done)))
        | (apply x_guardS; (focus rfl); (fail_if_success (focus (show _ = some true; (focus (simp only [go_sem, *, kindsL]; (try rfl); done))))); (focus (simp only [go_sem, *, kindsL]; (try rfl); done)); all_goals (intro hb; try simp only [Bool.not_eq_true', Bool.not_eq_false'] at hb))
        | (apply x_condS; (focus (simp only [go_sem, *, kindsL]; (try rfl); done)); all_goals (intro hb; try simp only [Bool.not_eq_true', Bool.not_eq_false'] at hb))
      intro s'
      repeat' first
        | apply x_seq | apply x_skip | apply x_block | apply x_exit | apply x_ret | apply x_ops_nil | apply p_blk | apply p_exit_it | apply p_exit_hit | apply p_ret_it | apply p_ret_blk | apply p_panic_it | apply p_panic_blk | apply p_end
        | (apply p_exit_miss; (focus rfl))
        | (apply x_region; simp only [List.toList_toArray])
        | (apply x_step0; (focus rfl); (focus (simp only [go_sem, *]; (try rfl); done)); (focus rfl); simp only [putA])
        | (apply x_panic; (focus (simp only [go_sem, *]; (try rfl); done)); (focus rfl); (focus (simp only [go_sem, *]; (try rfl); done)))
        | (apply x_step; (iterate 2 (focus (simp only [go_sem, *]; (try rfl); done))); (focus rfl); simp only [putA])
        | (apply x_unwanted; (focus (simp only [go_sem, *]; (try rfl); done)); (focus rfl); simp only [putA])
        | (apply x_condT; (focus (simp only [go_sem, *]; (try rfl); done)))
        | (apply x_condF; (focus (simp only [go_sem, *]; (try rfl); done)))
        | (apply x_guardS; (focus rfl); (fail_if_success (focus (show _ = some true; (focus (simp only [go_sem, *]; (try rfl); done))))); (focus (simp only [go_sem, *]; (try rfl); done)); all_goals (intro hb; try simp only [Bool.not_eq_true', Bool.not_eq_false'] at hb))
        | (apply x_condS; (focus (simp only [go_sem, *]; (try rfl); done)); all_goals (intro hb; try simp only [Bool.not_eq_true', Bool.not_eq_false'] at hb))
      apply f_panicO (S2 := S.set a (.cells [.str s'])) (L := [.cells [.int .i64 w, .int .i64 3, .int .i64 0, .int .i64 0, .str []]])
      · (simp only [go_sem, *]; try rfl)
      · (simp only [go_sem, *]; try rfl)
      · simp
      · exact OuterOk.set hO rfl
      · (simp only [go_sem, *, badV]; try rfl)
      · (simp only [go_sem, *, badV]; try rfl)
      · exact HF.out hfin.symm _
    | some p =>
      obtain ⟨⟨c, r⟩, s5⟩ := p
      rw [h5] at hfin
      have t5 := sizeT w0 a l5 h5
      unfold TxT at t5
      simp only at hfin
      clear h5 l5
      cases h6 : oneP [10] s5 with
      | none =>
        rw [h6] at hfin
        have t6 := oF w0 a h6
        unfold TxF at t6
        clear h6
        refine enter Tryz.func72 rfl (by decide +kernel) (by rw [Tryz.ntmps72]; simp) (by rw [Tryz.ntmps72]; decide) (fun hO => ?_); rw [Tryz.ntmps72]
        repeat' first
          | apply x_seq | apply x_skip | apply x_block | apply x_exit | apply x_ret | apply x_ops_nil | apply p_blk | apply p_exit_it | apply p_exit_hit | apply p_ret_it | apply p_ret_blk | apply p_panic_it | apply p_panic_blk | apply p_end
          | (apply p_exit_miss; (focus rfl))
          | (apply x_region; simp only [List.toList_toArray])
          | (apply x_step0; (focus rfl); (focus (simp only [go_sem, *, kindsL]; (try rfl); done)); (focus rfl); simp only [putA])
          | (apply x_callA []; (focus (simp only [go_sem, *, kindsL]; (try rfl); done)); (focus rfl); (focus (simp only [go_sem, *, kindsL]; (try rfl); done)); (focus rfl); (iterate 2 (focus (simp only [go_sem, *, kindsL]; (try rfl); done))); (first | (apply t1; (focus (simp only [go_sem, *, kindsL]; (try rfl); done))) | (apply t2; (focus (simp only [go_sem, *, kindsL]; (try rfl); done))) | (apply t3; (focus (simp only [go_sem, *, kindsL]; (try rfl); done))) | (apply hki) | (apply hmT) | (apply t4; (focus (simp only [go_sem, *, kindsL]; (try rfl); done))) | (apply t5; (focus (simp only [go_sem, *, kindsL]; (try rfl); done))) | (apply t6; (focus (simp only [go_sem, *, kindsL]; (try rfl); done)))); simp only [afterCall, putA])
          | (apply x_panic; (focus (simp only [go_sem, *, kindsL]; (try rfl); done)); (focus rfl); (focus (simp only [go_sem, *, kindsL]; (try rfl); done)))
          | (apply x_step; (iterate 2 (focus (simp only [go_sem, *, kindsL]; (try rfl); done))); (focus rfl); simp only [putA])
          | (apply x_unwanted; (focus (simp only [go_sem, *, kindsL]; (try rfl); done)); (focus rfl); simp only [putA])
          | (apply x_condT; (focus (simp only [go_sem, *, kindsL]; (try rfl); done)))
          | (apply x_condF; (focus (simp only [go_sem, *, kindsL]; (try rfl); done)))
          | (apply x_guardS; (focus rfl); (fail_if_success (focus (show _ = some true; (focus (simp only [go_sem, *, kindsL]; (try rfl); done))))); (focus (simp only [go_sem, *, kindsL]; (try rfl); done)); all_goals (intro hb; try simp only [Bool.not_eq_true', Bool.not_eq_false'] at hb))
          | (apply x_condS; (focus (simp only [go_sem, *, kindsL]; (try rfl); done)); all_goals (intro hb; try simp only [Bool.not_eq_true', Bool.not_eq_false'] at hb))
        intro s'
        repeat' first
          | apply x_seq | apply x_skip | apply x_block | apply x_exit | apply x_ret | apply x_ops_nil | apply p_blk | apply p_exit_it | apply p_exit_hit | apply p_ret_it | apply p_ret_blk | apply p_panic_it | apply p_panic_blk | apply p_end
          | (apply p_exit_miss; (focus rfl))
          | (apply x_region; simp only [List.toList_toArray])
          | (apply x_step0; (focus rfl); (focus (simp only [go_sem, *]; (try rfl); done)); (focus rfl); simp only [putA])
          | (apply x_panic; (focus (simp only [go_sem, *]; (try rfl); done)); (focus rfl); (focus (simp only [go_sem, *]; (try rfl); done)))
          | (apply x_step; (iterate 2 (focus (simp only [go_sem, *]; (try rfl); done))); (focus rfl); simp only [putA])
          | (apply x_unwanted; (focus (simp only [go_sem, *]; (try rfl); done)); (focus rfl); simp only [putA])
          | (apply x_condT; (focus (simp only [go_sem, *]; (try rfl); done)))
          | (apply x_condF; (focus (simp only [go_sem, *]; (try rfl); done)))
          | (apply x_guardS; (focus rfl); (fail_if_success (focus (show _ = some true; (focus (simp only [go_sem, *]; (try rfl); done))))); (focus (simp only [go_sem, *]; (try rfl); done)); all_goals (intro hb; try simp only [Bool.not_eq_true', Bool.not_eq_false'] at hb))
          | (apply x_condS; (focus (simp only [go_sem, *]; (try rfl); done)); all_goals (intro hb; try simp only [Bool.not_eq_true', Bool.not_eq_false'] at hb))
        apply f_panicO (S2 := S.set a (.cells [.str s'])) (L := [.cells [.int .i64 w, .int .i64 3, .int .i64 c, .int .i64 r, .str []]])
        · (simp only [go_sem, *]; try rfl)
        · (simp only [go_sem, *]; try rfl)
        · simp
        · exact OuterOk.set hO rfl
        · (simp only [go_sem, *, badV]; try rfl)
        · (simp only [go_sem, *, badV]; try rfl)
        · exact HF.out hfin.symm _
      | some s6 =>
        rw [h6] at hfin
        have t6 := oT w0 a h6
        unfold TxT at t6
        clear h6
        refine enter Tryz.func72 rfl (by decide +kernel) (by rw [Tryz.ntmps72]; simp) (by rw [Tryz.ntmps72]; decide) (fun hO => ?_); rw [Tryz.ntmps72]
        repeat' first
          | apply x_seq | apply x_skip | apply x_block | apply x_exit | apply x_ret | apply x_ops_nil | apply p_blk | apply p_exit_it | apply p_exit_hit | apply p_ret_it | apply p_ret_blk | apply p_panic_it | apply p_panic_blk | apply p_end
          | (apply p_exit_miss; (focus rfl))
          | (apply x_region; simp only [List.toList_toArray])
          | (apply x_step0; (focus rfl); (focus (simp only [go_sem, *, kindsL]; (try rfl); done)); (focus rfl); simp only [putA])
          | (apply x_callA []; (focus (simp only [go_sem, *, kindsL]; (try rfl); done)); (focus rfl); (focus (simp only [go_sem, *, kindsL]; (try rfl); done)); (focus rfl); (iterate 2 (focus (simp only [go_sem, *, kindsL]; (try rfl); done))); (first | (apply t1; (focus (simp only [go_sem, *, kindsL]; (try rfl); done))) | (apply t2; (focus (simp only [go_sem, *, kindsL]; (try rfl); done))) | (apply t3; (focus (simp only [go_sem, *, kindsL]; (try rfl); done))) | (apply hki) | (apply hmT) | (apply t4; (focus (simp only [go_sem, *, kindsL]; (try rfl); done))) | (apply t5; (focus (simp only [go_sem, *, kindsL]; (try rfl); done))) | (apply t6; (focus (simp only [go_sem, *, kindsL]; (try rfl); done)))); simp only [afterCall, putA])
          | (apply x_panic; (focus (simp only [go_sem, *, kindsL]; (try rfl); done)); (focus rfl); (focus (simp only [go_sem, *, kindsL]; (try rfl); done)))
          | (apply x_step; (iterate 2 (focus (simp only [go_sem, *, kindsL]; (try rfl); done))); (focus rfl); simp only [putA])
          | (apply x_unwanted; (focus (simp only [go_sem, *, kindsL]; (try rfl); done)); (focus rfl); simp only [putA])
          | (apply x_condT; (focus (simp only [go_sem, *, kindsL]; (try rfl); done)))
          | (apply x_condF; (focus (simp only [go_sem, *, kindsL]; (try rfl); done)))
          | (apply x_guardS; (focus rfl); (fail_if_success (focus (show _ = some true; (focus (simp only [go_sem, *, kindsL]; (try rfl); done))))); (focus (simp only [go_sem, *, kindsL]; (try rfl); done)); all_goals (intro hb; try simp only [Bool.not_eq_true', Bool.not_eq_false'] at hb))
          | (apply x_condS; (focus (simp only [go_sem, *, kindsL]; (try rfl); done)); all_goals (intro hb; try simp only [Bool.not_eq_true', Bool.not_eq_false'] at hb))
        apply f_retO (S2 := S.set a (.cells [.str s6])) (L := [.cells [.int .i64 w, .int .i64 3, .int .i64 c, .int .i64 r, .str []]])
        · (simp only [go_sem, *]; try rfl)
        · (simp only [go_sem, *]; try rfl)
        · simp
        · exact OuterOk.set hO rfl
        · (simp only [go_sem, *, Tryz.results72]; try rfl)
        · (simp only [go_sem, *]; try rfl)
        · (simp only [go_sem, *]; try rfl)
        · exact HR.out _ _ hfin.symm
  · clear hk
    split at hfin
    · next h4 =>
      have t4 := oF w0 a h4
      unfold TxF at t4
      clear h4 l3
      refine enter Tryz.func72 rfl (by decide +kernel) (by rw [Tryz.ntmps72]; simp) (by rw [Tryz.ntmps72]; decide) (fun hO => ?_); rw [Tryz.ntmps72]
      repeat' first
        | apply x_seq | apply x_skip | apply x_block | apply x_exit | apply x_ret | apply x_ops_nil | apply p_blk | apply p_exit_it | apply p_exit_hit | apply p_ret_it | apply p_ret_blk | apply p_panic_it | apply p_panic_blk | apply p_end
        | (apply p_exit_miss; (focus rfl))
        | (apply x_region; simp only [List.toList_toArray])
        | (apply x_step0; (focus rfl); (focus (simp only [go_sem, *, kindsL]; (try rfl); done)); (focus rfl); simp only [putA])
        | (apply x_callA []; (focus (simp only [go_sem, *, kindsL]; (try rfl); done)); (focus rfl); (focus (simp only [go_sem, *, kindsL]; (try rfl); done)); (focus rfl); (iterate 2 (focus (simp only [go_sem, *, kindsL]; (try rfl); done))); (first | (apply t1; (focus (simp only [go_sem, *, kindsL]; (try rfl); done))) | (apply t2; (focus (simp only [go_sem, *, kindsL]; (try rfl); done))) | (apply t3; (focus (simp only [go_sem, *, kindsL]; (try rfl); done))) | (apply hki) | (apply hmT) | (apply t4; (focus (simp only [go_sem, *, kindsL]; (try rfl); done)))); simp only [afterCall, putA])
        | (apply x_panic; (focus (simp only [go_sem, *, kindsL]; (try rfl); done)); (focus rfl); (focus (simp only [go_sem, *, kindsL]; (try rfl); done)))
        | (apply x_step; (iterate 2 (focus (simp only [go_sem, *, kindsL]; (try rfl); done))); (focus rfl); simp only [putA])
        | (apply x_unwanted; (focus (simp only [go_sem, *, kindsL]; (try rfl); done)); (focus rfl); simp only [putA])
        | (apply x_condT; (focus (simp only [go_sem, *, kindsL]; (try rfl); done)))
        | (apply x_condF; (focus (simp only [go_sem, *, kindsL]; (try rfl); done)))
        | (apply x_guardS; (focus rfl); (fail_if_success (focus (show _ = some true; (focus (simp only [go_sem, *, kindsL]; (try rfl); done))))); (focus (simp only [go_sem, *, kindsL]; (try rfl); done)); all_goals (intro hb; try simp only [Bool.not_eq_true', Bool.not_eq_false'] at hb))
        | (apply x_condS; (focus (simp only [go_sem, *, kindsL]; (try rfl); done)); all_goals (intro hb; try simp only [Bool.not_eq_true', Bool.not_eq_false'] at hb))
      intro s'
      repeat' first
        | apply x_seq | apply x_skip | apply x_block | apply x_exit | apply x_ret | apply x_ops_nil | apply p_blk | apply p_exit_it | apply p_exit_hit | apply p_ret_it | apply p_ret_blk | apply p_panic_it | apply p_panic_blk | apply p_end
        | (apply p_exit_miss; (focus rfl))
        | (apply x_region; simp only [List.toList_toArray])
        | (apply x_step0; (focus rfl); (focus (simp only [go_sem, *]; (try rfl); done)); (focus rfl); simp only [putA])
        | (apply x_panic; (focus (simp only [go_sem, *]; (try rfl); done)); (focus rfl); (focus (simp only [go_sem, *]; (try rfl); done)))
        | (apply x_step; (iterate 2 (focus (simp only [go_sem, *]; (try rfl); done))); (focus rfl); simp only [putA])
        | (apply x_unwanted; (focus (simp only [go_sem, *]; (try rfl); done)); (focus rfl); simp only [putA])
        | (apply x_condT; (focus (simp only [go_sem, *]; (try rfl); done)))
        | (apply x_condF; (focus (simp only [go_sem, *]; (try rfl); done)))
        | (apply x_guardS; (focus rfl); (fail_if_success (focus (show _ = some true; (focus (simp only [go_sem, *]; (try rfl); done))))); (focus (simp only [go_sem, *]; (try rfl); done)); all_goals (intro hb; try simp only [Bool.not_eq_true', Bool.not_eq_false'] at hb))
        | (apply x_condS; (focus (simp only [go_sem, *]; (try rfl); done)); all_goals (intro hb; try simp only [Bool.not_eq_true', Bool.not_eq_false'] at hb))
      apply f_panicO (S2 := S.set a (.cells [.str s'])) (L := [.cells [.int .i64 w, .int .i64 4, .int .i64 0, .int .i64 0, .str []]])
      · (simp only [go_sem, *]; try rfl)
      · (simp only [go_sem, *]; try rfl)
      · simp
      · exact OuterOk.set hO rfl
      · (simp only [go_sem, *, badV]; try rfl)
      · (simp only [go_sem, *, badV]; try rfl)
      · exact HF.out hfin.symm _
    next s4 h4 =>
    have t4 := oT w0 a h4
    unfold TxT at t4
    have l4 := oneP_len h4
    have l5 : s4.length ≤ 1000000000 := by omega
    clear h4 l3 l4
    unfold restP at hfin
    rw [if_neg (by decide)] at hfin
    cases h5 : quoP s4 with
    | none =>
      rw [h5] at hfin
      have t5 := qF w0 HPU.out a l5 h5
      unfold TxF at t5
      clear h5 l5
      refine enter Tryz.func72 rfl (by decide +kernel) (by rw [Tryz.ntmps72]; simp) (by rw [Tryz.ntmps72]; decide) (fun hO => ?_); rw [Tryz.ntmps72]
      repeat' first
        | apply x_seq | apply x_skip | apply x_block | apply x_exit | apply x_ret | apply x_ops_nil | apply p_blk | apply p_exit_it | apply p_exit_hit | apply p_ret_it | apply p_ret_blk | apply p_panic_it | apply p_panic_blk | apply p_end
        | (apply p_exit_miss; (focus rfl))
        | (apply x_region; simp only [List.toList_toArray])
        | (apply x_step0; (focus rfl); (focus (simp only [go_sem, *, kindsL]; (try rfl); done)); (focus rfl); simp only [putA])
        | (apply x_callA []; (focus (simp only [go_sem, *, kindsL]; (try rfl); done)); (focus rfl); (focus (simp only [go_sem, *, kindsL]; (try rfl); done)); (focus rfl); (iterate 2 (focus (simp only [go_sem, *, kindsL]; (try rfl); done))); (first | (apply t1; (focus (simp only [go_sem, *, kindsL]; (try rfl); done))) | (apply t2; (focus (simp only [go_sem, *, kindsL]; (try rfl); done))) | (apply t3; (focus (simp only [go_sem, *, kindsL]; (try rfl); done))) | (apply hki) | (apply hmT) | (apply t4; (focus (simp only [go_sem, *, kindsL]; (try rfl); done))) | (apply t5; (focus (simp only [go_sem, *, kindsL]; (try rfl); done)))); simp only [afterCall, putA])
        | (apply x_panic; (focus (simp only [go_sem, *, kindsL]; (try rfl); done)); (focus rfl); (focus (simp only [go_sem, *, kindsL]; (try rfl); done)))
        | (apply x_step; (iterate 2 (focus (simp only [go_sem, *, kindsL]; (try rfl); done))); (focus rfl); simp only [putA])
        | (apply x_unwanted; (focus (simp only [go_sem, *, kindsL]; (try rfl); done)); (focus rfl); simp only [putA])
        | (apply x_condT; (focus (simp only [go_sem, *, kindsL]; (try rfl); done)))
        | (apply x_condF; (focus (simp only [go_sem, *, kindsL]; (try rfl); done)))
        | (apply x_guardS; (focus rfl); (fail_if_success (focus (show _ = some true; (focus (simp only [go_sem, *, kindsL]; (try rfl); done))))); (focus (simp only [go_sem, *, kindsL]; (try rfl); done)); all_goals (intro hb; try simp only [Bool.not_eq_true', Bool.not_eq_false'] at hb))
        | (apply x_condS; (focus (simp only [go_sem, *, kindsL]; (try rfl); done)); all_goals (intro hb; try simp only [Bool.not_eq_true', Bool.not_eq_false'] at hb))
      intro s'
      repeat' first
        | apply x_seq | apply x_skip | apply x_block | apply x_exit | apply x_ret | apply x_ops_nil | apply p_blk | apply p_exit_it | apply p_exit_hit | apply p_ret_it | apply p_ret_blk | apply p_panic_it | apply p_panic_blk | apply p_end
        | (apply p_exit_miss; (focus rfl))
        | (apply x_region; simp only [List.toList_toArray])
        | (apply x_step0; (focus rfl); (focus (simp only [go_sem, *]; (try rfl); done)); (focus rfl); simp only [putA])
        | (apply x_panic; (focus (simp only [go_sem, *]; (try rfl); done)); (focus rfl); (focus (simp only [go_sem, *]; (try rfl); done)))
        | (apply x_step; (iterate 2 (focus (simp only [go_sem, *]; (try rfl); done))); (focus rfl); simp only [putA])
        | (apply x_unwanted; (focus (simp only [go_sem, *]; (try rfl); done)); (focus rfl); simp only [putA])
        | (apply x_condT; (focus (simp only [go_sem, *]; (try rfl); done)))
        | (apply x_condF; (focus (simp only [go_sem, *]; (try rfl); done)))
        | (apply x_guardS; (focus rfl); (fail_if_success (focus (show _ = some true; (focus (simp only [go_sem, *]; (try rfl); done))))); (focus (simp only [go_sem, *]; (try rfl); done)); all_goals (intro hb; try simp only [Bool.not_eq_true', Bool.not_eq_false'] at hb))
        | (apply x_condS; (focus (simp only [go_sem, *]; (try rfl); done)); all_goals (intro hb; try simp only [Bool.not_eq_true', Bool.not_eq_false'] at hb))
      apply f_panicO (S2 := S.set a (.cells [.str s'])) (L := [.cells [.int .i64 w, .int .i64 4, .int .i64 0, .int .i64 0, .str []]])
      · (simp only [go_sem, *]; try rfl)
      · (simp only [go_sem, *]; try rfl)
      · simp
      · exact OuterOk.set hO rfl
      · (simp only [go_sem, *, badV]; try rfl)
      · (simp only [go_sem, *, badV]; try rfl)
      · exact HF.out hfin.symm _
    | some p =>
      obtain ⟨t, s5⟩ := p
      rw [h5] at hfin
      have t5 := qT w0 HPU.out a l5 h5
      unfold TxT at t5
      simp only at hfin
      clear h5 l5
      cases h6 : oneP [10] s5 with
      | none =>
        rw [h6] at hfin
        have t6 := oF w0 a h6
        unfold TxF at t6
        clear h6
        refine enter Tryz.func72 rfl (by decide +kernel) (by rw [Tryz.ntmps72]; simp) (by rw [Tryz.ntmps72]; decide) (fun hO => ?_); rw [Tryz.ntmps72]
        repeat' first
          | apply x_seq | apply x_skip | apply x_block | apply x_exit | apply x_ret | apply x_ops_nil | apply p_blk | apply p_exit_it | apply p_exit_hit | apply p_ret_it | apply p_ret_blk | apply p_panic_it | apply p_panic_blk | apply p_end
          | (apply p_exit_miss; (focus rfl))
          | (apply x_region; simp only [List.toList_toArray])
          | (apply x_step0; (focus rfl); (focus (simp only [go_sem, *, kindsL]; (try rfl); done)); (focus rfl); simp only [putA])
          | (apply x_callA []; (focus (simp only [go_sem, *, kindsL]; (try rfl); done)); (focus rfl); (focus (simp only [go_sem, *, kindsL]; (try rfl); done)); (focus rfl); (iterate 2 (focus (simp only [go_sem, *, kindsL]; (try rfl); done))); (first | (apply t1; (focus (simp only [go_sem, *, kindsL]; (try rfl); done))) | (apply t2; (focus (simp only [go_sem, *, kindsL]; (try rfl); done))) | (apply t3; (focus (simp only [go_sem, *, kindsL]; (try rfl); done))) | (apply hki) | (apply hmT) | (apply t4; (focus (simp only [go_sem, *, kindsL]; (try rfl); done))) | (apply t5; (focus (simp only [go_sem, *, kindsL]; (try rfl); done))) | (apply t6; (focus (simp only [go_sem, *, kindsL]; (try rfl); done)))); simp only [afterCall, putA])
          | (apply x_panic; (focus (simp only [go_sem, *, kindsL]; (try rfl); done)); (focus rfl); (focus (simp only [go_sem, *, kindsL]; (try rfl); done)))
          | (apply x_step; (iterate 2 (focus (simp only [go_sem, *, kindsL]; (try rfl); done))); (focus rfl); simp only [putA])
          | (apply x_unwanted; (focus (simp only [go_sem, *, kindsL]; (try rfl); done)); (focus rfl); simp only [putA])
          | (apply x_condT; (focus (simp only [go_sem, *, kindsL]; (try rfl); done)))
          | (apply x_condF; (focus (simp only [go_sem, *, kindsL]; (try rfl); done)))
          | (apply x_guardS; (focus rfl); (fail_if_success (focus (show _ = some true; (focus (simp only [go_sem, *, kindsL]; (try rfl); done))))); (focus (simp only [go_sem, *, kindsL]; (try rfl); done)); all_goals (intro hb; try simp only [Bool.not_eq_true', Bool.not_eq_false'] at hb))
          | (apply x_condS; (focus (simp only [go_sem, *, kindsL]; (try rfl); done)); all_goals (intro hb; try simp only [Bool.not_eq_true', Bool.not_eq_false'] at hb))
        intro s'
        repeat' first
          | apply x_seq | apply x_skip | apply x_block | apply x_exit | apply x_ret | apply x_ops_nil | apply p_blk | apply p_exit_it | apply p_exit_hit | apply p_ret_it | apply p_ret_blk | apply p_panic_it | apply p_panic_blk | apply p_end
          | (apply p_exit_miss; (focus rfl))
          | (apply x_region; simp only [List.toList_toArray])
          | (apply x_step0; (focus rfl); (focus (simp only [go_sem, *]; (try rfl); done)); (focus rfl); simp only [putA])
          | (apply x_panic; (focus (simp only [go_sem, *]; (try rfl); done)); (focus rfl); (focus (simp only [go_sem, *]; (try rfl); done)))
          | (apply x_step; (iterate 2 (focus (simp only [go_sem, *]; (try rfl); done))); (focus rfl); simp only [putA])
          | (apply x_unwanted; (focus (simp only [go_sem, *]; (try rfl); done)); (focus rfl); simp only [putA])
          | (apply x_condT; (focus (simp only [go_sem, *]; (try rfl); done)))
          | (apply x_condF; (focus (simp only [go_sem, *]; (try rfl); done)))
          | (apply x_guardS; (focus rfl); (fail_if_success (focus (show _ = some true; (focus (simp only [go_sem, *]; (try rfl); done))))); (focus (simp only [go_sem, *]; (try rfl); done)); all_goals (intro hb; try simp only [Bool.not_eq_true', Bool.not_eq_false'] at hb))
          | (apply x_condS; (focus (simp only [go_sem, *]; (try rfl); done)); all_goals (intro hb; try simp only [Bool.not_eq_true', Bool.not_eq_false'] at hb))
        apply f_panicO (S2 := S.set a (.cells [.str s'])) (L := [.cells [.int .i64 w, .int .i64 4, .int .i64 0, .int .i64 0, .str t]])
        · (simp only [go_sem, *]; try rfl)
        · (simp only [go_sem, *]; try rfl)
        · simp
        · exact OuterOk.set hO rfl
        · (simp only [go_sem, *, badV]; try rfl)
        · (simp only [go_sem, *, badV]; try rfl)
        · exact HF.out hfin.symm _
      | some s6 =>
        rw [h6] at hfin
        have t6 := oT w0 a h6
        unfold TxT at t6
        clear h6
        refine enter Tryz.func72 rfl (by decide +kernel) (by rw [Tryz.ntmps72]; simp) (by rw [Tryz.ntmps72]; decide) (fun hO => ?_); rw [Tryz.ntmps72]
        repeat' first
          | apply x_seq | apply x_skip | apply x_block | apply x_exit | apply x_ret | apply x_ops_nil | apply p_blk | apply p_exit_it | apply p_exit_hit | apply p_ret_it | apply p_ret_blk | apply p_panic_it | apply p_panic_blk | apply p_end
          | (apply p_exit_miss; (focus rfl))
          | (apply x_region; simp only [List.toList_toArray])
          | (apply x_step0; (focus rfl); (focus (simp only [go_sem, *, kindsL]; (try rfl); done)); (focus rfl); simp only [putA])
          | (apply x_callA []; (focus (simp only [go_sem, *, kindsL]; (try rfl); done)); (focus rfl); (focus (simp only [go_sem, *, kindsL]; (try rfl); done)); (focus rfl); (iterate 2 (focus (simp only [go_sem, *, kindsL]; (try rfl); done))); (first | (apply t1; (focus (simp only [go_sem, *, kindsL]; (try rfl); done))) | (apply t2; (focus (simp only [go_sem, *, kindsL]; (try rfl); done))) | (apply t3; (focus (simp only [go_sem, *, kindsL]; (try rfl); done))) | (apply hki) | (apply hmT) | (apply t4; (focus (simp only [go_sem, *, kindsL]; (try rfl); done))) | (apply t5; (focus (simp only [go_sem, *, kindsL]; (try rfl); done))) | (apply t6; (focus (simp only [go_sem, *, kindsL]; (try rfl); done)))); simp only [afterCall, putA])
          | (apply x_panic; (focus (simp only [go_sem, *, kindsL]; (try rfl); done)); (focus rfl); (focus (simp only [go_sem, *, kindsL]; (try rfl); done)))
          | (apply x_step; (iterate 2 (focus (simp only [go_sem, *, kindsL]; (try rfl); done))); (focus rfl); simp only [putA])
          | (apply x_unwanted; (focus (simp only [go_sem, *, kindsL]; (try rfl); done)); (focus rfl); simp only [putA])
          | (apply x_condT; (focus (simp only [go_sem, *, kindsL]; (try rfl); done)))
          | (apply x_condF; (focus (simp only [go_sem, *, kindsL]; (try rfl); done)))
          | (apply x_guardS; (focus rfl); (fail_if_success (focus (show _ = some true; (focus (simp only [go_sem, *, kindsL]; (try rfl); done))))); (focus (simp only [go_sem, *, kindsL]; (try rfl); done)); all_goals (intro hb; try simp only [Bool.not_eq_true', Bool.not_eq_false'] at hb))
          | (apply x_condS; (focus (simp only [go_sem, *, kindsL]; (try rfl); done)); all_goals (intro hb; try simp only [Bool.not_eq_true', Bool.not_eq_false'] at hb))
        apply f_retO (S2 := S.set a (.cells [.str s6])) (L := [.cells [.int .i64 w, .int .i64 4, .int .i64 0, .int .i64 0, .str t]])
        · (simp only [go_sem, *]; try rfl)
        · (simp only [go_sem, *]; try rfl)
        · simp
        · exact OuterOk.set hO rfl
        · (simp only [go_sem, *, Tryz.results72]; try rfl)
        · (simp only [go_sem, *]; try rfl)
        · (simp only [go_sem, *]; try rfl)
        · exact HR.out _ _ hfin.symm
end Go.Proofs.YtnndmokndgnidaaGreatDoor
namespace Go.Proofs.YtnndmokndgnidaaGreatDoor
open Go Go.Fen
set_option linter.unusedSimpArgs false
set_option linter.unusedVariables false
attribute [local irreducible] RunX WP ACall AnyP OpA ProtL
set_option maxRecDepth 8000
def chapR : Rec := ⟨10, 3, [⟨100, 1, 0, 0, [97, 10]⟩, ⟨50, 3, 20, 4, []⟩, ⟨0, 4, 0, 0, [109]⟩]⟩
def chapS : List UInt8 := [102, 101, 110, 101, 115, 116, 114, 97, 32, 49, 32, 49, 48, 32, 51, 10, 49, 48, 48, 32, 111, 32, 34, 97, 92, 110, 34, 10, 53, 48, 32, 114, 32, 50, 48, 32, 52, 10, 48, 32, 109, 32, 34, 109, 34, 10]
set_option maxHeartbeats 1000000 in
theorem chapter (w0 : World) (S : List Blk) (R : AOut → List Blk → Prop) (h : R (.ret (.tup [chapR.av, .str chapS])) S) : ACall Tryz.prog w0 46 [] S R := by
  refine enter Tryz.func46 rfl (by decide +kernel) (by rw [Tryz.ntmps46]; simp) (by rw [Tryz.ntmps46]; decide) (fun hO => ?_); rw [Tryz.ntmps46]
  repeat' first
    | apply x_seq | apply x_skip | apply x_block | apply x_exit | apply x_ret | apply x_ops_nil | apply p_blk | apply p_exit_it | apply p_exit_hit | apply p_ret_it | apply p_ret_blk | apply p_panic_it | apply p_panic_blk | apply p_end
    | (apply p_exit_miss; (focus rfl))
    | (apply x_region; simp only [List.toList_toArray])
    | (apply x_step0; (focus rfl); (focus (simp only [go_sem, *]; (try rfl); done)); (focus rfl); simp only [putA])
    | (apply x_panic; (focus (simp only [go_sem, *]; (try rfl); done)); (focus rfl); (focus (simp only [go_sem, *]; (try rfl); done)))
    | (apply x_step; (iterate 2 (focus (simp only [go_sem, *]; (try rfl); done))); (focus rfl); simp only [putA])
    | (apply x_unwanted; (focus (simp only [go_sem, *]; (try rfl); done)); (focus rfl); simp only [putA])
    | (apply x_condT; (focus (simp only [go_sem, *]; (try rfl); done)))
    | (apply x_condF; (focus (simp only [go_sem, *]; (try rfl); done)))
    | (apply x_guardS; (focus rfl); (fail_if_success (focus (show _ = some true; (focus (simp only [go_sem, *]; (try rfl); done))))); (focus (simp only [go_sem, *]; (try rfl); done)); all_goals (intro hb; try simp only [Bool.not_eq_true', Bool.not_eq_false'] at hb))
    | (apply x_condS; (focus (simp only [go_sem, *]; (try rfl); done)); all_goals (intro hb; try simp only [Bool.not_eq_true', Bool.not_eq_false'] at hb))
  (apply f_ret; iterate 7 (focus (simp only [go_sem, *, Tryz.results46]; (try rfl); done)))
  exact h
def intAV (n : Int) : AV := .int .i64 n
theorem intAV_get (l : List Int) (k : Nat) (n : Int) (h : l[k]? = some n) : (l.map intAV)[k]? = some (.int .i64 n) := by rw [List.getElem?_map, h]; rfl
set_option maxHeartbeats 2000000 in
theorem waits (w0 : World) (S : List Blk) (r : Rec) (ns : List Int) (b g fz : Nat) (hm : (r.items.length : Int) < 9223372036854775807) (hb : S[b]? = some (.arr 3 1 fz g (ns.map intAV))) (R : AOut → List Blk → Prop) (h : R (.ret (.bool (r.items.map It.wait == ns))) S) :
    ACall Tryz.prog w0 47 [r.av, .sown b g ns.length] S R := by
  have hbl := (List.getElem?_eq_some_iff.1 hb).1
  have hnl : (ns.map intAV).length = ns.length := by simp
  unfold Rec.av
  by_cases hl : r.items.length = ns.length
  · have d1 : ((r.items.length : Int) == (ns.length : Int)) = true := by simp; omega
    have d2 : ((r.items.length : Int) != (ns.length : Int)) = false := by simp; omega
    refine enter Tryz.func47 rfl (by decide +kernel) (by rw [Tryz.ntmps47]; simp) (by rw [Tryz.ntmps47]; decide) (fun hO => ?_); rw [Tryz.ntmps47]
    repeat' first
      | apply x_seq | apply x_skip | apply x_block | apply x_exit | apply x_ret | apply x_ops_nil | apply p_blk | apply p_exit_it | apply p_exit_hit | apply p_ret_it | apply p_ret_blk | apply p_panic_it | apply p_panic_blk | apply p_end
      | (apply p_exit_miss; (focus rfl))
      | (apply x_region; simp only [List.toList_toArray])
      | (apply x_step0; (focus rfl); (focus (simp only [go_sem, *]; (try rfl); done)); (focus rfl); simp only [putA])
      | (apply x_panic; (focus (simp only [go_sem, *]; (try rfl); done)); (focus rfl); (focus (simp only [go_sem, *]; (try rfl); done)))
      | (apply x_step; (iterate 2 (focus (simp only [go_sem, *]; (try rfl); done))); (focus rfl); simp only [putA])
      | (apply x_unwanted; (focus (simp only [go_sem, *]; (try rfl); done)); (focus rfl); simp only [putA])
      | (apply x_condT; (focus (simp only [go_sem, *]; (try rfl); done)))
      | (apply x_condF; (focus (simp only [go_sem, *]; (try rfl); done)))
      | (apply x_guardS; (focus rfl); (fail_if_success (focus (show _ = some true; (focus (simp only [go_sem, *]; (try rfl); done))))); (focus (simp only [go_sem, *]; (try rfl); done)); all_goals (intro hb; try simp only [Bool.not_eq_true', Bool.not_eq_false'] at hb))
      | (apply x_condS; (focus (simp only [go_sem, *]; (try rfl); done)); all_goals (intro hb; try simp only [Bool.not_eq_true', Bool.not_eq_false'] at hb))
    refine x_ind (fun (i : Nat) env S' => i ≤ ns.length ∧ (r.items.map It.wait).take i = ns.take i ∧ env 1000000 = .dfr [] ∧ env 1 = .sown b g ns.length ∧ env 2 = .own S.length 0 ∧ env 5 = .int .i64 (i : Int) ∧
      S' = S ++ [Blk.cells [AV.int .i64 r.cols, AV.int .i64 r.rows, AV.sval false (List.map It.av r.items)]]) (fun i => ns.length - i) 0 ?_ ?_
    · exact ⟨Nat.zero_le _, by simp, by (simp only [go_sem, *]; try rfl), by (simp only [go_sem, *]; try rfl), by (simp only [go_sem, *]; try rfl), by (simp only [go_sem, *]; try rfl), rfl⟩
    · rintro i env S' ⟨hi, hq, e0, e1, e2, e5, rfl⟩ IH
      have HI := Lib.hid IH
      have Hq := Lib.hid hq
      have Hl := Lib.hid hl
      clear IH hq hl
      by_cases hlt : i < ns.length
      · obtain ⟨n, hn⟩ : ∃ n, ns[i]? = some n := ⟨_, List.getElem?_eq_getElem hlt⟩
        obtain ⟨x, hx⟩ : ∃ x, r.items[i]? = some x := ⟨_, List.getElem?_eq_getElem (by have := Hl.out; omega)⟩
        have hn2 := intAV_get ns i n hn
        have h1 : decide ((i : Int) < (ns.length : Int)) = true := by simpa using hlt
        have hw1 : IntKind.i64.wrap ((i : Int) + 1) = (i : Int) + 1 := IntWalk.i64_in _ (by have := Hl.out; omega)
        have Hil := Lib.hid hlt
        have hii : (i : Int) < (ns.length : Int) := by omega
        clear hi
        have Hn := Lib.hid hn
        have Hx := Lib.hid hx
        clear hn
        cases hwn : (x.wait == n) with
        | true =>
          have hwn2 : (x.wait != n) = false := by simp [bne, hwn]
          have Hwn := Lib.hid (by simpa using hwn : x.wait = n)
          repeat' first
            | apply x_seq | apply x_skip | apply x_block | apply x_exit | apply x_ret | apply x_ops_nil | apply p_blk | apply p_exit_it | apply p_exit_hit | apply p_ret_it | apply p_ret_blk | apply p_panic_it | apply p_panic_blk | apply p_end
            | (apply p_exit_miss; (focus rfl))
            | (apply x_region; simp only [List.toList_toArray])
            | (apply x_step0; (focus rfl); (focus (simp only [go_sem, *, It.av]; (try rfl); done)); (focus rfl); simp only [putA])
            | (apply x_panic; (focus (simp only [go_sem, *, It.av]; (try rfl); done)); (focus rfl); (focus (simp only [go_sem, *, It.av]; (try rfl); done)))
            | (apply x_step; (iterate 2 (focus (simp only [go_sem, *, It.av]; (try rfl); done))); (focus rfl); simp only [putA])
            | (apply x_unwanted; (focus (simp only [go_sem, *, It.av]; (try rfl); done)); (focus rfl); simp only [putA])
            | (apply x_condT; (focus (simp only [go_sem, *, It.av]; (try rfl); done)))
            | (apply x_condF; (focus (simp only [go_sem, *, It.av]; (try rfl); done)))
            | (apply x_guardS; (focus rfl); (fail_if_success (focus (show _ = some true; (focus (simp only [go_sem, *, It.av]; (try rfl); done))))); (focus (simp only [go_sem, *, It.av]; (try rfl); done)); all_goals (intro hb; try simp only [Bool.not_eq_true', Bool.not_eq_false'] at hb))
            | (apply x_condS; (focus (simp only [go_sem, *, It.av]; (try rfl); done)); all_goals (intro hb; try simp only [Bool.not_eq_true', Bool.not_eq_false'] at hb))
            | (apply d_draw; (focus exact mixed); (focus ((simp only [List.size_toArray, List.length_cons, List.length_nil, Nat.reduceAdd]; try rfl); done)))
            | (apply d_done; (focus decide +kernel))
            | ((first | (apply d_take 0; (focus decide +kernel)) | (apply d_take 1; (focus decide +kernel)) | (apply d_take 2; (focus decide +kernel)) | (apply d_take 3; (focus decide +kernel)) | (apply d_take 4; (focus decide +kernel)) | (apply d_take 5; (focus decide +kernel)) | (apply d_take 6; (focus decide +kernel)) | (apply d_take 7; (focus decide +kernel)) | (apply d_take 8; (focus decide +kernel)) | (apply d_take 9; (focus decide +kernel)) | (apply d_take 10; (focus decide +kernel)) | (apply d_take 11; (focus decide +kernel)) | (apply d_take 12; (focus decide +kernel)) | (apply d_take 13; (focus decide +kernel)) | (apply d_take 14; (focus decide +kernel)) | (apply d_take 15; (focus decide +kernel)) | (apply d_take 16; (focus decide +kernel)) | (apply d_take 17; (focus decide +kernel))); (focus (first | exact qds_FPost | exact qds_RPost | exact qds_YB | assumption)); (focus rfl); (iterate 3 (focus (simp only [go_sem, *, It.av]; (try rfl); done))); (focus rfl); (focus (simp only [go_sem, *, It.av]; (try rfl); done)); simp only [putA])
            | ((first | (apply d_unw 0; (focus decide +kernel)) | (apply d_unw 1; (focus decide +kernel)) | (apply d_unw 2; (focus decide +kernel)) | (apply d_unw 3; (focus decide +kernel)) | (apply d_unw 4; (focus decide +kernel)) | (apply d_unw 5; (focus decide +kernel)) | (apply d_unw 6; (focus decide +kernel)) | (apply d_unw 7; (focus decide +kernel)) | (apply d_unw 8; (focus decide +kernel)) | (apply d_unw 9; (focus decide +kernel)) | (apply d_unw 10; (focus decide +kernel)) | (apply d_unw 11; (focus decide +kernel)) | (apply d_unw 12; (focus decide +kernel)) | (apply d_unw 13; (focus decide +kernel)) | (apply d_unw 14; (focus decide +kernel)) | (apply d_unw 15; (focus decide +kernel)) | (apply d_unw 16; (focus decide +kernel)) | (apply d_unw 17; (focus decide +kernel))); (focus (first | exact qds_FPost | exact qds_RPost | exact qds_YB | assumption)); (focus rfl); (iterate 2 (focus (simp only [go_sem, *, It.av]; (try rfl); done))); (focus rfl); simp only [putA])
            | (first | (apply d_one 0; (focus decide +kernel)) | (apply d_one 1; (focus decide +kernel)) | (apply d_one 2; (focus decide +kernel)) | (apply d_one 3; (focus decide +kernel)) | (apply d_one 4; (focus decide +kernel)) | (apply d_one 5; (focus decide +kernel)) | (apply d_one 6; (focus decide +kernel)) | (apply d_one 7; (focus decide +kernel)) | (apply d_one 8; (focus decide +kernel)) | (apply d_one 9; (focus decide +kernel)) | (apply d_one 10; (focus decide +kernel)) | (apply d_one 11; (focus decide +kernel)) | (apply d_one 12; (focus decide +kernel)) | (apply d_one 13; (focus decide +kernel)) | (apply d_one 14; (focus decide +kernel)) | (apply d_one 15; (focus decide +kernel)) | (apply d_one 16; (focus decide +kernel)) | (apply d_one 17; (focus decide +kernel)))
            | (apply o_step; (iterate 3 (focus (simp only [go_sem, *, It.av]; (try rfl); done))); (focus rfl); simp only [putA])
            | (apply o_unw; (iterate 2 (focus (simp only [go_sem, *, It.av]; (try rfl); done))); (focus rfl); simp only [putA])
            | apply pr_nil | apply pr_same | apply pr_go | apply pl_nil | apply pl_none | (apply pl_skip; (focus decide +kernel)) | (apply pl_one; (focus (simp only [go_sem, *, It.av]; (try rfl); done)))
          refine x_keep hO 1 [1, 2, 5] rfl (by (simp only [go_sem, *]; try rfl)) (by (simp only [go_sem, *]; try rfl)) (by (simp only [go_sem, *]; try rfl)) ?_
          simp only [List.take_succ_cons, List.take_zero]
          refine HI.out (i + 1) _ _ (by have := Hil.out; omega) ⟨Hil.out, ?_, ?_, ?_, ?_, ?_, ?_⟩
          · rw [List.take_add_one, List.take_add_one, Hq.out, List.getElem?_map, Hx.out, Hn.out, Option.map_some, Hwn.out]
          · (simp only [go_sem, *]; try rfl)
          · (simp only [go_sem, *]; try rfl)
          · (simp only [go_sem, *]; try rfl)
          · (simp only [go_sem, *]; try rfl)
          · rfl
        | false =>
          have hres : (r.items.map It.wait == ns) = false := by
            rw [Bool.eq_false_iff]
            intro he
            rw [beq_iff_eq] at he
            have := congrArg (fun l => l[i]?) he
            simp only [List.getElem?_map, Hx.out, Hn.out, Option.map_some, Option.some.injEq] at this
            simp [this] at hwn
          rw [hres] at h
          clear hres
          have hwn2 : (x.wait != n) = true := by simp [bne, hwn]
          repeat' first
            | apply x_seq | apply x_skip | apply x_block | apply x_exit | apply x_ret | apply x_ops_nil | apply p_blk | apply p_exit_it | apply p_exit_hit | apply p_ret_it | apply p_ret_blk | apply p_panic_it | apply p_panic_blk | apply p_end
            | (apply p_exit_miss; (focus rfl))
            | (apply x_region; simp only [List.toList_toArray])
            | (apply x_step0; (focus rfl); (focus (simp only [go_sem, *, It.av]; (try rfl); done)); (focus rfl); simp only [putA])
            | (apply x_panic; (focus (simp only [go_sem, *, It.av]; (try rfl); done)); (focus rfl); (focus (simp only [go_sem, *, It.av]; (try rfl); done)))
            | (apply x_step; (iterate 2 (focus (simp only [go_sem, *, It.av]; (try rfl); done))); (focus rfl); simp only [putA])
            | (apply x_unwanted; (focus (simp only [go_sem, *, It.av]; (try rfl); done)); (focus rfl); simp only [putA])
            | (apply x_condT; (focus (simp only [go_sem, *, It.av]; (try rfl); done)))
            | (apply x_condF; (focus (simp only [go_sem, *, It.av]; (try rfl); done)))
            | (apply x_guardS; (focus rfl); (fail_if_success (focus (show _ = some true; (focus (simp only [go_sem, *, It.av]; (try rfl); done))))); (focus (simp only [go_sem, *, It.av]; (try rfl); done)); all_goals (intro hb; try simp only [Bool.not_eq_true', Bool.not_eq_false'] at hb))
            | (apply x_condS; (focus (simp only [go_sem, *, It.av]; (try rfl); done)); all_goals (intro hb; try simp only [Bool.not_eq_true', Bool.not_eq_false'] at hb))
            | (apply d_draw; (focus exact mixed); (focus ((simp only [List.size_toArray, List.length_cons, List.length_nil, Nat.reduceAdd]; try rfl); done)))
            | (apply d_done; (focus decide +kernel))
            | ((first | (apply d_take 0; (focus decide +kernel)) | (apply d_take 1; (focus decide +kernel)) | (apply d_take 2; (focus decide +kernel)) | (apply d_take 3; (focus decide +kernel)) | (apply d_take 4; (focus decide +kernel)) | (apply d_take 5; (focus decide +kernel)) | (apply d_take 6; (focus decide +kernel)) | (apply d_take 7; (focus decide +kernel)) | (apply d_take 8; (focus decide +kernel)) | (apply d_take 9; (focus decide +kernel)) | (apply d_take 10; (focus decide +kernel)) | (apply d_take 11; (focus decide +kernel)) | (apply d_take 12; (focus decide +kernel)) | (apply d_take 13; (focus decide +kernel)) | (apply d_take 14; (focus decide +kernel)) | (apply d_take 15; (focus decide +kernel)) | (apply d_take 16; (focus decide +kernel)) | (apply d_take 17; (focus decide +kernel))); (focus (first | exact qds_FPost | exact qds_RPost | exact qds_YB | assumption)); (focus rfl); (iterate 3 (focus (simp only [go_sem, *, It.av]; (try rfl); done))); (focus rfl); (focus (simp only [go_sem, *, It.av]; (try rfl); done)); simp only [putA])
            | ((first | (apply d_unw 0; (focus decide +kernel)) | (apply d_unw 1; (focus decide +kernel)) | (apply d_unw 2; (focus decide +kernel)) | (apply d_unw 3; (focus decide +kernel)) | (apply d_unw 4; (focus decide +kernel)) | (apply d_unw 5; (focus decide +kernel)) | (apply d_unw 6; (focus decide +kernel)) | (apply d_unw 7; (focus decide +kernel)) | (apply d_unw 8; (focus decide +kernel)) | (apply d_unw 9; (focus decide +kernel)) | (apply d_unw 10; (focus decide +kernel)) | (apply d_unw 11; (focus decide +kernel)) | (apply d_unw 12; (focus decide +kernel)) | (apply d_unw 13; (focus decide +kernel)) | (apply d_unw 14; (focus decide +kernel)) | (apply d_unw 15; (focus decide +kernel)) | (apply d_unw 16; (focus decide +kernel)) | (apply d_unw 17; (focus decide +kernel))); (focus (first | exact qds_FPost | exact qds_RPost | exact qds_YB | assumption)); (focus rfl); (iterate 2 (focus (simp only [go_sem, *, It.av]; (try rfl); done))); (focus rfl); simp only [putA])
            | (first | (apply d_one 0; (focus decide +kernel)) | (apply d_one 1; (focus decide +kernel)) | (apply d_one 2; (focus decide +kernel)) | (apply d_one 3; (focus decide +kernel)) | (apply d_one 4; (focus decide +kernel)) | (apply d_one 5; (focus decide +kernel)) | (apply d_one 6; (focus decide +kernel)) | (apply d_one 7; (focus decide +kernel)) | (apply d_one 8; (focus decide +kernel)) | (apply d_one 9; (focus decide +kernel)) | (apply d_one 10; (focus decide +kernel)) | (apply d_one 11; (focus decide +kernel)) | (apply d_one 12; (focus decide +kernel)) | (apply d_one 13; (focus decide +kernel)) | (apply d_one 14; (focus decide +kernel)) | (apply d_one 15; (focus decide +kernel)) | (apply d_one 16; (focus decide +kernel)) | (apply d_one 17; (focus decide +kernel)))
            | (apply o_step; (iterate 3 (focus (simp only [go_sem, *, It.av]; (try rfl); done))); (focus rfl); simp only [putA])
            | (apply o_unw; (iterate 2 (focus (simp only [go_sem, *, It.av]; (try rfl); done))); (focus rfl); simp only [putA])
            | apply pr_nil | apply pr_same | apply pr_go | apply pl_nil | apply pl_none | (apply pl_skip; (focus decide +kernel)) | (apply pl_one; (focus (simp only [go_sem, *, It.av]; (try rfl); done)))
          (apply f_ret; iterate 7 (focus (simp only [go_sem, *, Tryz.results47]; (try rfl); done)))
          exact h
      · have hin : i = ns.length := by omega
        subst hin
        have hres : (r.items.map It.wait == ns) = true := by
          rw [beq_iff_eq]
          have := Hq.out
          rwa [List.take_of_length_le (by simp; have := Hl.out; omega), List.take_of_length_le (Nat.le_refl _)] at this
        rw [hres] at h
        have h1 : decide ((ns.length : Int) < (ns.length : Int)) = false := by simp
        clear hres hlt hi
        repeat' first
          | apply x_seq | apply x_skip | apply x_block | apply x_exit | apply x_ret | apply x_ops_nil | apply p_blk | apply p_exit_it | apply p_exit_hit | apply p_ret_it | apply p_ret_blk | apply p_panic_it | apply p_panic_blk | apply p_end
          | (apply p_exit_miss; (focus rfl))
          | (apply x_region; simp only [List.toList_toArray])
          | (apply x_step0; (focus rfl); (focus (simp only [go_sem, *]; (try rfl); done)); (focus rfl); simp only [putA])
          | (apply x_panic; (focus (simp only [go_sem, *]; (try rfl); done)); (focus rfl); (focus (simp only [go_sem, *]; (try rfl); done)))
          | (apply x_step; (iterate 2 (focus (simp only [go_sem, *]; (try rfl); done))); (focus rfl); simp only [putA])
          | (apply x_unwanted; (focus (simp only [go_sem, *]; (try rfl); done)); (focus rfl); simp only [putA])
          | (apply x_condT; (focus (simp only [go_sem, *]; (try rfl); done)))
          | (apply x_condF; (focus (simp only [go_sem, *]; (try rfl); done)))
          | (apply x_guardS; (focus rfl); (fail_if_success (focus (show _ = some true; (focus (simp only [go_sem, *]; (try rfl); done))))); (focus (simp only [go_sem, *]; (try rfl); done)); all_goals (intro hb; try simp only [Bool.not_eq_true', Bool.not_eq_false'] at hb))
          | (apply x_condS; (focus (simp only [go_sem, *]; (try rfl); done)); all_goals (intro hb; try simp only [Bool.not_eq_true', Bool.not_eq_false'] at hb))
        (apply f_ret; iterate 7 (focus (simp only [go_sem, *, Tryz.results47]; (try rfl); done)))
        exact h
  · have d1 : ((r.items.length : Int) == (ns.length : Int)) = false := by simp; omega
    have d2 : ((r.items.length : Int) != (ns.length : Int)) = true := by simp; omega
    have hres : (r.items.map It.wait == ns) = false := by
      rw [Bool.eq_false_iff]
      intro he
      rw [beq_iff_eq] at he
      exact hl (by rw [← he]; simp)
    rw [hres] at h
    clear hres hl
    refine enter Tryz.func47 rfl (by decide +kernel) (by rw [Tryz.ntmps47]; simp) (by rw [Tryz.ntmps47]; decide) (fun hO => ?_); rw [Tryz.ntmps47]
    repeat' first
      | apply x_seq | apply x_skip | apply x_block | apply x_exit | apply x_ret | apply x_ops_nil | apply p_blk | apply p_exit_it | apply p_exit_hit | apply p_ret_it | apply p_ret_blk | apply p_panic_it | apply p_panic_blk | apply p_end
      | (apply p_exit_miss; (focus rfl))
      | (apply x_region; simp only [List.toList_toArray])
      | (apply x_step0; (focus rfl); (focus (simp only [go_sem, *]; (try rfl); done)); (focus rfl); simp only [putA])
      | (apply x_panic; (focus (simp only [go_sem, *]; (try rfl); done)); (focus rfl); (focus (simp only [go_sem, *]; (try rfl); done)))
      | (apply x_step; (iterate 2 (focus (simp only [go_sem, *]; (try rfl); done))); (focus rfl); simp only [putA])
      | (apply x_unwanted; (focus (simp only [go_sem, *]; (try rfl); done)); (focus rfl); simp only [putA])
      | (apply x_condT; (focus (simp only [go_sem, *]; (try rfl); done)))
      | (apply x_condF; (focus (simp only [go_sem, *]; (try rfl); done)))
      | (apply x_guardS; (focus rfl); (fail_if_success (focus (show _ = some true; (focus (simp only [go_sem, *]; (try rfl); done))))); (focus (simp only [go_sem, *]; (try rfl); done)); all_goals (intro hb; try simp only [Bool.not_eq_true', Bool.not_eq_false'] at hb))
      | (apply x_condS; (focus (simp only [go_sem, *]; (try rfl); done)); all_goals (intro hb; try simp only [Bool.not_eq_true', Bool.not_eq_false'] at hb))
    (apply f_ret; iterate 7 (focus (simp only [go_sem, *, Tryz.results47]; (try rfl); done)))
    exact h
end Go.Proofs.YtnndmokndgnidaaGreatDoor
namespace Go.Proofs.YtnndmokndgnidaaGreatDoor
open Go Go.Fen
set_option linter.unusedSimpArgs false
set_option linter.unusedVariables false
attribute [local irreducible] RunX WP ACall AnyP OpA ProtL
set_option maxRecDepth 8000
theorem drun_mk {P : Program} {w0 : World} {g : FuncId} {args : List AV} {rv : AV} {S : List Blk} {K : List Blk → Prop} {G : Func} {id : Nat} {o0 : Oper} {l : List Oper} {rest : Code} {ty : TypeId} {d : Nat} (env1 : Env) (S1 : List Blk) (h1 : P.funcs[g]? = some G) (h2 : (G.name == "runtime.NumGoroutine") = false)
    (h3 : G.body = some (.seq (.region id (o0 :: l).toArray false) rest)) (h4 : o0.op = .call ⟨.builtin .recover, #[], #[]⟩) (h5 : o0.guard = none) (h6 : o0.type = ty) (h7 : o0.dst = some d) (h8 : d < G.ntmps) (h9 : args.length ≤ G.ntmps) (h10 : G.ntmps ≤ DS) (h11 : G.results = #[])
    (h12 : runOps P w0 (o0 :: l).toArray G.ntmps l (upd (env0 args) d rv) S = some (env1, S1))
    (h13 : RunX P w0 S.length G.ntmps none [.it (.code rest)] (fun x env S' => (x = .normal ∨ x = .ret) ∧ env DS = .dfr [] ∧ okOuter S.length S S' ∧ K (S'.take S.length)) .normal env1 S1) : DRun P w0 g args rv S K :=
  ⟨G, id, o0, l, rest, ty, d, env1, S1, h1, h2, h3, h4, h5, h6, h7, h8, h9, h10, h11, h12, h13⟩
theorem drun0 (w0 : World) (S : List Blk) (a1 a2 : Nat) (K : List Blk → Prop) (h : K S) : DRun Tryz.prog w0 69 [.own a1 0, .own a2 0] .inil S K := by
  refine drun_mk (upd (upd (env0 [.own a1 0, .own a2 0]) 3 .inil) 2 .inil) S Tryz.func69 (by decide +kernel) rfl rfl rfl rfl rfl (by decide) (by rw [Tryz.ntmps69]; simp) (by rw [Tryz.ntmps69]; decide) rfl ?_ ?_
  · rfl
  · rw [Tryz.ntmps69]
    repeat' first
      | apply x_seq | apply x_skip | apply x_block | apply x_exit | apply x_ret | apply x_ops_nil | apply p_blk | apply p_exit_it | apply p_exit_hit | apply p_ret_it | apply p_ret_blk | apply p_panic_it | apply p_panic_blk | apply p_end
      | (apply p_exit_miss; (focus rfl))
      | (apply x_region; simp only [List.toList_toArray])
      | (apply x_step0; (focus rfl); (focus (simp only [go_sem, *]; (try rfl); done)); (focus rfl); simp only [putA])
      | (apply x_panic; (focus (simp only [go_sem, *]; (try rfl); done)); (focus rfl); (focus (simp only [go_sem, *]; (try rfl); done)))
      | (apply x_step; (iterate 2 (focus (simp only [go_sem, *]; (try rfl); done))); (focus rfl); simp only [putA])
      | (apply x_unwanted; (focus (simp only [go_sem, *]; (try rfl); done)); (focus rfl); simp only [putA])
      | (apply x_condT; (focus (simp only [go_sem, *]; (try rfl); done)))
      | (apply x_condF; (focus (simp only [go_sem, *]; (try rfl); done)))
      | (apply x_guardS; (focus rfl); (fail_if_success (focus (show _ = some true; (focus (simp only [go_sem, *]; (try rfl); done))))); (focus (simp only [go_sem, *]; (try rfl); done)); all_goals (intro hb; try simp only [Bool.not_eq_true', Bool.not_eq_false'] at hb))
      | (apply x_condS; (focus (simp only [go_sem, *]; (try rfl); done)); all_goals (intro hb; try simp only [Bool.not_eq_true', Bool.not_eq_false'] at hb))
    exact ⟨.inl rfl, by (simp only [go_sem, *]; try rfl), fun _ _ _ e => .inl e, by rw [List.take_length]; exact h⟩
theorem drunP (w0 : World) (S : List Blk) (a1 a2 : Nat) (x y z b : AV) (h1 : S[a1]? = some (.cells [x, y, z])) (h2 : (S.set a1 (.cells [.int .i64 0, .int .i64 0, .snil]))[a2]? = some (.cells [b])) (hO : OuterOk S) (K : List Blk → Prop) (h : K ((S.set a1 (.cells [.int .i64 0, .int .i64 0, .snil])).set a2 (.cells [.bool false]))) :
    DRun Tryz.prog w0 69 [.own a1 0, .own a2 0] badV S K := by
  refine drun_mk (upd (upd (env0 [.own a1 0, .own a2 0]) 3 badV) 2 badV) S Tryz.func69 (by decide +kernel) rfl rfl rfl rfl rfl (by decide) (by rw [Tryz.ntmps69]; simp) (by rw [Tryz.ntmps69]; decide) rfl ?_ ?_
  · rfl
  · rw [Tryz.ntmps69]
    repeat' first
      | apply x_seq | apply x_skip | apply x_block | apply x_exit | apply x_ret | apply x_ops_nil | apply p_blk | apply p_exit_it | apply p_exit_hit | apply p_ret_it | apply p_ret_blk | apply p_panic_it | apply p_panic_blk | apply p_end
      | (apply p_exit_miss; (focus rfl))
      | (apply x_region; simp only [List.toList_toArray])
      | (apply x_step0; (focus rfl); (focus (simp only [go_sem, *, badV]; (try rfl); done)); (focus rfl); simp only [putA])
      | (apply x_panic; (focus (simp only [go_sem, *, badV]; (try rfl); done)); (focus rfl); (focus (simp only [go_sem, *, badV]; (try rfl); done)))
      | (apply x_step; (iterate 2 (focus (simp only [go_sem, *, badV]; (try rfl); done))); (focus rfl); simp only [putA])
      | (apply x_unwanted; (focus (simp only [go_sem, *, badV]; (try rfl); done)); (focus rfl); simp only [putA])
      | (apply x_condT; (focus (simp only [go_sem, *, badV]; (try rfl); done)))
      | (apply x_condF; (focus (simp only [go_sem, *, badV]; (try rfl); done)))
      | (apply x_guardS; (focus rfl); (fail_if_success (focus (show _ = some true; (focus (simp only [go_sem, *, badV]; (try rfl); done))))); (focus (simp only [go_sem, *, badV]; (try rfl); done)); all_goals (intro hb; try simp only [Bool.not_eq_true', Bool.not_eq_false'] at hb))
      | (apply x_condS; (focus (simp only [go_sem, *, badV]; (try rfl); done)); all_goals (intro hb; try simp only [Bool.not_eq_true', Bool.not_eq_false'] at hb))
    refine ⟨.inl rfl, by (simp only [go_sem, *]; try rfl), ?_, ?_⟩
    · simpa using okOuter_of (L := []) (OuterOk.set (OuterOk.set hO rfl) rfl) (by simp)
    · rw [List.take_of_length_le (by simp)]; exact h
theorem unq_len : ∀ (n : Nat) (acc s v r : List UInt8), s.length ≤ n → unq acc s = some (v, r) → r.length ≤ s.length := by
  intro n
  induction n with
  | zero =>
    intro acc s v r hn h
    cases s with
    | nil => cases h
    | cons c s => simp at hn
  | succ n ih =>
    intro acc s v r hn h
    cases s with
    | nil => cases h
    | cons c s =>
      simp only [List.length_cons] at hn
      rw [unq_cons] at h
      split at h
      · cases h; simp
      split at h
      · split at h
        · have := ih _ _ _ _ (by omega) h; simp; omega
        · cases h
      cases s with
      | nil => cases h
      | cons d s2 =>
        simp only [List.length_cons] at hn
        simp only at h
        split at h
        · have := ih _ _ _ _ (by omega) h; simp; omega
        split at h
        · have := ih _ _ _ _ (by omega) h; simp; omega
        split at h
        · rcases s2 with _ | ⟨b1, _ | ⟨b2, s3⟩⟩
          · cases h
          · cases h
          · simp only [List.length_cons] at hn
            simp only at h
            split at h
            · have := ih _ _ _ _ (by omega) h; simp; omega
            · cases h
        · cases h
theorem quoP_len {s s' v : List UInt8} (h : quoP s = some (v, s')) : s'.length ≤ s.length := by
  unfold quoP at h
  split at h
  · cases h
  next s1 h1 =>
  have := oneP_len h1
  have := unq_len _ _ _ _ _ (Nat.le_refl _) h
  omega
theorem numP_lt {s s' : List UInt8} {v : Int} (h : numP s = some (v, s')) : s'.length < s.length := by
  unfold numP at h
  split at h
  · next hb =>
    cases h
    have := digL_len s
    unfold numB at hb
    simp only [Bool.and_eq_true, decide_eq_true_eq] at hb
    omega
  · cases h
theorem restP_len {w k : Int} {s s' : List UInt8} {x : It} (h : restP w k s = some (x, s')) : s'.length ≤ s.length := by
  unfold restP at h
  split at h
  · split at h
    · cases h
    · next hz => cases h; exact sizeP_len hz
  · split at h
    · cases h
    · next hz => cases h; exact quoP_len hz
theorem itemP_lt {s s' : List UInt8} {x : It} (h : itemP s = some (x, s')) : s'.length < s.length := by
  unfold itemP at h
  split at h
  · cases h
  next w s1 h1 =>
  have a1 := numP_lt h1
  split at h
  · cases h
  · cases h
  next b s3 h2 =>
  have a2 := oneP_len h2
  simp only [List.length_cons] at a2
  split at h
  · cases h
  next k hk =>
  unfold kindP at h
  split at h
  · cases h
  next s4 h3 =>
  have a3 := oneP_len h3
  split at h
  · cases h
  next y s5 h4 =>
  have a4 := restP_len h4
  split at h
  · cases h
  next s6 h5 =>
  have a5 := oneP_len h5
  cases h
  omega
theorem itT (w0 : World) (hPU : PU16 w0) (a : Nat) {s s' : List UInt8} {x : It} (hs : s.length ≤ 1000000000) (h : itemP s = some (x, s')) : TxT w0 a 72 [] s s' x.av := by
  intro S ha R hR
  refine item w0 hPU S a s hs ha R ?_ ?_
  · intro v r hv; rw [h] at hv; cases hv; exact hR
  · intro hn; rw [h] at hn; cases hn
theorem itF (w0 : World) (hPU : PU16 w0) (a : Nat) {s : List UInt8} (hs : s.length ≤ 1000000000) (h : itemP s = none) : TxF w0 a 72 [] s := by
  intro S ha R hR
  refine item w0 hPU S a s hs ha R ?_ ?_
  · intro v r hv; rw [h] at hv; cases hv
  · intro hn; exact hR
def itemsP : Nat → List It → List UInt8 → Option (List It)
  | _, acc, [] => some acc
  | 0, _, _ :: _ => none
  | n + 1, acc, c :: s => match itemP (c :: s) with
    | none => none
    | some (x, s') => itemsP n (acc ++ [x]) s'
def recP (s : List UInt8) : Option Rec :=
  match oneP [102, 101, 110, 101, 115, 116, 114, 97, 32, 49, 32] s with
  | none => none
  | some s1 => match sizeP s1 with
    | none => none
    | some ((c, r), s2) => match oneP [10] s2 with
      | none => none
      | some s3 => match itemsP s.length [] s3 with
        | none => none
        | some l => some ⟨c, r, l⟩
set_option maxHeartbeats 1000000 in
theorem finPD (w0 : World) (S : List Blk) (hO : OuterOk S) (a : Nat) (t : List UInt8) (x y z b : AV) (L : List Blk) (env : Env) (hM : OuterOk (S.set a (.cells [.str t]) ++ (.cells [x, y, z] :: .cells [b] :: L)))
    (e0 : env 1000000 = .dfr [.fn (.func 69) [] [.own S.length 0, .own (S.length + 1) 0]]) (e2 : env 2 = .own S.length 0) (e3 : env 3 = .own (S.length + 1) 0) (R : AOut → List Blk → Prop) (h : R (.ret (.tup [zeroR.av, .bool false])) (S.set a (.cells [.str t]))) :
    FPostD Tryz.prog w0 Tryz.f55 S R (.panic badV) env (S.set a (.cells [.str t]) ++ (.cells [x, y, z] :: .cells [b] :: L)) := by
  refine ⟨_, _, _, e0, drunP w0 _ _ _ x y z b (by (simp only [go_sem, *]; try rfl)) (by (simp only [go_sem, *]; try rfl)) hM _ ?_⟩
  simp only [go_sem, *]
  refine ⟨[.agg [.int .i64 0, .int .i64 0, .snil], .bool false], by (simp only [go_sem, *, Tryz.results55]; try rfl), ?_, ?_, ?_⟩
  · exact okOuter_of (OuterOk.set hO rfl) (by simp)
  · (simp only [go_sem, *]; try rfl)
  · refine cast ?_ h
    have ht : ∀ M : List Blk, (S.set a (.cells [.str t]) ++ M).take S.length = S.set a (.cells [.str t]) := fun M => by
      have := List.take_left (l₁ := S.set a (.cells [.str t])) (l₂ := M)
      simpa using this
    rw [ht]
    rfl
set_option maxHeartbeats 4000000 in
theorem recordingT (w0 : World) (hPU : PU16 w0) (S : List Blk) (a : Nat) (s : List UInt8) (hs : s.length ≤ 1000000000) (ha : S[a]? = some (.cells [.str s])) (R : AOut → List Blk → Prop)
    (hR : ∀ x, recP s = some x → ∀ r, R (.ret (.tup [x.av, .bool true])) (S.set a (.cells [.str r]))) (hF : recP s = none → ∀ r, R (.ret (.tup [zeroR.av, .bool false])) (S.set a (.cells [.str r]))) : ACall Tryz.prog w0 55 [.own a 0] S R := by
  have hal := (List.getElem?_eq_some_iff.1 ha).1
  refine enterD Tryz.func55 rfl (by decide +kernel) (by rw [Tryz.ntmps55]; simp) (by rw [Tryz.ntmps55]; decide) (fun hO => ?_); rw [Tryz.ntmps55]
  unfold recP at hR hF
  cases h1 : oneP [102, 101, 110, 101, 115, 116, 114, 97, 32, 49, 32] s with
  | none =>
    rw [h1] at hF
    have t1 := oF w0 a h1
    unfold TxF at t1
    clear hR hPU h1 hs
    repeat' first
      | apply x_seq | apply x_skip | apply x_block | apply x_exit | apply x_ret | apply x_ops_nil | apply p_blk | apply p_exit_it | apply p_exit_hit | apply p_ret_it | apply p_ret_blk | apply p_panic_it | apply p_panic_blk | apply p_end
      | (apply p_exit_miss; (focus rfl))
      | (apply x_region; simp only [List.toList_toArray])
      | (apply x_step0; (focus rfl); (focus (simp only [go_sem, *]; (try rfl); done)); (focus rfl); simp only [putA])
      | (apply x_panic; (focus (simp only [go_sem, *]; (try rfl); done)); (focus rfl); (focus (simp only [go_sem, *]; (try rfl); done)))
      | (apply x_step; (iterate 2 (focus (simp only [go_sem, *]; (try rfl); done))); (focus rfl); simp only [putA])
      | (apply x_unwanted; (focus (simp only [go_sem, *]; (try rfl); done)); (focus rfl); simp only [putA])
      | (apply x_condT; (focus (simp only [go_sem, *]; (try rfl); done)))
      | (apply x_condF; (focus (simp only [go_sem, *]; (try rfl); done)))
      | (apply x_guardS; (focus rfl); (fail_if_success (focus (show _ = some true; (focus (simp only [go_sem, *]; (try rfl); done))))); (focus (simp only [go_sem, *]; (try rfl); done)); all_goals (intro hb; try simp only [Bool.not_eq_true', Bool.not_eq_false'] at hb))
      | (apply x_condS; (focus (simp only [go_sem, *]; (try rfl); done)); all_goals (intro hb; try simp only [Bool.not_eq_true', Bool.not_eq_false'] at hb))
    apply x_defer
    · (simp only [go_sem, *]; try rfl)
    · rfl
    · (simp only [go_sem, *]; try rfl)
    · (simp only [go_sem, *]; try rfl)
    · rfl
    simp only [putA]
    repeat' first
      | apply x_seq | apply x_skip | apply x_block | apply x_exit | apply x_ret | apply x_ops_nil | apply p_blk | apply p_exit_it | apply p_exit_hit | apply p_ret_it | apply p_ret_blk | apply p_panic_it | apply p_panic_blk | apply p_end
      | (apply p_exit_miss; (focus rfl))
      | (apply x_region; simp only [List.toList_toArray])
      | (apply x_step0; (focus rfl); (focus (simp only [go_sem, *]; (try rfl); done)); (focus rfl); simp only [putA])
      | (apply x_callA []; (focus (simp only [go_sem, *]; (try rfl); done)); (focus rfl); (focus (simp only [go_sem, *]; (try rfl); done)); (focus rfl); (iterate 2 (focus (simp only [go_sem, *]; (try rfl); done))); (first | (apply t1; (focus (simp only [go_sem, *]; (try rfl); done)))); simp only [afterCall, putA])
      | (apply x_panic; (focus (simp only [go_sem, *]; (try rfl); done)); (focus rfl); (focus (simp only [go_sem, *]; (try rfl); done)))
      | (apply x_step; (iterate 2 (focus (simp only [go_sem, *]; (try rfl); done))); (focus rfl); simp only [putA])
      | (apply x_unwanted; (focus (simp only [go_sem, *]; (try rfl); done)); (focus rfl); simp only [putA])
      | (apply x_condT; (focus (simp only [go_sem, *]; (try rfl); done)))
      | (apply x_condF; (focus (simp only [go_sem, *]; (try rfl); done)))
      | (apply x_guardS; (focus rfl); (fail_if_success (focus (show _ = some true; (focus (simp only [go_sem, *]; (try rfl); done))))); (focus (simp only [go_sem, *]; (try rfl); done)); all_goals (intro hb; try simp only [Bool.not_eq_true', Bool.not_eq_false'] at hb))
      | (apply x_condS; (focus (simp only [go_sem, *]; (try rfl); done)); all_goals (intro hb; try simp only [Bool.not_eq_true', Bool.not_eq_false'] at hb))
    intro s'
    repeat' first
      | apply x_seq | apply x_skip | apply x_block | apply x_exit | apply x_ret | apply x_ops_nil | apply p_blk | apply p_exit_it | apply p_exit_hit | apply p_ret_it | apply p_ret_blk | apply p_panic_it | apply p_panic_blk | apply p_end
      | (apply p_exit_miss; (focus rfl))
      | (apply x_region; simp only [List.toList_toArray])
      | (apply x_step0; (focus rfl); (focus (simp only [go_sem, *]; (try rfl); done)); (focus rfl); simp only [putA])
      | (apply x_panic; (focus (simp only [go_sem, *]; (try rfl); done)); (focus rfl); (focus (simp only [go_sem, *]; (try rfl); done)))
      | (apply x_step; (iterate 2 (focus (simp only [go_sem, *]; (try rfl); done))); (focus rfl); simp only [putA])
      | (apply x_unwanted; (focus (simp only [go_sem, *]; (try rfl); done)); (focus rfl); simp only [putA])
      | (apply x_condT; (focus (simp only [go_sem, *]; (try rfl); done)))
      | (apply x_condF; (focus (simp only [go_sem, *]; (try rfl); done)))
      | (apply x_guardS; (focus rfl); (fail_if_success (focus (show _ = some true; (focus (simp only [go_sem, *]; (try rfl); done))))); (focus (simp only [go_sem, *]; (try rfl); done)); all_goals (intro hb; try simp only [Bool.not_eq_true', Bool.not_eq_false'] at hb))
      | (apply x_condS; (focus (simp only [go_sem, *]; (try rfl); done)); all_goals (intro hb; try simp only [Bool.not_eq_true', Bool.not_eq_false'] at hb))
    rw [set_old hal]
    exact finPD w0 S hO a s' _ _ _ _ [] _ (OuterOk.app (OuterOk.set hO rfl) (by (simp only [go_sem, *]; try rfl))) (by (simp only [go_sem, *]; try rfl)) (by (simp only [go_sem, *]; try rfl)) (by (simp only [go_sem, *]; try rfl)) R (hF rfl _)
  | some s1 =>
  rw [h1] at hR hF
  have t1 := oT w0 a h1
  unfold TxT at t1
  have l1 := oneP_len h1
  clear h1
  simp only at hR hF
  cases h2 : sizeP s1 with
  | none =>
    rw [h2] at hF
    have t2 := sizeF w0 a (by omega) h2
    unfold TxF at t2
    clear hR hPU h2 hs l1
    repeat' first
      | apply x_seq | apply x_skip | apply x_block | apply x_exit | apply x_ret | apply x_ops_nil | apply p_blk | apply p_exit_it | apply p_exit_hit | apply p_ret_it | apply p_ret_blk | apply p_panic_it | apply p_panic_blk | apply p_end
      | (apply p_exit_miss; (focus rfl))
      | (apply x_region; simp only [List.toList_toArray])
      | (apply x_step0; (focus rfl); (focus (simp only [go_sem, *]; (try rfl); done)); (focus rfl); simp only [putA])
      | (apply x_panic; (focus (simp only [go_sem, *]; (try rfl); done)); (focus rfl); (focus (simp only [go_sem, *]; (try rfl); done)))
      | (apply x_step; (iterate 2 (focus (simp only [go_sem, *]; (try rfl); done))); (focus rfl); simp only [putA])
      | (apply x_unwanted; (focus (simp only [go_sem, *]; (try rfl); done)); (focus rfl); simp only [putA])
      | (apply x_condT; (focus (simp only [go_sem, *]; (try rfl); done)))
      | (apply x_condF; (focus (simp only [go_sem, *]; (try rfl); done)))
      | (apply x_guardS; (focus rfl); (fail_if_success (focus (show _ = some true; (focus (simp only [go_sem, *]; (try rfl); done))))); (focus (simp only [go_sem, *]; (try rfl); done)); all_goals (intro hb; try simp only [Bool.not_eq_true', Bool.not_eq_false'] at hb))
      | (apply x_condS; (focus (simp only [go_sem, *]; (try rfl); done)); all_goals (intro hb; try simp only [Bool.not_eq_true', Bool.not_eq_false'] at hb))
    apply x_defer
    · (simp only [go_sem, *]; try rfl)
    · rfl
    · (simp only [go_sem, *]; try rfl)
    · (simp only [go_sem, *]; try rfl)
    · rfl
    simp only [putA]
    repeat' first
      | apply x_seq | apply x_skip | apply x_block | apply x_exit | apply x_ret | apply x_ops_nil | apply p_blk | apply p_exit_it | apply p_exit_hit | apply p_ret_it | apply p_ret_blk | apply p_panic_it | apply p_panic_blk | apply p_end
      | (apply p_exit_miss; (focus rfl))
      | (apply x_region; simp only [List.toList_toArray])
      | (apply x_step0; (focus rfl); (focus (simp only [go_sem, *]; (try rfl); done)); (focus rfl); simp only [putA])
      | (apply x_callA []; (focus (simp only [go_sem, *]; (try rfl); done)); (focus rfl); (focus (simp only [go_sem, *]; (try rfl); done)); (focus rfl); (iterate 2 (focus (simp only [go_sem, *]; (try rfl); done))); (first | (apply t1; (focus (simp only [go_sem, *]; (try rfl); done))) | (apply t2; (focus (simp only [go_sem, *]; (try rfl); done)))); simp only [afterCall, putA])
      | (apply x_panic; (focus (simp only [go_sem, *]; (try rfl); done)); (focus rfl); (focus (simp only [go_sem, *]; (try rfl); done)))
      | (apply x_step; (iterate 2 (focus (simp only [go_sem, *]; (try rfl); done))); (focus rfl); simp only [putA])
      | (apply x_unwanted; (focus (simp only [go_sem, *]; (try rfl); done)); (focus rfl); simp only [putA])
      | (apply x_condT; (focus (simp only [go_sem, *]; (try rfl); done)))
      | (apply x_condF; (focus (simp only [go_sem, *]; (try rfl); done)))
      | (apply x_guardS; (focus rfl); (fail_if_success (focus (show _ = some true; (focus (simp only [go_sem, *]; (try rfl); done))))); (focus (simp only [go_sem, *]; (try rfl); done)); all_goals (intro hb; try simp only [Bool.not_eq_true', Bool.not_eq_false'] at hb))
      | (apply x_condS; (focus (simp only [go_sem, *]; (try rfl); done)); all_goals (intro hb; try simp only [Bool.not_eq_true', Bool.not_eq_false'] at hb))
    intro s'
    repeat' first
      | apply x_seq | apply x_skip | apply x_block | apply x_exit | apply x_ret | apply x_ops_nil | apply p_blk | apply p_exit_it | apply p_exit_hit | apply p_ret_it | apply p_ret_blk | apply p_panic_it | apply p_panic_blk | apply p_end
      | (apply p_exit_miss; (focus rfl))
      | (apply x_region; simp only [List.toList_toArray])
      | (apply x_step0; (focus rfl); (focus (simp only [go_sem, *]; (try rfl); done)); (focus rfl); simp only [putA])
      | (apply x_panic; (focus (simp only [go_sem, *]; (try rfl); done)); (focus rfl); (focus (simp only [go_sem, *]; (try rfl); done)))
      | (apply x_step; (iterate 2 (focus (simp only [go_sem, *]; (try rfl); done))); (focus rfl); simp only [putA])
      | (apply x_unwanted; (focus (simp only [go_sem, *]; (try rfl); done)); (focus rfl); simp only [putA])
      | (apply x_condT; (focus (simp only [go_sem, *]; (try rfl); done)))
      | (apply x_condF; (focus (simp only [go_sem, *]; (try rfl); done)))
      | (apply x_guardS; (focus rfl); (fail_if_success (focus (show _ = some true; (focus (simp only [go_sem, *]; (try rfl); done))))); (focus (simp only [go_sem, *]; (try rfl); done)); all_goals (intro hb; try simp only [Bool.not_eq_true', Bool.not_eq_false'] at hb))
      | (apply x_condS; (focus (simp only [go_sem, *]; (try rfl); done)); all_goals (intro hb; try simp only [Bool.not_eq_true', Bool.not_eq_false'] at hb))
    simp only [go_sem, *]
    exact finPD w0 S hO a s' _ _ _ _ [] _ (OuterOk.app (OuterOk.set hO rfl) (by (simp only [go_sem, *]; try rfl))) (by (simp only [go_sem, *]; try rfl)) (by (simp only [go_sem, *]; try rfl)) (by (simp only [go_sem, *]; try rfl)) R (hF rfl _)
  | some p =>
  obtain ⟨⟨c, r⟩, s2⟩ := p
  rw [h2] at hR hF
  have t2 := sizeT w0 a (by omega) h2
  unfold TxT at t2
  have l2 := sizeP_len h2
  clear h2
  simp only at hR hF
  cases h3 : oneP [10] s2 with
  | none =>
    rw [h3] at hF
    have t3 := oF w0 a h3
    unfold TxF at t3
    clear hR hPU h3 hs l1 l2
    repeat' first
      | apply x_seq | apply x_skip | apply x_block | apply x_exit | apply x_ret | apply x_ops_nil | apply p_blk | apply p_exit_it | apply p_exit_hit | apply p_ret_it | apply p_ret_blk | apply p_panic_it | apply p_panic_blk | apply p_end
      | (apply p_exit_miss; (focus rfl))
      | (apply x_region; simp only [List.toList_toArray])
      | (apply x_step0; (focus rfl); (focus (simp only [go_sem, *]; (try rfl); done)); (focus rfl); simp only [putA])
      | (apply x_panic; (focus (simp only [go_sem, *]; (try rfl); done)); (focus rfl); (focus (simp only [go_sem, *]; (try rfl); done)))
      | (apply x_step; (iterate 2 (focus (simp only [go_sem, *]; (try rfl); done))); (focus rfl); simp only [putA])
      | (apply x_unwanted; (focus (simp only [go_sem, *]; (try rfl); done)); (focus rfl); simp only [putA])
      | (apply x_condT; (focus (simp only [go_sem, *]; (try rfl); done)))
      | (apply x_condF; (focus (simp only [go_sem, *]; (try rfl); done)))
      | (apply x_guardS; (focus rfl); (fail_if_success (focus (show _ = some true; (focus (simp only [go_sem, *]; (try rfl); done))))); (focus (simp only [go_sem, *]; (try rfl); done)); all_goals (intro hb; try simp only [Bool.not_eq_true', Bool.not_eq_false'] at hb))
      | (apply x_condS; (focus (simp only [go_sem, *]; (try rfl); done)); all_goals (intro hb; try simp only [Bool.not_eq_true', Bool.not_eq_false'] at hb))
    apply x_defer
    · (simp only [go_sem, *]; try rfl)
    · rfl
    · (simp only [go_sem, *]; try rfl)
    · (simp only [go_sem, *]; try rfl)
    · rfl
    simp only [putA]
    repeat' first
      | apply x_seq | apply x_skip | apply x_block | apply x_exit | apply x_ret | apply x_ops_nil | apply p_blk | apply p_exit_it | apply p_exit_hit | apply p_ret_it | apply p_ret_blk | apply p_panic_it | apply p_panic_blk | apply p_end
      | (apply p_exit_miss; (focus rfl))
      | (apply x_region; simp only [List.toList_toArray])
      | (apply x_step0; (focus rfl); (focus (simp only [go_sem, *]; (try rfl); done)); (focus rfl); simp only [putA])
      | (apply x_callA []; (focus (simp only [go_sem, *]; (try rfl); done)); (focus rfl); (focus (simp only [go_sem, *]; (try rfl); done)); (focus rfl); (iterate 2 (focus (simp only [go_sem, *]; (try rfl); done))); (first | (apply t1; (focus (simp only [go_sem, *]; (try rfl); done))) | (apply t2; (focus (simp only [go_sem, *]; (try rfl); done))) | (apply t3; (focus (simp only [go_sem, *]; (try rfl); done)))); simp only [afterCall, putA])
      | (apply x_panic; (focus (simp only [go_sem, *]; (try rfl); done)); (focus rfl); (focus (simp only [go_sem, *]; (try rfl); done)))
      | (apply x_step; (iterate 2 (focus (simp only [go_sem, *]; (try rfl); done))); (focus rfl); simp only [putA])
      | (apply x_unwanted; (focus (simp only [go_sem, *]; (try rfl); done)); (focus rfl); simp only [putA])
      | (apply x_condT; (focus (simp only [go_sem, *]; (try rfl); done)))
      | (apply x_condF; (focus (simp only [go_sem, *]; (try rfl); done)))
      | (apply x_guardS; (focus rfl); (fail_if_success (focus (show _ = some true; (focus (simp only [go_sem, *]; (try rfl); done))))); (focus (simp only [go_sem, *]; (try rfl); done)); all_goals (intro hb; try simp only [Bool.not_eq_true', Bool.not_eq_false'] at hb))
      | (apply x_condS; (focus (simp only [go_sem, *]; (try rfl); done)); all_goals (intro hb; try simp only [Bool.not_eq_true', Bool.not_eq_false'] at hb))
    intro s'
    repeat' first
      | apply x_seq | apply x_skip | apply x_block | apply x_exit | apply x_ret | apply x_ops_nil | apply p_blk | apply p_exit_it | apply p_exit_hit | apply p_ret_it | apply p_ret_blk | apply p_panic_it | apply p_panic_blk | apply p_end
      | (apply p_exit_miss; (focus rfl))
      | (apply x_region; simp only [List.toList_toArray])
      | (apply x_step0; (focus rfl); (focus (simp only [go_sem, *]; (try rfl); done)); (focus rfl); simp only [putA])
      | (apply x_panic; (focus (simp only [go_sem, *]; (try rfl); done)); (focus rfl); (focus (simp only [go_sem, *]; (try rfl); done)))
      | (apply x_step; (iterate 2 (focus (simp only [go_sem, *]; (try rfl); done))); (focus rfl); simp only [putA])
      | (apply x_unwanted; (focus (simp only [go_sem, *]; (try rfl); done)); (focus rfl); simp only [putA])
      | (apply x_condT; (focus (simp only [go_sem, *]; (try rfl); done)))
      | (apply x_condF; (focus (simp only [go_sem, *]; (try rfl); done)))
      | (apply x_guardS; (focus rfl); (fail_if_success (focus (show _ = some true; (focus (simp only [go_sem, *]; (try rfl); done))))); (focus (simp only [go_sem, *]; (try rfl); done)); all_goals (intro hb; try simp only [Bool.not_eq_true', Bool.not_eq_false'] at hb))
      | (apply x_condS; (focus (simp only [go_sem, *]; (try rfl); done)); all_goals (intro hb; try simp only [Bool.not_eq_true', Bool.not_eq_false'] at hb))
    simp only [go_sem, *]
    exact finPD w0 S hO a s' _ _ _ _ [] _ (OuterOk.app (OuterOk.set hO rfl) (by (simp only [go_sem, *]; try rfl))) (by (simp only [go_sem, *]; try rfl)) (by (simp only [go_sem, *]; try rfl)) (by (simp only [go_sem, *]; try rfl)) R (hF rfl _)
  | some s3 =>
  rw [h3] at hR hF
  have t3 := oT w0 a h3
  unfold TxT at t3
  have l3 := oneP_len h3
  clear h3
  simp only at hR hF
  obtain ⟨fin, hfin⟩ : ∃ fin, itemsP s.length [] s3 = fin := ⟨_, rfl⟩
  rw [hfin] at hR hF
  have HR := Lib.hid hR
  have HF := Lib.hid hF
  have HFin := Lib.hid hfin
  have Hl := Lib.hid (show s3.length ≤ s.length ∧ s.length ≤ 1000000000 by omega)
  have HPU := Lib.hid hPU
  clear hR hF hfin hs l1 l2 l3 hPU
  repeat' first
    | apply x_seq | apply x_skip | apply x_block | apply x_exit | apply x_ret | apply x_ops_nil | apply p_blk | apply p_exit_it | apply p_exit_hit | apply p_ret_it | apply p_ret_blk | apply p_panic_it | apply p_panic_blk | apply p_end
    | (apply p_exit_miss; (focus rfl))
    | (apply x_region; simp only [List.toList_toArray])
    | (apply x_step0; (focus rfl); (focus (simp only [go_sem, *]; (try rfl); done)); (focus rfl); simp only [putA])
    | (apply x_panic; (focus (simp only [go_sem, *]; (try rfl); done)); (focus rfl); (focus (simp only [go_sem, *]; (try rfl); done)))
    | (apply x_step; (iterate 2 (focus (simp only [go_sem, *]; (try rfl); done))); (focus rfl); simp only [putA])
    | (apply x_unwanted; (focus (simp only [go_sem, *]; (try rfl); done)); (focus rfl); simp only [putA])
    | (apply x_condT; (focus (simp only [go_sem, *]; (try rfl); done)))
    | (apply x_condF; (focus (simp only [go_sem, *]; (try rfl); done)))
    | (apply x_guardS; (focus rfl); (fail_if_success (focus (show _ = some true; (focus (simp only [go_sem, *]; (try rfl); done))))); (focus (simp only [go_sem, *]; (try rfl); done)); all_goals (intro hb; try simp only [Bool.not_eq_true', Bool.not_eq_false'] at hb))
    | (apply x_condS; (focus (simp only [go_sem, *]; (try rfl); done)); all_goals (intro hb; try simp only [Bool.not_eq_true', Bool.not_eq_false'] at hb))
  apply x_defer
  · (simp only [go_sem, *]; try rfl)
  · rfl
  · (simp only [go_sem, *]; try rfl)
  · (simp only [go_sem, *]; try rfl)
  · rfl
  simp only [putA]
  repeat' first
    | apply x_seq | apply x_skip | apply x_block | apply x_exit | apply x_ret | apply x_ops_nil | apply p_blk | apply p_exit_it | apply p_exit_hit | apply p_ret_it | apply p_ret_blk | apply p_panic_it | apply p_panic_blk | apply p_end
    | (apply p_exit_miss; (focus rfl))
    | (apply x_region; simp only [List.toList_toArray])
    | (apply x_step0; (focus rfl); (focus (simp only [go_sem, *]; (try rfl); done)); (focus rfl); simp only [putA])
    | (apply x_callA []; (focus (simp only [go_sem, *]; (try rfl); done)); (focus rfl); (focus (simp only [go_sem, *]; (try rfl); done)); (focus rfl); (iterate 2 (focus (simp only [go_sem, *]; (try rfl); done))); (first | (apply t1; (focus (simp only [go_sem, *]; (try rfl); done))) | (apply t2; (focus (simp only [go_sem, *]; (try rfl); done))) | (apply t3; (focus (simp only [go_sem, *]; (try rfl); done)))); simp only [afterCall, putA])
    | (apply x_panic; (focus (simp only [go_sem, *]; (try rfl); done)); (focus rfl); (focus (simp only [go_sem, *]; (try rfl); done)))
    | (apply x_step; (iterate 2 (focus (simp only [go_sem, *]; (try rfl); done))); (focus rfl); simp only [putA])
    | (apply x_unwanted; (focus (simp only [go_sem, *]; (try rfl); done)); (focus rfl); simp only [putA])
    | (apply x_condT; (focus (simp only [go_sem, *]; (try rfl); done)))
    | (apply x_condF; (focus (simp only [go_sem, *]; (try rfl); done)))
    | (apply x_guardS; (focus rfl); (fail_if_success (focus (show _ = some true; (focus (simp only [go_sem, *]; (try rfl); done))))); (focus (simp only [go_sem, *]; (try rfl); done)); all_goals (intro hb; try simp only [Bool.not_eq_true', Bool.not_eq_false'] at hb))
    | (apply x_condS; (focus (simp only [go_sem, *]; (try rfl); done)); all_goals (intro hb; try simp only [Bool.not_eq_true', Bool.not_eq_false'] at hb))
  refine x_thawC (a := S.length) (j := 2) 29 5 (by (simp only [go_sem, *]; try rfl)) (by (simp only [go_sem, *]; try rfl)) (by decide) ?_
  simp only [go_sem, *]
  refine x_ind (fun (p : List It × List UInt8 × Nat) env S' => p.2.1.length ≤ p.2.2 ∧ p.1.length + p.2.1.length ≤ 1000000000 ∧ itemsP p.2.2 p.1 p.2.1 = fin ∧ env 1000000 = .dfr [.fn (.func 69) [] [.own S.length 0, .own (S.length + 1) 0]] ∧ env 0 = .own a 0 ∧ env 2 = .own S.length 0 ∧ env 3 = .own (S.length + 1) 0 ∧
    ∃ g, S' = S.set a (.cells [.str p.2.1]) ++ [.cells [.int .i64 c, .int .i64 r, .sown (S.length + 2) g p.1.length], .cells [.bool false], .arr 29 5 0 g (p.1.map It.av)]) (fun p => p.2.1.length) ([], s3, s.length) ?_ ?_
  · exact ⟨by have := Hl.out; simpa using this.1, by have := Hl.out; simp; omega, HFin.out, by (simp only [go_sem, *]; try rfl), by (simp only [go_sem, *]; try rfl), by (simp only [go_sem, *]; try rfl), by (simp only [go_sem, *]; try rfl), 0, rfl⟩
  · clear t1 t2 t3 HFin Hl
    rintro ⟨acc, s, n⟩ env S' ⟨hn, hl, hu, e0, f0, f2, f3, g, rfl⟩ IH
    simp only at hn hl hu
    have HI := Lib.hid IH
    have Hl := Lib.hid hl
    have hbl : (acc.map It.av).length = acc.length := by simp
    have hal3 : a < S.length + 3 := by omega
    clear IH
    cases s with
    | nil =>
      have hfin : fin = some acc := by rw [← hu]; cases n <;> rfl
      clear hu hl hn
      repeat' first
        | apply x_seq | apply x_skip | apply x_block | apply x_exit | apply x_ret | apply x_ops_nil | apply p_blk | apply p_exit_it | apply p_exit_hit | apply p_ret_it | apply p_ret_blk | apply p_panic_it | apply p_panic_blk | apply p_end
        | (apply p_exit_miss; (focus rfl))
        | (apply x_region; simp only [List.toList_toArray])
        | (apply x_step0; (focus rfl); (focus (simp only [go_sem, *]; (try rfl); done)); (focus rfl); simp only [putA])
        | (apply x_panic; (focus (simp only [go_sem, *]; (try rfl); done)); (focus rfl); (focus (simp only [go_sem, *]; (try rfl); done)))
        | (apply x_step; (iterate 2 (focus (simp only [go_sem, *]; (try rfl); done))); (focus rfl); simp only [putA])
        | (apply x_unwanted; (focus (simp only [go_sem, *]; (try rfl); done)); (focus rfl); simp only [putA])
        | (apply x_condT; (focus (simp only [go_sem, *]; (try rfl); done)))
        | (apply x_condF; (focus (simp only [go_sem, *]; (try rfl); done)))
        | (apply x_guardS; (focus rfl); (fail_if_success (focus (show _ = some true; (focus (simp only [go_sem, *]; (try rfl); done))))); (focus (simp only [go_sem, *]; (try rfl); done)); all_goals (intro hb; try simp only [Bool.not_eq_true', Bool.not_eq_false'] at hb))
        | (apply x_condS; (focus (simp only [go_sem, *]; (try rfl); done)); all_goals (intro hb; try simp only [Bool.not_eq_true', Bool.not_eq_false'] at hb))
      refine ⟨_, _, _, by (simp only [go_sem, *]; try rfl), drun0 w0 _ _ _ _ ?_⟩
      refine ⟨[.agg [.int .i64 c, .int .i64 r, .sown (S.length + 2) g acc.length], .bool true], by (simp only [go_sem, *, Tryz.results55]; try rfl), ?_, ?_, ?_⟩
      · exact okOuter_of (OuterOk.set hO rfl) (by simp)
      · (simp only [go_sem, *]; try rfl)
      · refine cast ?_ (HR.out ⟨c, r, acc⟩ (by rw [hfin]) [])
        have ht : ∀ M : List Blk, (S.set a (.cells [.str []]) ++ M).take S.length = S.set a (.cells [.str []]) := fun M => by
          have := List.take_left (l₁ := S.set a (.cells [.str []])) (l₂ := M)
          simpa using this
        rw [ht]
        congr 2
        simp only [go_sem, *, Rec.av]
    | cons b s =>
      cases n with
      | zero => simp at hn
      | succ n =>
      rw [itemsP] at hu
      have e1 : ((b :: s) == []) = false := rfl
      have hbd : (acc.length + 1) * 48 ≤ 140737488355328 := by omega
      cases hi : itemP (b :: s) with
      | none =>
        rw [hi] at hu
        have hfin : fin = none := hu.symm
        have t1 := itF w0 HPU.out a (s := b :: s) (by omega) hi
        unfold TxF at t1
        clear hu hl hn hi
        repeat' first
          | apply x_seq | apply x_skip | apply x_block | apply x_exit | apply x_ret | apply x_ops_nil | apply p_blk | apply p_exit_it | apply p_exit_hit | apply p_ret_it | apply p_ret_blk | apply p_panic_it | apply p_panic_blk | apply p_end
          | (apply p_exit_miss; (focus rfl))
          | (apply x_region; simp only [List.toList_toArray])
          | (apply x_step0; (focus rfl); (focus (simp only [go_sem, *]; (try rfl); done)); (focus rfl); simp only [putA])
          | (apply x_callA []; (focus (simp only [go_sem, *]; (try rfl); done)); (focus rfl); (focus (simp only [go_sem, *]; (try rfl); done)); (focus rfl); (iterate 2 (focus (simp only [go_sem, *]; (try rfl); done))); (first | (apply t1; (focus (simp only [go_sem, *]; (try rfl); done)))); simp only [afterCall, putA])
          | (apply x_panic; (focus (simp only [go_sem, *]; (try rfl); done)); (focus rfl); (focus (simp only [go_sem, *]; (try rfl); done)))
          | (apply x_step; (iterate 2 (focus (simp only [go_sem, *]; (try rfl); done))); (focus rfl); simp only [putA])
          | (apply x_unwanted; (focus (simp only [go_sem, *]; (try rfl); done)); (focus rfl); simp only [putA])
          | (apply x_condT; (focus (simp only [go_sem, *]; (try rfl); done)))
          | (apply x_condF; (focus (simp only [go_sem, *]; (try rfl); done)))
          | (apply x_guardS; (focus rfl); (fail_if_success (focus (show _ = some true; (focus (simp only [go_sem, *]; (try rfl); done))))); (focus (simp only [go_sem, *]; (try rfl); done)); all_goals (intro hb; try simp only [Bool.not_eq_true', Bool.not_eq_false'] at hb))
          | (apply x_condS; (focus (simp only [go_sem, *]; (try rfl); done)); all_goals (intro hb; try simp only [Bool.not_eq_true', Bool.not_eq_false'] at hb))
          | (apply d_draw; (focus exact mixed); (focus ((simp only [List.size_toArray, List.length_cons, List.length_nil, Nat.reduceAdd]; try rfl); done)))
          | (apply d_done; (focus decide +kernel))
          | ((first | (apply d_take 0; (focus decide +kernel)) | (apply d_take 1; (focus decide +kernel)) | (apply d_take 2; (focus decide +kernel)) | (apply d_take 3; (focus decide +kernel)) | (apply d_take 4; (focus decide +kernel)) | (apply d_take 5; (focus decide +kernel)) | (apply d_take 6; (focus decide +kernel)) | (apply d_take 7; (focus decide +kernel)) | (apply d_take 8; (focus decide +kernel)) | (apply d_take 9; (focus decide +kernel)) | (apply d_take 10; (focus decide +kernel)) | (apply d_take 11; (focus decide +kernel)) | (apply d_take 12; (focus decide +kernel)) | (apply d_take 13; (focus decide +kernel)) | (apply d_take 14; (focus decide +kernel)) | (apply d_take 15; (focus decide +kernel)) | (apply d_take 16; (focus decide +kernel)) | (apply d_take 17; (focus decide +kernel))); (focus (first | exact qds_FPost | exact qds_RPost | exact qds_YB | assumption)); (focus rfl); (iterate 3 (focus (simp only [go_sem, *]; (try rfl); done))); (focus rfl); (focus (simp only [go_sem, *]; (try rfl); done)); simp only [putA])
          | ((first | (apply d_unw 0; (focus decide +kernel)) | (apply d_unw 1; (focus decide +kernel)) | (apply d_unw 2; (focus decide +kernel)) | (apply d_unw 3; (focus decide +kernel)) | (apply d_unw 4; (focus decide +kernel)) | (apply d_unw 5; (focus decide +kernel)) | (apply d_unw 6; (focus decide +kernel)) | (apply d_unw 7; (focus decide +kernel)) | (apply d_unw 8; (focus decide +kernel)) | (apply d_unw 9; (focus decide +kernel)) | (apply d_unw 10; (focus decide +kernel)) | (apply d_unw 11; (focus decide +kernel)) | (apply d_unw 12; (focus decide +kernel)) | (apply d_unw 13; (focus decide +kernel)) | (apply d_unw 14; (focus decide +kernel)) | (apply d_unw 15; (focus decide +kernel)) | (apply d_unw 16; (focus decide +kernel)) | (apply d_unw 17; (focus decide +kernel))); (focus (first | exact qds_FPost | exact qds_RPost | exact qds_YB | assumption)); (focus rfl); (iterate 2 (focus (simp only [go_sem, *]; (try rfl); done))); (focus rfl); simp only [putA])
          | (first | (apply d_one 0; (focus decide +kernel)) | (apply d_one 1; (focus decide +kernel)) | (apply d_one 2; (focus decide +kernel)) | (apply d_one 3; (focus decide +kernel)) | (apply d_one 4; (focus decide +kernel)) | (apply d_one 5; (focus decide +kernel)) | (apply d_one 6; (focus decide +kernel)) | (apply d_one 7; (focus decide +kernel)) | (apply d_one 8; (focus decide +kernel)) | (apply d_one 9; (focus decide +kernel)) | (apply d_one 10; (focus decide +kernel)) | (apply d_one 11; (focus decide +kernel)) | (apply d_one 12; (focus decide +kernel)) | (apply d_one 13; (focus decide +kernel)) | (apply d_one 14; (focus decide +kernel)) | (apply d_one 15; (focus decide +kernel)) | (apply d_one 16; (focus decide +kernel)) | (apply d_one 17; (focus decide +kernel)))
          | (apply o_step; (iterate 3 (focus (simp only [go_sem, *]; (try rfl); done))); (focus rfl); simp only [putA])
          | (apply o_unw; (iterate 2 (focus (simp only [go_sem, *]; (try rfl); done))); (focus rfl); simp only [putA])
          | ((first | (apply d_takeD 0; (focus decide +kernel)) | (apply d_takeD 1; (focus decide +kernel)) | (apply d_takeD 2; (focus decide +kernel)) | (apply d_takeD 3; (focus decide +kernel)) | (apply d_takeD 4; (focus decide +kernel)) | (apply d_takeD 5; (focus decide +kernel)) | (apply d_takeD 6; (focus decide +kernel)) | (apply d_takeD 7; (focus decide +kernel)) | (apply d_takeD 8; (focus decide +kernel)) | (apply d_takeD 9; (focus decide +kernel)) | (apply d_takeD 10; (focus decide +kernel)) | (apply d_takeD 11; (focus decide +kernel)) | (apply d_takeD 12; (focus decide +kernel)) | (apply d_takeD 13; (focus decide +kernel)) | (apply d_takeD 14; (focus decide +kernel)) | (apply d_takeD 15; (focus decide +kernel)) | (apply d_takeD 16; (focus decide +kernel)) | (apply d_takeD 17; (focus decide +kernel))); (iterate 3 (focus (simp only [go_sem, *]; (try rfl); done))); (focus rfl); (focus (first | rfl | decide +kernel)); (focus (simp only [go_sem, *]; (try rfl); done)); simp only [putA])
          | (apply pl_skip2; (focus decide +kernel))
          | apply pr_nil | apply pr_same | apply pr_go | apply pl_nil | apply pl_none | (apply pl_skip; (focus decide +kernel)) | (apply pl_one; (focus (simp only [go_sem, *]; (try rfl); done)))
          | (apply o_call []; (iterate 2 (focus (simp only [go_sem, *]; (try rfl); done))); (focus rfl); (focus (simp only [go_sem, *]; (try rfl); done)); (focus rfl); (iterate 2 (focus (simp only [go_sem, *]; (try rfl); done))); (first | (apply t1; (focus (simp only [go_sem, *]; (try rfl); done)))); simp only [afterOp, putA])
        intro s'
        simp only [go_sem, *]
        exact finPD w0 S hO a s' _ _ _ _ [_] _ (OuterOk.app (OuterOk.set hO rfl) (by (simp only [go_sem, *]; try rfl))) (by (simp only [go_sem, *]; try rfl)) (by (simp only [go_sem, *]; try rfl)) (by (simp only [go_sem, *]; try rfl)) R (HF.out (by rw [hfin]) _)
      | some p =>
        obtain ⟨x, s'⟩ := p
        rw [hi] at hu
        simp only at hu
        have hlt := itemP_lt hi
        have t1 := itT w0 HPU.out a (s := b :: s) (by omega) hi
        unfold TxT at t1
        have Hu := Lib.hid hu
        have Hlt := Lib.hid hlt
        have Hn := Lib.hid hn
        clear hu hl hn hi hlt
        repeat' first
          | apply x_seq | apply x_skip | apply x_block | apply x_exit | apply x_ret | apply x_ops_nil | apply p_blk | apply p_exit_it | apply p_exit_hit | apply p_ret_it | apply p_ret_blk | apply p_panic_it | apply p_panic_blk | apply p_end
          | (apply p_exit_miss; (focus rfl))
          | (apply x_region; simp only [List.toList_toArray])
          | (apply x_step0; (focus rfl); (focus (simp only [go_sem, *]; (try rfl); done)); (focus rfl); simp only [putA])
          | (apply x_callA []; (focus (simp only [go_sem, *]; (try rfl); done)); (focus rfl); (focus (simp only [go_sem, *]; (try rfl); done)); (focus rfl); (iterate 2 (focus (simp only [go_sem, *]; (try rfl); done))); (first | (apply t1; (focus (simp only [go_sem, *]; (try rfl); done)))); simp only [afterCall, putA])
          | (apply x_panic; (focus (simp only [go_sem, *]; (try rfl); done)); (focus rfl); (focus (simp only [go_sem, *]; (try rfl); done)))
          | (apply x_step; (iterate 2 (focus (simp only [go_sem, *]; (try rfl); done))); (focus rfl); simp only [putA])
          | (apply x_unwanted; (focus (simp only [go_sem, *]; (try rfl); done)); (focus rfl); simp only [putA])
          | (apply x_condT; (focus (simp only [go_sem, *]; (try rfl); done)))
          | (apply x_condF; (focus (simp only [go_sem, *]; (try rfl); done)))
          | (apply x_guardS; (focus rfl); (fail_if_success (focus (show _ = some true; (focus (simp only [go_sem, *]; (try rfl); done))))); (focus (simp only [go_sem, *]; (try rfl); done)); all_goals (intro hb; try simp only [Bool.not_eq_true', Bool.not_eq_false'] at hb))
          | (apply x_condS; (focus (simp only [go_sem, *]; (try rfl); done)); all_goals (intro hb; try simp only [Bool.not_eq_true', Bool.not_eq_false'] at hb))
          | (apply d_draw; (focus exact mixed); (focus ((simp only [List.size_toArray, List.length_cons, List.length_nil, Nat.reduceAdd]; try rfl); done)))
          | (apply d_done; (focus decide +kernel))
          | ((first | (apply d_take 0; (focus decide +kernel)) | (apply d_take 1; (focus decide +kernel)) | (apply d_take 2; (focus decide +kernel)) | (apply d_take 3; (focus decide +kernel)) | (apply d_take 4; (focus decide +kernel)) | (apply d_take 5; (focus decide +kernel)) | (apply d_take 6; (focus decide +kernel)) | (apply d_take 7; (focus decide +kernel)) | (apply d_take 8; (focus decide +kernel)) | (apply d_take 9; (focus decide +kernel)) | (apply d_take 10; (focus decide +kernel)) | (apply d_take 11; (focus decide +kernel)) | (apply d_take 12; (focus decide +kernel)) | (apply d_take 13; (focus decide +kernel)) | (apply d_take 14; (focus decide +kernel)) | (apply d_take 15; (focus decide +kernel)) | (apply d_take 16; (focus decide +kernel)) | (apply d_take 17; (focus decide +kernel))); (focus (first | exact qds_FPost | exact qds_RPost | exact qds_YB | assumption)); (focus rfl); (iterate 3 (focus (simp only [go_sem, *]; (try rfl); done))); (focus rfl); (focus (simp only [go_sem, *]; (try rfl); done)); simp only [putA])
          | ((first | (apply d_unw 0; (focus decide +kernel)) | (apply d_unw 1; (focus decide +kernel)) | (apply d_unw 2; (focus decide +kernel)) | (apply d_unw 3; (focus decide +kernel)) | (apply d_unw 4; (focus decide +kernel)) | (apply d_unw 5; (focus decide +kernel)) | (apply d_unw 6; (focus decide +kernel)) | (apply d_unw 7; (focus decide +kernel)) | (apply d_unw 8; (focus decide +kernel)) | (apply d_unw 9; (focus decide +kernel)) | (apply d_unw 10; (focus decide +kernel)) | (apply d_unw 11; (focus decide +kernel)) | (apply d_unw 12; (focus decide +kernel)) | (apply d_unw 13; (focus decide +kernel)) | (apply d_unw 14; (focus decide +kernel)) | (apply d_unw 15; (focus decide +kernel)) | (apply d_unw 16; (focus decide +kernel)) | (apply d_unw 17; (focus decide +kernel))); (focus (first | exact qds_FPost | exact qds_RPost | exact qds_YB | assumption)); (focus rfl); (iterate 2 (focus (simp only [go_sem, *]; (try rfl); done))); (focus rfl); simp only [putA])
          | (first | (apply d_one 0; (focus decide +kernel)) | (apply d_one 1; (focus decide +kernel)) | (apply d_one 2; (focus decide +kernel)) | (apply d_one 3; (focus decide +kernel)) | (apply d_one 4; (focus decide +kernel)) | (apply d_one 5; (focus decide +kernel)) | (apply d_one 6; (focus decide +kernel)) | (apply d_one 7; (focus decide +kernel)) | (apply d_one 8; (focus decide +kernel)) | (apply d_one 9; (focus decide +kernel)) | (apply d_one 10; (focus decide +kernel)) | (apply d_one 11; (focus decide +kernel)) | (apply d_one 12; (focus decide +kernel)) | (apply d_one 13; (focus decide +kernel)) | (apply d_one 14; (focus decide +kernel)) | (apply d_one 15; (focus decide +kernel)) | (apply d_one 16; (focus decide +kernel)) | (apply d_one 17; (focus decide +kernel)))
          | (apply o_step; (iterate 3 (focus (simp only [go_sem, *]; (try rfl); done))); (focus rfl); simp only [putA])
          | (apply o_unw; (iterate 2 (focus (simp only [go_sem, *]; (try rfl); done))); (focus rfl); simp only [putA])
          | ((first | (apply d_takeD 0; (focus decide +kernel)) | (apply d_takeD 1; (focus decide +kernel)) | (apply d_takeD 2; (focus decide +kernel)) | (apply d_takeD 3; (focus decide +kernel)) | (apply d_takeD 4; (focus decide +kernel)) | (apply d_takeD 5; (focus decide +kernel)) | (apply d_takeD 6; (focus decide +kernel)) | (apply d_takeD 7; (focus decide +kernel)) | (apply d_takeD 8; (focus decide +kernel)) | (apply d_takeD 9; (focus decide +kernel)) | (apply d_takeD 10; (focus decide +kernel)) | (apply d_takeD 11; (focus decide +kernel)) | (apply d_takeD 12; (focus decide +kernel)) | (apply d_takeD 13; (focus decide +kernel)) | (apply d_takeD 14; (focus decide +kernel)) | (apply d_takeD 15; (focus decide +kernel)) | (apply d_takeD 16; (focus decide +kernel)) | (apply d_takeD 17; (focus decide +kernel))); (iterate 3 (focus (simp only [go_sem, *]; (try rfl); done))); (focus rfl); (focus (first | rfl | decide +kernel)); (focus (simp only [go_sem, *]; (try rfl); done)); simp only [putA])
          | (apply pl_skip2; (focus decide +kernel))
          | apply pr_nil | apply pr_same | apply pr_go | apply pl_nil | apply pl_none | (apply pl_skip; (focus decide +kernel)) | (apply pl_one; (focus (simp only [go_sem, *]; (try rfl); done)))
          | (apply o_call []; (iterate 2 (focus (simp only [go_sem, *]; (try rfl); done))); (focus rfl); (focus (simp only [go_sem, *]; (try rfl); done)); (focus rfl); (iterate 2 (focus (simp only [go_sem, *]; (try rfl); done))); (first | (apply t1; (focus (simp only [go_sem, *]; (try rfl); done)))); simp only [afterOp, putA])
        refine x_keepO (S0 := S.set a (.cells [.str s'])) (OuterOk.set hO rfl) 3 [0, 2, 3] (by simp) (by (simp only [go_sem, *]; try rfl)) (by (simp only [go_sem, *]; try rfl)) (by (simp only [go_sem, *]; try rfl)) ?_
        simp only [List.take_succ_cons, List.take_zero]
        refine HI.out (acc ++ [x], s', n) _ _ Hlt.out ⟨?_, ?_, Hu.out, ?_, ?_, ?_, ?_, g + 1, ?_⟩
        · have := Hlt.out; have := Hn.out; simp at *; omega
        · have := Hlt.out; have := Hl.out; simp at *; omega
        · (simp only [go_sem, *]; try rfl)
        · (simp only [go_sem, *]; try rfl)
        · (simp only [go_sem, *]; try rfl)
        · (simp only [go_sem, *]; try rfl)
        · simp only [List.length_append, List.length_cons, List.length_nil, Nat.zero_add, List.map_append, List.map_cons, List.map_nil]
end Go.Proofs.YtnndmokndgnidaaGreatDoor
namespace Go.Proofs.YtnndmokndgnidaaGreatDoor
open Go Go.Fen
set_option linter.unusedSimpArgs false
set_option linter.unusedVariables false
attribute [local irreducible] RunX WP ACall AnyP OpA ProtL
set_option maxRecDepth 8000
theorem dd_small {u : Nat} (h : u < 10) : Lib.decDigits u = [UInt8.ofNat (48 + u)] := by rw [Lib.decDigits, dif_pos h]
theorem dd_big {u : Nat} (h : ¬ u < 10) : Lib.decDigits u = Lib.decDigits (u / 10) ++ [UInt8.ofNat (48 + u % 10)] := by rw [Lib.decDigits, dif_neg h]
theorem dg_fin : ∀ k, k < 10 → dig (UInt8.ofNat (48 + k)) = true ∧ Lib.digitVal (UInt8.ofNat (48 + k)) = some k ∧ UInt8.ofNat (48 + k) ≠ 10 := by decide +kernel
theorem dd_dig (u : Nat) : ∀ b ∈ Lib.decDigits u, dig b = true ∧ b ≠ 10 := by
  induction u using Nat.strongRecOn with
  | _ u ih =>
    intro b hb
    by_cases h : u < 10
    · rw [dd_small h] at hb
      obtain rfl := List.mem_singleton.1 hb
      exact ⟨(dg_fin u h).1, (dg_fin u h).2.2⟩
    · rw [dd_big h] at hb
      rcases List.mem_append.1 hb with hb | hb
      · exact ih (u / 10) (by omega) b hb
      · obtain rfl := List.mem_singleton.1 hb
        exact ⟨(dg_fin _ (Nat.mod_lt _ (by omega))).1, (dg_fin _ (Nat.mod_lt _ (by omega))).2.2⟩
theorem decFrom_app : ∀ (a b : List UInt8) (acc : Nat), Lib.decFrom acc (a ++ b) = (Lib.decFrom acc a).bind fun n => Lib.decFrom n b
  | [], _, _ => rfl
  | c :: a, b, acc => by
    simp only [List.cons_append, Lib.decFrom]
    cases Lib.digitVal c with
    | none => rfl
    | some d => exact decFrom_app a b _
theorem dd_dec (u : Nat) : Lib.decFrom 0 (Lib.decDigits u) = some u := by
  induction u using Nat.strongRecOn with
  | _ u ih =>
    by_cases h : u < 10
    · rw [dd_small h]
      simp only [Lib.decFrom, (dg_fin u h).2.1, Nat.zero_mul, Nat.zero_add]
    · rw [dd_big h, decFrom_app, ih (u / 10) (by omega)]
      simp only [Option.bind_some, Lib.decFrom, (dg_fin _ (Nat.mod_lt u (by omega : 0 < 10))).2.1, Option.some.injEq]
      omega
theorem dd_ne (u : Nat) : Lib.decDigits u ≠ [] := by
  by_cases h : u < 10
  · rw [dd_small h]; simp
  · rw [dd_big h]; simp
theorem dd_len : ∀ (k u : Nat), u < 10 ^ (k + 1) → (Lib.decDigits u).length ≤ k + 1 := by
  intro k
  induction k with
  | zero => intro u h; rw [dd_small (by simpa using h)]; simp
  | succ k ih =>
    intro u h
    by_cases hu : u < 10
    · rw [dd_small hu]; simp
    · rw [dd_big hu, List.length_append]
      have := ih (u / 10) (by rw [Nat.pow_succ] at h; omega)
      simp; omega
theorem dd_atoi (u : Nat) : Lib.atoi (Lib.decDigits u) = some (u : Int) := by
  cases hd : Lib.decDigits u with
  | nil => exact absurd hd (dd_ne u)
  | cons b r =>
    have hb := (dig_iff b).1 (dd_dig u b (by rw [hd]; simp)).1
    have e1 : (b == 45) = false := by simp; rintro rfl; simp at hb
    have e2 : (b == 43) = false := by simp; rintro rfl; simp at hb
    have := dd_dec u
    rw [hd] at this
    simp [Lib.atoi, e1, e2, Lib.decNat, this]
theorem takeWhile_all {p : UInt8 → Bool} : ∀ {l s : List UInt8}, (∀ b ∈ l, p b = true) → (∀ b r, s = b :: r → p b = false) → (l ++ s).takeWhile p = l ∧ (l ++ s).dropWhile p = s
  | [], s, _, hs => by
    cases s with
    | nil => simp
    | cons b r => simp [hs b r rfl]
  | c :: l, s, hl, hs => by
    have := takeWhile_all (l := l) (s := s) (fun b hb => hl b (List.mem_cons_of_mem _ hb)) hs
    simp [hl c (List.mem_cons_self ..), this]
def headNd (s : List UInt8) : Prop := ∀ b r, s = b :: r → dig b = false
theorem hex_fin : ∀ n, n < 256 → hexV (hexC (n / 16)) (hexC (n % 16)) = some n := by decide +kernel
theorem unq_esc (acc : List UInt8) (c : UInt8) (rest : List UInt8) : unq acc (escB c ++ rest) = unq (acc ++ [c]) rest := by
  have hof : ∀ n, c.toNat = n → c = UInt8.ofNat n := fun n e => by rw [← e, UInt8.ofNat_toNat]
  unfold escB
  split
  · next h =>
    have h92 : (92 : UInt8).toNat = 92 := rfl
    simp only [List.cons_append, List.nil_append]
    rw [unq_cons]
    rw [if_neg (by rw [h92]; omega), if_neg (by rw [h92]; omega)]
    simp only
    rw [if_pos (by omega)]
  · split
    · next h =>
      have h92 : (92 : UInt8).toNat = 92 := rfl
      have h110 : (110 : UInt8).toNat = 110 := rfl
      simp only [List.cons_append, List.nil_append]
      rw [unq_cons]
      rw [if_neg (by rw [h92]; omega), if_neg (by rw [h92]; omega)]
      simp only
      rw [if_neg (by rw [h110]; omega), if_pos h110, hof 10 h]
      rfl
    · split
      · next h1 h2 h3 =>
        simp only [List.cons_append, List.nil_append]
        rw [unq_cons]
        rw [if_neg (by omega), if_pos (by omega), if_pos h3]
      · have h92 : (92 : UInt8).toNat = 92 := rfl
        have h120 : (120 : UInt8).toNat = 120 := rfl
        simp only [List.cons_append, List.nil_append]
        rw [unq_cons]
        rw [if_neg (by rw [h92]; omega), if_neg (by rw [h92]; omega)]
        simp only
        rw [if_neg (by rw [h120]; omega), if_neg (by rw [h120]; omega), if_pos h120, hex_fin c.toNat c.toNat_lt]
        simp only [UInt8.ofNat_toNat]
end Go.Proofs.YtnndmokndgnidaaGreatDoor
namespace Go.Proofs.YtnndmokndgnidaaGreatDoor
open Go Go.Fen
set_option linter.unusedSimpArgs false
set_option linter.unusedVariables false
attribute [local irreducible] RunX WP ACall AnyP OpA ProtL
set_option maxRecDepth 8000
def parseS (s : List UInt8) : Rec × Int :=
  if 1048576 < s.length then (zeroR, 3) else match recP s with
  | none => (zeroR, 6)
  | some r => if checkB r then (r, 0) else (zeroR, 520)
set_option maxHeartbeats 2000000 in
theorem parse (w0 : World) (hPU : PU16 w0) (S : List Blk) (s : List UInt8) (hm : ∀ r, recP s = some r → (r.items.length : Int) < 9223372036854775807) (R : AOut → List Blk → Prop) (h : R (.ret (resAV (parseS s))) S) :
    ACall Tryz.prog w0 27 [.str s] S R := by
  unfold parseS at h
  by_cases hl : 1048576 < s.length
  · rw [if_pos hl] at h
    have d1 : decide ((1048576 : Int) < (s.length : Int)) = true := by simp; omega
    clear hl hm hPU
    refine enter Tryz.func27 rfl (by decide +kernel) (by rw [Tryz.ntmps27]; simp) (by rw [Tryz.ntmps27]; decide) (fun hO => ?_); rw [Tryz.ntmps27]
    repeat' first
      | apply x_seq | apply x_skip | apply x_block | apply x_exit | apply x_ret | apply x_ops_nil | apply p_blk | apply p_exit_it | apply p_exit_hit | apply p_ret_it | apply p_ret_blk | apply p_panic_it | apply p_panic_blk | apply p_end
      | (apply p_exit_miss; (focus rfl))
      | (apply x_region; simp only [List.toList_toArray])
      | (apply x_step0; (focus rfl); (focus (simp only [go_sem, *]; (try rfl); done)); (focus rfl); simp only [putA])
      | (apply x_panic; (focus (simp only [go_sem, *]; (try rfl); done)); (focus rfl); (focus (simp only [go_sem, *]; (try rfl); done)))
      | (apply x_step; (iterate 2 (focus (simp only [go_sem, *]; (try rfl); done))); (focus rfl); simp only [putA])
      | (apply x_unwanted; (focus (simp only [go_sem, *]; (try rfl); done)); (focus rfl); simp only [putA])
      | (apply x_condT; (focus (simp only [go_sem, *]; (try rfl); done)))
      | (apply x_condF; (focus (simp only [go_sem, *]; (try rfl); done)))
      | (apply x_guardS; (focus rfl); (fail_if_success (focus (show _ = some true; (focus (simp only [go_sem, *]; (try rfl); done))))); (focus (simp only [go_sem, *]; (try rfl); done)); all_goals (intro hb; try simp only [Bool.not_eq_true', Bool.not_eq_false'] at hb))
      | (apply x_condS; (focus (simp only [go_sem, *]; (try rfl); done)); all_goals (intro hb; try simp only [Bool.not_eq_true', Bool.not_eq_false'] at hb))
    (apply f_ret; iterate 7 (focus (simp only [go_sem, *, Tryz.results27]; (try rfl); done)))
    exact h
  rw [if_neg hl] at h
  have d1 : decide ((1048576 : Int) < (s.length : Int)) = false := by simp; omega
  have hrec := fun S' a ha R hR hF => recordingT w0 hPU S' a s (by omega) ha R hR hF
  cases hp : recP s with
  | none =>
    rw [hp] at h
    have t1 : ∀ S' a, S'[a]? = some (.cells [.str s]) → ∀ R : AOut → List Blk → Prop, (∀ r, R (.ret (.tup [zeroR.av, .bool false])) (S'.set a (.cells [.str r]))) → ACall Tryz.prog w0 55 [.own a 0] S' R := by
      intro S' a ha R hF
      exact hrec S' a ha R (by intro x hx; rw [hp] at hx; cases hx) (fun _ => hF)
    clear hrec hp hl hm hPU
    refine enter Tryz.func27 rfl (by decide +kernel) (by rw [Tryz.ntmps27]; simp) (by rw [Tryz.ntmps27]; decide) (fun hO => ?_); rw [Tryz.ntmps27]
    repeat' first
      | apply x_seq | apply x_skip | apply x_block | apply x_exit | apply x_ret | apply x_ops_nil | apply p_blk | apply p_exit_it | apply p_exit_hit | apply p_ret_it | apply p_ret_blk | apply p_panic_it | apply p_panic_blk | apply p_end
      | (apply p_exit_miss; (focus rfl))
      | (apply x_region; simp only [List.toList_toArray])
      | (apply x_step0; (focus rfl); (focus (simp only [go_sem, *]; (try rfl); done)); (focus rfl); simp only [putA])
      | (apply x_callA []; (focus (simp only [go_sem, *]; (try rfl); done)); (focus rfl); (focus (simp only [go_sem, *]; (try rfl); done)); (focus rfl); (iterate 2 (focus (simp only [go_sem, *]; (try rfl); done))); (first | (apply t1; (focus (simp only [go_sem, *]; (try rfl); done)))); simp only [afterCall, putA])
      | (apply x_panic; (focus (simp only [go_sem, *]; (try rfl); done)); (focus rfl); (focus (simp only [go_sem, *]; (try rfl); done)))
      | (apply x_step; (iterate 2 (focus (simp only [go_sem, *]; (try rfl); done))); (focus rfl); simp only [putA])
      | (apply x_unwanted; (focus (simp only [go_sem, *]; (try rfl); done)); (focus rfl); simp only [putA])
      | (apply x_condT; (focus (simp only [go_sem, *]; (try rfl); done)))
      | (apply x_condF; (focus (simp only [go_sem, *]; (try rfl); done)))
      | (apply x_guardS; (focus rfl); (fail_if_success (focus (show _ = some true; (focus (simp only [go_sem, *]; (try rfl); done))))); (focus (simp only [go_sem, *]; (try rfl); done)); all_goals (intro hb; try simp only [Bool.not_eq_true', Bool.not_eq_false'] at hb))
      | (apply x_condS; (focus (simp only [go_sem, *]; (try rfl); done)); all_goals (intro hb; try simp only [Bool.not_eq_true', Bool.not_eq_false'] at hb))
    intro rr
    repeat' first
      | apply x_seq | apply x_skip | apply x_block | apply x_exit | apply x_ret | apply x_ops_nil | apply p_blk | apply p_exit_it | apply p_exit_hit | apply p_ret_it | apply p_ret_blk | apply p_panic_it | apply p_panic_blk | apply p_end
      | (apply p_exit_miss; (focus rfl))
      | (apply x_region; simp only [List.toList_toArray])
      | (apply x_step0; (focus rfl); (focus (simp only [go_sem, *, zeroR, Rec.av]; (try rfl); done)); (focus rfl); simp only [putA])
      | (apply x_panic; (focus (simp only [go_sem, *, zeroR, Rec.av]; (try rfl); done)); (focus rfl); (focus (simp only [go_sem, *, zeroR, Rec.av]; (try rfl); done)))
      | (apply x_step; (iterate 2 (focus (simp only [go_sem, *, zeroR, Rec.av]; (try rfl); done))); (focus rfl); simp only [putA])
      | (apply x_unwanted; (focus (simp only [go_sem, *, zeroR, Rec.av]; (try rfl); done)); (focus rfl); simp only [putA])
      | (apply x_condT; (focus (simp only [go_sem, *, zeroR, Rec.av]; (try rfl); done)))
      | (apply x_condF; (focus (simp only [go_sem, *, zeroR, Rec.av]; (try rfl); done)))
      | (apply x_guardS; (focus rfl); (fail_if_success (focus (show _ = some true; (focus (simp only [go_sem, *, zeroR, Rec.av]; (try rfl); done))))); (focus (simp only [go_sem, *, zeroR, Rec.av]; (try rfl); done)); all_goals (intro hb; try simp only [Bool.not_eq_true', Bool.not_eq_false'] at hb))
      | (apply x_condS; (focus (simp only [go_sem, *, zeroR, Rec.av]; (try rfl); done)); all_goals (intro hb; try simp only [Bool.not_eq_true', Bool.not_eq_false'] at hb))
    (apply f_ret; iterate 7 (focus (simp only [go_sem, *, Tryz.results27]; (try rfl); done)))
    exact h
  | some r =>
    rw [hp] at h
    simp only at h
    have hck := fun S' => check w0 S' r (hm r hp)
    have t1 : ∀ S' a, S'[a]? = some (.cells [.str s]) → ∀ R : AOut → List Blk → Prop, (∀ q, R (.ret (.tup [r.av, .bool true])) (S'.set a (.cells [.str q]))) → ACall Tryz.prog w0 55 [.own a 0] S' R := by
      intro S' a ha R hF
      exact hrec S' a ha R (by intro x hx; rw [hp] at hx; cases hx; exact hF) (by intro hn; rw [hp] at hn; cases hn)
    clear hrec hp hl hm hPU
    cases hc : checkB r with
    | true =>
      simp only [hc, if_true] at h hck
      unfold Rec.av at t1 hck
      refine enter Tryz.func27 rfl (by decide +kernel) (by rw [Tryz.ntmps27]; simp) (by rw [Tryz.ntmps27]; decide) (fun hO => ?_); rw [Tryz.ntmps27]
      repeat' first
        | apply x_seq | apply x_skip | apply x_block | apply x_exit | apply x_ret | apply x_ops_nil | apply p_blk | apply p_exit_it | apply p_exit_hit | apply p_ret_it | apply p_ret_blk | apply p_panic_it | apply p_panic_blk | apply p_end
        | (apply p_exit_miss; (focus rfl))
        | (apply x_region; simp only [List.toList_toArray])
        | (apply x_step0; (focus rfl); (focus (simp only [go_sem, *]; (try rfl); done)); (focus rfl); simp only [putA])
        | (apply x_callA []; (focus (simp only [go_sem, *]; (try rfl); done)); (focus rfl); (focus (simp only [go_sem, *]; (try rfl); done)); (focus rfl); (iterate 2 (focus (simp only [go_sem, *]; (try rfl); done))); (first | (apply t1; (focus (simp only [go_sem, *]; (try rfl); done)))); simp only [afterCall, putA])
        | (apply x_panic; (focus (simp only [go_sem, *]; (try rfl); done)); (focus rfl); (focus (simp only [go_sem, *]; (try rfl); done)))
        | (apply x_step; (iterate 2 (focus (simp only [go_sem, *]; (try rfl); done))); (focus rfl); simp only [putA])
        | (apply x_unwanted; (focus (simp only [go_sem, *]; (try rfl); done)); (focus rfl); simp only [putA])
        | (apply x_condT; (focus (simp only [go_sem, *]; (try rfl); done)))
        | (apply x_condF; (focus (simp only [go_sem, *]; (try rfl); done)))
        | (apply x_guardS; (focus rfl); (fail_if_success (focus (show _ = some true; (focus (simp only [go_sem, *]; (try rfl); done))))); (focus (simp only [go_sem, *]; (try rfl); done)); all_goals (intro hb; try simp only [Bool.not_eq_true', Bool.not_eq_false'] at hb))
        | (apply x_condS; (focus (simp only [go_sem, *]; (try rfl); done)); all_goals (intro hb; try simp only [Bool.not_eq_true', Bool.not_eq_false'] at hb))
      intro rr
      repeat' first
        | apply x_seq | apply x_skip | apply x_block | apply x_exit | apply x_ret | apply x_ops_nil | apply p_blk | apply p_exit_it | apply p_exit_hit | apply p_ret_it | apply p_ret_blk | apply p_panic_it | apply p_panic_blk | apply p_end
        | (apply p_exit_miss; (focus rfl))
        | (apply x_region; simp only [List.toList_toArray])
        | (apply x_step0; (focus rfl); (focus (simp only [go_sem, *]; (try rfl); done)); (focus rfl); simp only [putA])
        | (apply x_callA []; (focus (simp only [go_sem, *]; (try rfl); done)); (focus rfl); (focus (simp only [go_sem, *]; (try rfl); done)); (focus rfl); (iterate 2 (focus (simp only [go_sem, *]; (try rfl); done))); (first | (apply hck)); simp only [afterCall, putA])
        | (apply x_panic; (focus (simp only [go_sem, *]; (try rfl); done)); (focus rfl); (focus (simp only [go_sem, *]; (try rfl); done)))
        | (apply x_step; (iterate 2 (focus (simp only [go_sem, *]; (try rfl); done))); (focus rfl); simp only [putA])
        | (apply x_unwanted; (focus (simp only [go_sem, *]; (try rfl); done)); (focus rfl); simp only [putA])
        | (apply x_condT; (focus (simp only [go_sem, *]; (try rfl); done)))
        | (apply x_condF; (focus (simp only [go_sem, *]; (try rfl); done)))
        | (apply x_guardS; (focus rfl); (fail_if_success (focus (show _ = some true; (focus (simp only [go_sem, *]; (try rfl); done))))); (focus (simp only [go_sem, *]; (try rfl); done)); all_goals (intro hb; try simp only [Bool.not_eq_true', Bool.not_eq_false'] at hb))
        | (apply x_condS; (focus (simp only [go_sem, *]; (try rfl); done)); all_goals (intro hb; try simp only [Bool.not_eq_true', Bool.not_eq_false'] at hb))
      (apply f_ret; iterate 7 (focus (simp only [go_sem, *, Tryz.results27]; (try rfl); done)))
      exact h
    | false =>
      simp only [hc, Bool.false_eq_true, if_false] at h hck
      unfold Rec.av at t1 hck
      refine enter Tryz.func27 rfl (by decide +kernel) (by rw [Tryz.ntmps27]; simp) (by rw [Tryz.ntmps27]; decide) (fun hO => ?_); rw [Tryz.ntmps27]
      repeat' first
        | apply x_seq | apply x_skip | apply x_block | apply x_exit | apply x_ret | apply x_ops_nil | apply p_blk | apply p_exit_it | apply p_exit_hit | apply p_ret_it | apply p_ret_blk | apply p_panic_it | apply p_panic_blk | apply p_end
        | (apply p_exit_miss; (focus rfl))
        | (apply x_region; simp only [List.toList_toArray])
        | (apply x_step0; (focus rfl); (focus (simp only [go_sem, *]; (try rfl); done)); (focus rfl); simp only [putA])
        | (apply x_callA []; (focus (simp only [go_sem, *]; (try rfl); done)); (focus rfl); (focus (simp only [go_sem, *]; (try rfl); done)); (focus rfl); (iterate 2 (focus (simp only [go_sem, *]; (try rfl); done))); (first | (apply t1; (focus (simp only [go_sem, *]; (try rfl); done)))); simp only [afterCall, putA])
        | (apply x_panic; (focus (simp only [go_sem, *]; (try rfl); done)); (focus rfl); (focus (simp only [go_sem, *]; (try rfl); done)))
        | (apply x_step; (iterate 2 (focus (simp only [go_sem, *]; (try rfl); done))); (focus rfl); simp only [putA])
        | (apply x_unwanted; (focus (simp only [go_sem, *]; (try rfl); done)); (focus rfl); simp only [putA])
        | (apply x_condT; (focus (simp only [go_sem, *]; (try rfl); done)))
        | (apply x_condF; (focus (simp only [go_sem, *]; (try rfl); done)))
        | (apply x_guardS; (focus rfl); (fail_if_success (focus (show _ = some true; (focus (simp only [go_sem, *]; (try rfl); done))))); (focus (simp only [go_sem, *]; (try rfl); done)); all_goals (intro hb; try simp only [Bool.not_eq_true', Bool.not_eq_false'] at hb))
        | (apply x_condS; (focus (simp only [go_sem, *]; (try rfl); done)); all_goals (intro hb; try simp only [Bool.not_eq_true', Bool.not_eq_false'] at hb))
      intro rr
      repeat' first
        | apply x_seq | apply x_skip | apply x_block | apply x_exit | apply x_ret | apply x_ops_nil | apply p_blk | apply p_exit_it | apply p_exit_hit | apply p_ret_it | apply p_ret_blk | apply p_panic_it | apply p_panic_blk | apply p_end
        | (apply p_exit_miss; (focus rfl))
        | (apply x_region; simp only [List.toList_toArray])
        | (apply x_step0; (focus rfl); (focus (simp only [go_sem, *]; (try rfl); done)); (focus rfl); simp only [putA])
        | (apply x_callA []; (focus (simp only [go_sem, *]; (try rfl); done)); (focus rfl); (focus (simp only [go_sem, *]; (try rfl); done)); (focus rfl); (iterate 2 (focus (simp only [go_sem, *]; (try rfl); done))); (first | (apply hck)); simp only [afterCall, putA])
        | (apply x_panic; (focus (simp only [go_sem, *]; (try rfl); done)); (focus rfl); (focus (simp only [go_sem, *]; (try rfl); done)))
        | (apply x_step; (iterate 2 (focus (simp only [go_sem, *]; (try rfl); done))); (focus rfl); simp only [putA])
        | (apply x_unwanted; (focus (simp only [go_sem, *]; (try rfl); done)); (focus rfl); simp only [putA])
        | (apply x_condT; (focus (simp only [go_sem, *]; (try rfl); done)))
        | (apply x_condF; (focus (simp only [go_sem, *]; (try rfl); done)))
        | (apply x_guardS; (focus rfl); (fail_if_success (focus (show _ = some true; (focus (simp only [go_sem, *]; (try rfl); done))))); (focus (simp only [go_sem, *]; (try rfl); done)); all_goals (intro hb; try simp only [Bool.not_eq_true', Bool.not_eq_false'] at hb))
        | (apply x_condS; (focus (simp only [go_sem, *]; (try rfl); done)); all_goals (intro hb; try simp only [Bool.not_eq_true', Bool.not_eq_false'] at hb))
      (apply f_ret; iterate 7 (focus (simp only [go_sem, *, Tryz.results27]; (try rfl); done)))
      exact h
end Go.Proofs.YtnndmokndgnidaaGreatDoor
namespace Go.Proofs.YtnndmokndgnidaaGreatDoor
open Go Go.Fen
set_option linter.unusedSimpArgs false
set_option linter.unusedVariables false
attribute [local irreducible] RunX WP ACall AnyP OpA ProtL
set_option maxRecDepth 8000
set_option maxHeartbeats 1000000 in
theorem uptoLaw (w0 : World) (S : List Blk) (r : Rec) (hm : (r.items.length : Int) < 9223372036854775807) (t k : Int) (n : Nat) (hc : checkB r = true) (hn : UpTo r.items t n) (R : AOut → List Blk → Prop) (h : R (.ret (.bool ((n : Int) == k))) S) :
    ACall Tryz.prog w0 48 [r.av, .int .i64 t, .int .i64 k] S R := by
  have hu := fun S' => uptoR w0 S' r hm t n hc hn
  clear hm hc hn
  unfold Rec.av at hu ⊢
  cases hk : ((n : Int) == k) with
  | true =>
    rw [hk] at h
    refine enter Tryz.func48 rfl (by decide +kernel) (by rw [Tryz.ntmps48]; simp) (by rw [Tryz.ntmps48]; decide) (fun hO => ?_); rw [Tryz.ntmps48]
    repeat' first
      | apply x_seq | apply x_skip | apply x_block | apply x_exit | apply x_ret | apply x_ops_nil | apply p_blk | apply p_exit_it | apply p_exit_hit | apply p_ret_it | apply p_ret_blk | apply p_panic_it | apply p_panic_blk | apply p_end
      | (apply p_exit_miss; (focus rfl))
      | (apply x_region; simp only [List.toList_toArray])
      | (apply x_step0; (focus rfl); (focus (simp only [go_sem, *]; (try rfl); done)); (focus rfl); simp only [putA])
      | (apply x_callA []; (focus (simp only [go_sem, *]; (try rfl); done)); (focus rfl); (focus (simp only [go_sem, *]; (try rfl); done)); (focus rfl); (iterate 2 (focus (simp only [go_sem, *]; (try rfl); done))); (first | (apply hu)); simp only [afterCall, putA])
      | (apply x_panic; (focus (simp only [go_sem, *]; (try rfl); done)); (focus rfl); (focus (simp only [go_sem, *]; (try rfl); done)))
      | (apply x_step; (iterate 2 (focus (simp only [go_sem, *]; (try rfl); done))); (focus rfl); simp only [putA])
      | (apply x_unwanted; (focus (simp only [go_sem, *]; (try rfl); done)); (focus rfl); simp only [putA])
      | (apply x_condT; (focus (simp only [go_sem, *]; (try rfl); done)))
      | (apply x_condF; (focus (simp only [go_sem, *]; (try rfl); done)))
      | (apply x_guardS; (focus rfl); (fail_if_success (focus (show _ = some true; (focus (simp only [go_sem, *]; (try rfl); done))))); (focus (simp only [go_sem, *]; (try rfl); done)); all_goals (intro hb; try simp only [Bool.not_eq_true', Bool.not_eq_false'] at hb))
      | (apply x_condS; (focus (simp only [go_sem, *]; (try rfl); done)); all_goals (intro hb; try simp only [Bool.not_eq_true', Bool.not_eq_false'] at hb))
    (apply f_ret; iterate 7 (focus (simp only [go_sem, *, Tryz.results48]; (try rfl); done)))
    exact h
  | false =>
    rw [hk] at h
    refine enter Tryz.func48 rfl (by decide +kernel) (by rw [Tryz.ntmps48]; simp) (by rw [Tryz.ntmps48]; decide) (fun hO => ?_); rw [Tryz.ntmps48]
    repeat' first
      | apply x_seq | apply x_skip | apply x_block | apply x_exit | apply x_ret | apply x_ops_nil | apply p_blk | apply p_exit_it | apply p_exit_hit | apply p_ret_it | apply p_ret_blk | apply p_panic_it | apply p_panic_blk | apply p_end
      | (apply p_exit_miss; (focus rfl))
      | (apply x_region; simp only [List.toList_toArray])
      | (apply x_step0; (focus rfl); (focus (simp only [go_sem, *]; (try rfl); done)); (focus rfl); simp only [putA])
      | (apply x_callA []; (focus (simp only [go_sem, *]; (try rfl); done)); (focus rfl); (focus (simp only [go_sem, *]; (try rfl); done)); (focus rfl); (iterate 2 (focus (simp only [go_sem, *]; (try rfl); done))); (first | (apply hu)); simp only [afterCall, putA])
      | (apply x_panic; (focus (simp only [go_sem, *]; (try rfl); done)); (focus rfl); (focus (simp only [go_sem, *]; (try rfl); done)))
      | (apply x_step; (iterate 2 (focus (simp only [go_sem, *]; (try rfl); done))); (focus rfl); simp only [putA])
      | (apply x_unwanted; (focus (simp only [go_sem, *]; (try rfl); done)); (focus rfl); simp only [putA])
      | (apply x_condT; (focus (simp only [go_sem, *]; (try rfl); done)))
      | (apply x_condF; (focus (simp only [go_sem, *]; (try rfl); done)))
      | (apply x_guardS; (focus rfl); (fail_if_success (focus (show _ = some true; (focus (simp only [go_sem, *]; (try rfl); done))))); (focus (simp only [go_sem, *]; (try rfl); done)); all_goals (intro hb; try simp only [Bool.not_eq_true', Bool.not_eq_false'] at hb))
      | (apply x_condS; (focus (simp only [go_sem, *]; (try rfl); done)); all_goals (intro hb; try simp only [Bool.not_eq_true', Bool.not_eq_false'] at hb))
    (apply f_ret; iterate 7 (focus (simp only [go_sem, *, Tryz.results48]; (try rfl); done)))
    exact h
end Go.Proofs.YtnndmokndgnidaaGreatDoor
namespace Go.Proofs.YtnndmokndgnidaaGreatDoor
open Go Go.Fen
set_option linter.unusedSimpArgs false
set_option linter.unusedVariables false
attribute [local irreducible] RunX WP ACall AnyP OpA ProtL
set_option maxRecDepth 8000
theorem chap_check : checkB chapR = true := by decide +kernel
theorem chap_print : printS chapR = chapS := by decide +kernel
theorem chap_parse : parseS chapS = (chapR, 0) := by decide +kernel
theorem chap_cut1 : cutS chapR 120 200 = (⟨10, 3, [⟨30, 3, 20, 4, []⟩, ⟨0, 4, 0, 0, [109]⟩]⟩, 0) := by decide +kernel
theorem chap_cut2 : cutS chapR 200 300 = (⟨20, 4, []⟩, 0) := by decide +kernel
theorem chap_cut3 : cutS chapR 0 150 = (⟨10, 3, [⟨100, 1, 0, 0, [97, 10]⟩]⟩, 0) := by decide +kernel
theorem chap_long : tmz chapR.items chapR.items.length = 150 := by decide +kernel
theorem upto_mk {l : List It} {t : Int} {n : Nat} (h : ((List.range n).all fun j => decide (tmz l (j + 1) ≤ t)) = true) (h2 : n ≤ l.length) (h3 : n < l.length → t < tmz l (n + 1)) : UpTo l t n := by
  refine ⟨fun j hj => ?_, h2, h3⟩
  have := List.all_eq_true.1 h j (List.mem_range.2 hj)
  simpa using this
theorem chap_up1 : UpTo chapR.items 100 1 := upto_mk (by decide +kernel) (by decide +kernel) (by decide +kernel)
theorem chap_up2 : UpTo chapR.items 149 1 := upto_mk (by decide +kernel) (by decide +kernel) (by decide +kernel)
theorem chap_up3 : UpTo chapR.items 150 3 := upto_mk (by decide +kernel) (by decide +kernel) (by decide +kernel)
theorem chap_up4 : UpTo chapR.items (-1) 0 := upto_mk (by decide +kernel) (by decide +kernel) (by decide +kernel)
end Go.Proofs.YtnndmokndgnidaaGreatDoor
