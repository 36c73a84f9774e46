/- YtecgddmmdgccfaaGreatDoorCore4. Texts of the proof of a law about texts: a layer of abstract values above the worlds, the types, the walks of the functions that the law reaches, the law and its card. Own work of an AI agent. -/
import Derived.Test.YtecgddmmdgccfaaGreatDoorCore3
import Derived.OrdersIn
set_option linter.all false
set_option linter.unusedVariables false
set_option linter.unusedSimpArgs false
namespace Go.Fen.Ex
open Go.RowKit Go.Fen
noncomputable def seqR (r : Res) (f : Kt) : Res :=
  Option.rec (motive := fun _ => Kt → Res) (fun _ => none) (fun p => Prod.rec (motive := fun _ => Kt → Res) (fun x s => AX.rec (motive := fun _ => St → Kt → Res) (fun s f => St.rec (motive := fun _ => Res) (fun e ds S => f e ds S) s)
    (fun j s _ => some (.exit j, s)) (fun _ _ _ => none) (fun s _ => some (.ret, s)) (fun v s _ => some (.panic v, s)) x s) p) r f
theorem seqR_eq (r : Res) (f : Kt) : seqR r f = (match r with
    | some (.normal, s1) => f s1.e s1.ds s1.S
    | some (.exit j, s1) => some (.exit j, s1)
    | some (.ret, s1) => some (.ret, s1)
    | some (.panic v, s1) => some (.panic v, s1)
    | _ => none) := by
  cases r with
  | none => rfl
  | some p => obtain ⟨x, s⟩ := p; cases x <;> rfl
noncomputable def blkR (r : Res) (id : Nat) : Res :=
  Option.rec (motive := fun _ => Nat → Res) (fun _ => none) (fun p => Prod.rec (motive := fun _ => Nat → Res) (fun x s => AX.rec (motive := fun _ => St → Nat → Res) (fun s _ => some (.normal, s))
    (fun j s id => Bool.rec (motive := fun _ => Res) (some (.exit j, s)) (some (.normal, s)) (Nat.beq j id)) (fun _ _ _ => none) (fun s _ => some (.ret, s)) (fun v s _ => some (.panic v, s)) x s) p) r id
theorem blkR_eq (r : Res) (id : Nat) : blkR r id = (match r with
    | some (.normal, s1) => some (.normal, s1)
    | some (.exit j, s1) => if j = id then some (.normal, s1) else some (.exit j, s1)
    | some (.ret, s1) => some (.ret, s1)
    | some (.panic v, s1) => some (.panic v, s1)
    | _ => none) := by
  cases r with
  | none => rfl
  | some p =>
    obtain ⟨x, s⟩ := p
    cases x <;> try rfl
    next j =>
      show Bool.rec (motive := fun _ => Res) _ _ (Nat.beq j id) = _
      simp only
      cases h : Nat.beq j id with
      | false => rw [if_neg (fun e => by rw [e, Nat.beq_refl] at h; cases h)]
      | true => rw [if_pos (Nat.eq_of_beq_eq_true h)]
noncomputable def loopK (f : Kt) (n : Nat) : Kt := Nat.rec (motive := fun _ => Kt) (fun _ _ _ => none) (fun _ ih e ds S => seqR (f e ds S) ih) n
section
variable (P : Program) (G : Nat → AV) (R : Rec)
def jumpX (s : St) : Option Code → Res
  | none => some (.normal, s)
  | some .ret => some (.ret, s)
  | some (.exit id) => some (.exit id, s)
  | _ => none
def keepX (N : Nat) (s : St) : List Nat := (List.range N).filter fun t => !(s.env t).isJunk
noncomputable def fTm (l : List (Nat × AV)) (f : List (Nat × AV) → Res) : Res := List.rec (motive := fun _ => (List (Nat × AV) → Res) → Res) (fun f => f []) (fun p _ ih f => fN p.1 fun n => fHs p.2 fun v => ih fun l => f ((n, v) :: l)) l f
theorem fTm_eq : ∀ (l : List (Nat × AV)) (f : List (Nat × AV) → Res), fTm l f = f l
  | [], f => rfl
  | p :: l, f => by
    show (fN p.1 fun n => fHs p.2 fun v => fTm l fun l => f ((n, v) :: l)) = _
    rw [fN_eq, fHs_eq, fTm_eq l]
noncomputable def rngX (N : Nat) (g : Operand) (ps : Array Tmp) (asg body : Code) (s : St) : Res :=
  match evT G s.e g with
  | .fn (.func h) first cap =>
    fPL0 (first ++ [.yld (s.S.length + 1)] ++ cap) fun A => appB s.S (.obj (.deferred (some []))) fun S1 => fTm ((keepX N s).map fun t => (t, s.env t)) fun tm => appB S1 (.loop .ready none N tm ps asg body) fun S1 => match R.call h A S1 with
    | some (.ret _, S') => match S'[s.S.length + 1]? with
      | some (.loop st pend N' tm ps' asg' body') => if (st == .busy) = false then setB S' (s.S.length + 1) (.loop .exhausted pend N' tm ps' asg' body') fun S2 => jumpX ⟨s.e, .own s.S.length 0 :: s.ds, S2⟩ pend else none
      | _ => none
    | some (.panic v, S') => some (.panic v, ⟨s.e, .own s.S.length 0 :: s.ds, S'⟩)
    | none => none
  | _ => none
abbrev CodeT := Program → (Nat → AV) → Rec → Nat → Bool → Bool → Kt
def cutT (os : List Oper) : List Nat := os.flatMap fun o => match o.op with
  | .slice _ (.tmp u) _ _ _ => (match os.find? (fun p => p.dst == some u) with
    | some p => (match p.op with
      | .move (.tmp t) => [t]
      | _ => [])
    | none => [u])
  | _ => []
noncomputable def frzX (t : Nat) (f : Kt) : Kt := fun e ds S => match getT (path t) e with
  | .sown a g n => (match S[a]? with
    | some (.arr e' sz _ g' els) => if t < DS then fBlk (.arr e' sz els.length g' els) fun B => setB S a B fun S1 => cvK S1 (.sown a g n) fun v => putK (some t) v S1 e ds f else none
    | _ => f e ds S)
  | _ => f e ds S
noncomputable def frzL (l : List Nat) (f : Kt) : Kt := List.rec (motive := fun _ => Kt) f (fun t _ ih => frzX t ih) l
def cutC (os : List Oper) : List Nat := os.flatMap fun o => match o.op with
  | .slice _ (.tmp u) _ _ _ => (match os.find? (fun p => p.dst == some u) with
    | some p => (match p.op with
      | .load _ (.tmp q) => (match os.find? (fun p => p.dst == some q) with
        | some p2 => (match p2.op with
          | .fieldAddr _ (.tmp t) _ => [t]
          | _ => [])
        | none => [])
      | _ => [])
    | none => [])
  | _ => []
noncomputable def mk1 (x : AV) (f : List Blk → Res) : List Blk → Res := fun S => match x with
  | .sown a _ _ => (match S[a]? with
    | some (.arr e' sz _ g' els) => fBlk (.arr e' sz els.length g' els) fun B => setB S a B f
    | _ => f S)
  | _ => f S
noncomputable def mkL1 (l : List AV) (f : List Blk → Res) : List Blk → Res := List.rec (motive := fun _ => List Blk → Res) f (fun x _ ih => mk1 x ih) l
noncomputable def mkX (x : AV) (f : List Blk → Res) : List Blk → Res := fun S => match x with
  | .sown a _ _ => (match S[a]? with
    | some (.arr e' sz _ g' els) => fBlk (.arr e' sz els.length g' els) fun B => setB S a B (mkL1 (els.flatMap AV.cells) f)
    | _ => f S)
  | _ => f S
noncomputable def mkL (l : List AV) (f : List Blk → Res) : List Blk → Res := List.rec (motive := fun _ => List Blk → Res) f (fun x _ ih => mkX x ih) l
noncomputable def frzC (b : Nat) (f : Kt) : Kt := fun e ds S => match S[b]? with
  | some (.cells cs _) => mkL cs (fun S1 => match S1[b]? with
    | some (.cells cs1 ty) => cvLK S1 cs1 fun l => if l.all AV.leaf = true then fBlk (.cells l ty) fun B => setB S1 b B fun S2 => f e ds S2 else none
    | _ => none) S
  | _ => f e ds S
noncomputable def frzM (t : Nat) (f : Kt) : Kt := fun e ds S => match getT (path t) e with
  | .own b _ => frzC b f e ds S
  | _ => f e ds S
noncomputable def frzML (l : List Nat) (f : Kt) : Kt := List.rec (motive := fun _ => Kt) f (fun t _ ih => frzM t ih) l
noncomputable def codeX (c : Code) : CodeT :=
  Code.rec (motive := fun _ => CodeT)
    (fun _ _ _ _ _ _ e ds S => some (.normal, ⟨e, ds, S⟩))
    (fun _ os d P G R N rf dm e ds S => Bool.rec (motive := fun _ => Res) none (Bool.rec (motive := fun _ => Res) (opsX P G R (rf && dm) os os.toList e ds S) (Bool.rec (motive := fun _ => Res) (frzL (cutT os.toList) (frzML (cutC os.toList) (regX P G R os)) e ds S) none dm) d) (regOk G N os))
    (fun _ _ iha ihb P G R N rf dm e ds S => seqR (iha P G R N rf dm e ds S) (ihb P G R N rf dm))
    (fun c _ _ iha ihb P G R N rf dm e ds S => Bool.rec (motive := fun _ => Res) none (evK G e c fun v => asBool v (fun t => Bool.rec (motive := fun _ => Res) (ihb P G R N rf dm e ds S) (iha P G R N rf dm e ds S) t) none) (okOp G c))
    (fun id _ ih P G R N rf dm e ds S => blkR (ih P G R N rf dm e ds S) id)
    (fun _ ih P G R N rf dm e ds S => loopK (ih P G R N rf dm) 100000 e ds S)
    (fun g ps asg body _ _ _ G R N rf _ e ds S => Bool.rec (motive := fun _ => Res) none (rngX G R N g ps asg body ⟨e, ds, S⟩) (rf && okOp G g))
    (fun id _ _ _ _ _ _ e ds S => some (.exit id, ⟨e, ds, S⟩))
    (fun _ _ _ _ _ _ _ _ _ _ _ => none)
    (fun _ _ _ _ _ _ _ e ds S => some (.normal, ⟨e, ds, S⟩))
    (fun _ _ _ _ _ _ _ _ _ _ => none)
    (fun _ _ _ _ _ _ e ds S => some (.ret, ⟨e, ds, S⟩))
    (fun _ _ _ _ _ _ _ _ _ _ => none)
    c
variable {P G R} {w0 : World} {N : Nat} {r : Option Nat} {dm : Bool}
theorem regOk_get {ops : Array Oper} (h : regOk G N ops = true) : ∀ o ∈ ops.toList, dstOk N o.dst = true ∧ o.op.operands.toList.all (okOp G) = true := regL_get h
theorem downC_none (ops : Array Oper) : DownC ops (Array.replicate ops.size false) := fun j o ho hl => by
  have hj := (Array.getElem?_eq_some_iff.1 ho).1
  simp [Array.getD, hj] at hl
theorem seq_ok {e : Tr} {ds : List AV} {S : List Blk} {a : KI} {it : KI} {ra : Res} {f : Kt} (ha : OK1 P w0 N r dm e ds S a ra) (hf : ∀ e ds S, OK1 P w0 N r dm e ds S it (f e ds S)) {x : AX} {s' : St} (h : seqR ra f = some (x, s')) {n0 : Nat} {k : List TI} {Q : APost} (hQ : dm = false → QDs Q)
    (hx : RunX P w0 n0 N r k Q x s'.env s'.S) : RunX P w0 n0 N r (.it a :: .it it :: k) Q .normal (St.env ⟨e, ds, S⟩) S := by
  rw [seqR_eq] at h
  split at h
  · next s1 => exact ha _ _ rfl n0 _ Q hQ (hf s1.e s1.ds s1.S x s' h n0 k Q hQ hx)
  · next j s1 => cases h; exact ha _ _ rfl n0 _ Q hQ hx
  · next s1 => cases h; exact ha _ _ rfl n0 _ Q hQ hx
  · next v s1 => cases h; exact ha _ _ rfl n0 _ Q hQ hx
  · cases h
theorem loop_ok {c : Code} {f : Kt} (hf : ∀ e ds S, OK1 P w0 N r dm e ds S (.code c) (f e ds S)) : ∀ (n : Nat) (e : Tr) (ds : List AV) (S : List Blk), OK1 P w0 N r dm e ds S (.lp c) (loopK f n e ds S)
  | 0, _, _, _ => fun x s' h => by cases h
  | n + 1, e, ds, S => fun x s' h n0 k Q hQ hx => x_lp (seq_ok (hf e ds S) (loop_ok hf n) (h : seqR (f e ds S) (loopK f n) = some (x, s')) hQ hx)
theorem loop1_ok {c : Code} {f : Kt} (hf : ∀ e ds S, OK1 P w0 N r dm e ds S (.code c) (f e ds S)) : ∀ (n : Nat) (e : Tr) (ds : List AV) (S : List Blk), OK1 P w0 N r dm e ds S (.code (.loop c)) (loopK f n e ds S)
  | 0, _, _, _ => fun x s' h => by cases h
  | n + 1, e, ds, S => fun x s' h n0 k Q hQ hx => x_loop (seq_ok (hf e ds S) (loop_ok hf n) (h : seqR (f e ds S) (loopK f n) = some (x, s')) hQ hx)
theorem rng_ok (hG : GOk G w0) (hR : CallOk P w0 R) (g : Operand) (hg : okOp G g = true) (ps : Array Tmp) (asg body : Code) (s : St) : OK1 P w0 N none dm s.e s.ds s.S (.code (.rangeFunc g ps asg body)) (rngX G R N g ps asg body s) := by
  intro x s' h n0 k Q hQ hx
  unfold rngX at h
  rw [evT_eq (s := s) hG hg] at h
  split at h
  · next f first cap hf' =>
    have e2 : ∀ A B : Blk, s.S ++ [A] ++ [B] = s.S ++ [A, B] := fun A B => by simp
    rw [fPL0_eq, appB_eq, fTm_eq, appB_eq, e2] at h
    refine x_rangeFunc (ds := s.ds) (keepX N s) hf' (by simp [St.env]) ?_ ?_
    · refine List.all_eq_true.2 fun t ht => ?_
      have := (List.mem_filter.1 ht).1
      simpa using List.mem_range.1 this
    have henv : ∀ S, St.env ⟨s.e, .own s.S.length 0 :: s.ds, S⟩ = upd s.env DS (.dfr (.own s.S.length 0 :: s.ds)) := fun S => by
      funext t
      simp only [St.env, upd]
      by_cases ht : t = DS <;> simp [ht]
    split at h
    · next v S' hc =>
      refine (hR.1 _ _ _ _ _ hc).mono ?_
      rintro o2 S2 ⟨rfl, rfl⟩
      split at h
      · next st pend N' tm ps' asg' body' hS =>
        split at h
        · next hst =>
          refine ⟨st, pend, N', tm, ps', asg', body', hS, hst, ?_⟩
          rw [setB_eq] at h
          unfold jumpX at h
          split at h
          · cases h
            rw [henv] at hx
            exact hx
          · cases h
            rw [henv] at hx
            exact x_ret hx
          · cases h
            rw [henv] at hx
            exact x_exit hx
          · cases h
        · cases h
      · cases h
    · next v S' hc =>
      refine (hR.1 _ _ _ _ _ hc).mono ?_
      rintro o2 S2 ⟨rfl, rfl⟩
      cases h
      rw [henv] at hx
      exact hx
    · cases h
  · cases h
theorem frz_ok {it : KI} {t : Nat} {f : Kt} (hf : ∀ e ds S, OK1 P w0 N r dm e ds S it (f e ds S)) (e : Tr) (ds : List AV) (S : List Blk) : OK1 P w0 N r dm e ds S it (frzX t f e ds S) := by
  intro x s' h n0 k Q hQ hx
  unfold frzX at h
  split at h
  · next a g n ht =>
    split at h
    · next e' sz fz g' els hS =>
      split at h
      · next hlt =>
        rw [fBlk_eq, setB_eq, cvK_eq, putK_eq (some t) _ _ e ds S] at h
        have hne : t ≠ DS := Nat.ne_of_lt hlt
        have henv : (St.env ⟨e, ds, S⟩) t = .sown a g n := by simp only [St.env, if_neg hne]; rw [← getT_eq]; exact ht
        have hmk : markFull S a = S.set a (.arr e' sz els.length g' els) := by simp [markFull, hS]
        refine x_frzS (t := t) (a := a) (by simpa using hne) hmk (by rw [henv]) ?_
        have := hf _ _ _ x s' h n0 k Q hQ hx
        have e2 := St.env_put (s := ⟨e, ds, S⟩) (d := some t) (v := conv (S.set a (.arr e' sz els.length g' els)) (frA (S.set a (.arr e' sz els.length g' els))) 4 (.sown a g n)) (S := S.set a (.arr e' sz els.length g' els)) (N := DS) (by simp [dstOk, hlt]) (Nat.le_refl _)
        have e3 : ∀ s : St, St.env ⟨s.e, ds, S.set a (.arr e' sz els.length g' els)⟩ = St.env ⟨s.e, ds, S⟩ := fun _ => rfl
        rw [show St.env ⟨(St.put ⟨e, ds, S⟩ (some t) (conv (S.set a (.arr e' sz els.length g' els)) (frA (S.set a (.arr e' sz els.length g' els))) 4 (.sown a g n)) (S.set a (.arr e' sz els.length g' els))).e, ds, S.set a (.arr e' sz els.length g' els)⟩ = upd (St.env ⟨e, ds, S⟩) t (conv (S.set a (.arr e' sz els.length g' els)) (frA (S.set a (.arr e' sz els.length g' els))) 4 (.sown a g n)) from e2] at this
        exact this
      · cases h
    · exact hf e ds S x s' h n0 k Q hQ hx
  · exact hf e ds S x s' h n0 k Q hQ hx
theorem frzL_ok {it : KI} {f : Kt} (hf : ∀ e ds S, OK1 P w0 N r dm e ds S it (f e ds S)) : ∀ (l : List Nat) (e : Tr) (ds : List AV) (S : List Blk), OK1 P w0 N r dm e ds S it (frzL l f e ds S)
  | [], e, ds, S => hf e ds S
  | _ :: l, e, ds, S => frz_ok (frzL_ok hf l) e ds S
theorem mk1_spec (x : AV) (S : List Blk) : ∃ S1, (∀ f, mk1 x f S = f S1) ∧ (∀ w0 ι ψ w, Rel w0 ι ψ S w → ∃ ψ', ψ.le ψ' ∧ Rel w0 ι ψ' S1 w) ∧ FrL S S1 := by
  unfold mk1
  split
  · next a g n =>
    split
    · next e' sz fz g' els hS =>
      refine ⟨S.set a (.arr e' sz els.length g' els), fun f => by rw [fBlk_eq, setB_eq], fun w0 ι ψ w h => ?_, FrL.set hS rfl⟩
      obtain ⟨ψ', h1, h2⟩ := markFull_sound h a
      refine ⟨ψ', h1, ?_⟩
      have : markFull S a = S.set a (.arr e' sz els.length g' els) := by simp [markFull, hS]
      rw [← this]; exact h2
    · exact ⟨S, fun _ => rfl, fun _ _ ψ _ h => ⟨ψ, Psi.le_refl _, h⟩, FrL.refl _⟩
  · exact ⟨S, fun _ => rfl, fun _ _ ψ _ h => ⟨ψ, Psi.le_refl _, h⟩, FrL.refl _⟩
theorem mkL1_spec : ∀ (l : List AV) (S : List Blk), ∃ S1, (∀ f, mkL1 l f S = f S1) ∧ (∀ w0 ι ψ w, Rel w0 ι ψ S w → ∃ ψ', ψ.le ψ' ∧ Rel w0 ι ψ' S1 w) ∧ FrL S S1
  | [], S => ⟨S, fun _ => rfl, fun _ _ ψ _ h => ⟨ψ, Psi.le_refl _, h⟩, FrL.refl _⟩
  | x :: l, S => by
    obtain ⟨S1, h1, h2, h3⟩ := mk1_spec x S
    obtain ⟨S2, k1, k2, k3⟩ := mkL1_spec l S1
    refine ⟨S2, fun f => ?_, fun w0 ι ψ w h => ?_, h3.trans k3⟩
    · show mk1 x (mkL1 l f) S = f S2
      rw [h1, k1]
    · obtain ⟨ψ1, a1, a2⟩ := h2 w0 ι ψ w h
      obtain ⟨ψ2, b1, b2⟩ := k2 w0 ι ψ1 w a2
      exact ⟨ψ2, Psi.le_trans a1 b1, b2⟩
theorem mkX_spec (x : AV) (S : List Blk) : ∃ S1, (∀ f, mkX x f S = f S1) ∧ (∀ w0 ι ψ w, Rel w0 ι ψ S w → ∃ ψ', ψ.le ψ' ∧ Rel w0 ι ψ' S1 w) ∧ FrL S S1 := by
  unfold mkX
  split
  · next a g n =>
    split
    · next e' sz fz g' els hS =>
      obtain ⟨S2, k1, k2, k3⟩ := mkL1_spec (els.flatMap AV.cells) (S.set a (.arr e' sz els.length g' els))
      refine ⟨S2, fun f => by rw [fBlk_eq, setB_eq, k1], fun w0 ι ψ w h => ?_, (FrL.set hS rfl).trans k3⟩
      obtain ⟨ψ', h1, h2⟩ := markFull_sound h a
      have : markFull S a = S.set a (.arr e' sz els.length g' els) := by simp [markFull, hS]
      rw [this] at h2
      obtain ⟨ψ2, b1, b2⟩ := k2 w0 ι ψ' w h2
      exact ⟨ψ2, Psi.le_trans h1 b1, b2⟩
    · exact ⟨S, fun _ => rfl, fun _ _ ψ _ h => ⟨ψ, Psi.le_refl _, h⟩, FrL.refl _⟩
  · exact ⟨S, fun _ => rfl, fun _ _ ψ _ h => ⟨ψ, Psi.le_refl _, h⟩, FrL.refl _⟩
theorem mkL_spec : ∀ (l : List AV) (S : List Blk), ∃ S1, (∀ f, mkL l f S = f S1) ∧ (∀ w0 ι ψ w, Rel w0 ι ψ S w → ∃ ψ', ψ.le ψ' ∧ Rel w0 ι ψ' S1 w) ∧ FrL S S1
  | [], S => ⟨S, fun _ => rfl, fun _ _ ψ _ h => ⟨ψ, Psi.le_refl _, h⟩, FrL.refl _⟩
  | x :: l, S => by
    obtain ⟨S1, h1, h2, h3⟩ := mkX_spec x S
    obtain ⟨S2, k1, k2, k3⟩ := mkL_spec l S1
    refine ⟨S2, fun f => ?_, fun w0 ι ψ w h => ?_, h3.trans k3⟩
    · show mkX x (mkL l f) S = f S2
      rw [h1, k1]
    · obtain ⟨ψ1, a1, a2⟩ := h2 w0 ι ψ w h
      obtain ⟨ψ2, b1, b2⟩ := k2 w0 ι ψ1 w a2
      exact ⟨ψ2, Psi.le_trans a1 b1, b2⟩
theorem relConvCells {w0 w : World} {ι : List Pl} {ψ : Psi} {S : List Blk} {b : Nat} {cs : List AV} {ty : Option TypeId} (h : Rel w0 ι ψ S w) (hS : S[b]? = some (.cells cs ty)) (hl : (cvL S cs).all AV.leaf = true) : Rel w0 ι ψ (S.set b (.cells (cvL S cs) ty)) w := by
  have hb : b < S.length := (List.getElem?_eq_some_iff.1 hS).1
  have hb2 : b < ι.length := by rw [h.len]; exact hb
  have hpl : ι[b]? = some ι[b] := List.getElem?_eq_getElem hb2
  obtain ⟨h0, ⟨c, T, h1, h2, h3⟩, h4, h5⟩ := h.blk b _ _ hS hpl
  have hset : ι.set b ι[b] = ι := set_self hpl
  have hlen : (cvL S cs).length = cs.length := by show (cs.map _).length = _; simp
  have key := h.update (w' := w) (ψ' := ψ) (B' := .cells (cvL S cs) ty) (pl' := ι[b]) hS hpl ⟨rfl, rfl, rfl, Nat.le_refl _, fun _ _ => rfl⟩ (fun _ _ _ => rfl) (by rw [hset]; exact Ext.refl _ _) ?_ (fun k hk => .inl hk) ?_ rfl
  · rw [hset] at key; exact key
  · rw [hset]
    refine ⟨h0, ⟨c, T, h1, by rw [hlen]; exact h2, fun j x hx => ⟨List.all_eq_true.1 hl x (List.mem_of_getElem? hx), ?_⟩⟩, h4, h5⟩
    replace hx : (cs.map (conv S (frA S) 4))[j]? = some x := hx
    rw [List.getElem?_map, Option.map_eq_some_iff] at hx
    obtain ⟨y, hy, rfl⟩ := hx
    obtain ⟨_, v, hv, hvr⟩ := h3 j y hy
    exact ⟨v, hv, conv_sound h (Psi.le_refl _) (frozen_full h) 4 y v hvr⟩
  · intro k o v hc
    by_cases hk : Blk.at ι[b] (.cells cs ty) = some k
    · exact .inr ⟨.inl hk, h.psi _ _ _ hc⟩
    · exact .inl ⟨hc, hk⟩
theorem frzC_ok {it : KI} {b : Nat} {f : Kt} (hf : ∀ e ds S, OK1 P w0 N r dm e ds S it (f e ds S)) (e : Tr) (ds : List AV) (S : List Blk) : OK1 P w0 N r dm e ds S it (frzC b f e ds S) := by
  intro x s' h n0 k Q hQ hx
  unfold frzC at h
  split at h
  · next cs ty0 hS =>
    obtain ⟨S1, h1, h2, _⟩ := mkL_spec cs S
    rw [h1] at h
    split at h
    · next cs1 ty hS1 =>
      rw [cvLK_eq] at h
      split at h
      · next hl =>
        rw [fBlk_eq, setB_eq] at h
        have go := hf _ _ _ x s' h n0 k Q hQ hx
        intro ι ψ w ac hR hE
        obtain ⟨ψ1, hle, hR1⟩ := h2 w0 ι ψ w hR
        have hext : Ext ι ψ ι ψ1 := ⟨(Ext.refl ι ψ).pl, hle⟩
        exact KI.mono (go ι ψ1 w ac (relConvCells hR1 hS1 hl) (hE.mono hext)) fun e a2 w2 hp => hp.chain (hext.take n0)
      · cases h
    · cases h
  · exact hf e ds S x s' h n0 k Q hQ hx
theorem frzM_ok {it : KI} {t : Nat} {f : Kt} (hf : ∀ e ds S, OK1 P w0 N r dm e ds S it (f e ds S)) (e : Tr) (ds : List AV) (S : List Blk) : OK1 P w0 N r dm e ds S it (frzM t f e ds S) := by
  unfold frzM
  split
  · exact frzC_ok hf e ds S
  · exact hf e ds S
theorem frzML_ok {it : KI} {f : Kt} (hf : ∀ e ds S, OK1 P w0 N r dm e ds S it (f e ds S)) : ∀ (l : List Nat) (e : Tr) (ds : List AV) (S : List Blk), OK1 P w0 N r dm e ds S it (frzML l f e ds S)
  | [], e, ds, S => hf e ds S
  | _ :: l, e, ds, S => frzM_ok (frzML_ok hf l) e ds S
theorem code_ok (hm : P.follows .mixedOrders = true) (hG : GOk G w0) (hN : N ≤ DS) (hR : CallOk P w0 R) (hC : CodeOk P w0 R) (hF : CodeFr R) (hF2 : CallFr R) (rf : Bool) (hrf : rf = true → r = none) : ∀ (c : Code) (e : Tr) (ds : List AV) (S : List Blk), OK1 P w0 N r dm e ds S (.code c) (codeX c P G R N rf dm e ds S) := by
  intro c
  induction c with
  | skip =>
    intro e ds S x s' h n0 k Q hQ hx
    cases h; exact x_skip hx
  | region id os b =>
    intro e ds S x s' h n0 k Q hQ hx
    replace h : Bool.rec (motive := fun _ => Res) none (Bool.rec (motive := fun _ => Res) (opsX P G R (rf && dm) os os.toList e ds S) (Bool.rec (motive := fun _ => Res) (frzL (cutT os.toList) (frzML (cutC os.toList) (regX P G R os)) e ds S) none dm) b) (regOk G N os) = some (x, s') := h
    cases hreg : regOk G N os with
    | false =>
      rw [hreg] at h
      cases h
    | true =>
      rw [hreg] at h
      cases b with
      | false => exact x_region (ops_ok (fun hd => hrf (by simp only [Bool.and_eq_true] at hd; exact hd.1)) hG hN hR hC hF _ (regOk_get hreg) e ds S x s' h n0 k Q hQ hx)
      | true =>
        cases dm with
        | true => cases h
        | false =>
          refine frzL_ok (f := frzML (cutC os.toList) (regX P G R os)) (frzML_ok (f := regX P G R os) (fun e ds S x s' h n0 k Q hQ hx => ?_) (cutC os.toList)) (cutT os.toList) e ds S x s' h n0 k Q hQ hx
          refine x_drawT hm (reg_ok hG hN hR hF2 (fun i o ho => regOk_get hreg o ?_) e ds S _ _ h n0 k Q (hQ rfl) hx [] (by simp) (downC_none os))
          rw [← Array.getElem?_toList] at ho
          exact List.mem_of_getElem? ho
  | seq a b iha ihb =>
    intro e ds S x s' h n0 k Q hQ hx
    exact x_seq (seq_ok (iha e ds S) ihb (h : seqR (codeX a P G R N rf dm e ds S) (codeX b P G R N rf dm) = some (x, s')) hQ hx)
  | cond c a b iha ihb =>
    intro e ds S x s' h n0 k Q hQ hx
    replace h : Bool.rec (motive := fun _ => Res) none (evK G e c fun v => asBool v (fun t => Bool.rec (motive := fun _ => Res) (codeX b P G R N rf dm e ds S) (codeX a P G R N rf dm e ds S) t) none) (okOp G c) = some (x, s') := h
    cases hc : okOp G c with
    | false => rw [hc] at h; cases h
    | true =>
      rw [hc] at h
      replace h : (evK G e c fun v => asBool v (fun t => Bool.rec (motive := fun _ => Res) (codeX b P G R N rf dm e ds S) (codeX a P G R N rf dm e ds S) t) none) = some (x, s') := h
      rw [evK_eq, asBool_eq, evT_eq (s := ⟨e, ds, S⟩) hG hc] at h
      split at h
      · next t ht =>
        cases t with
        | false => exact x_condF ht (ihb e ds S x s' h n0 k Q hQ hx)
        | true => exact x_condT ht (iha e ds S x s' h n0 k Q hQ hx)
      · cases h
  | block id c ih =>
    intro e ds S x s' h n0 k Q hQ hx
    have h : blkR (codeX c P G R N rf dm e ds S) id = some (x, s') := h
    rw [blkR_eq] at h
    refine x_block ?_
    split at h
    · next s1 h1 => cases h; exact ih e ds S _ _ h1 n0 _ Q hQ hx
    · next j s1 h1 =>
      refine ih e ds S _ _ h1 n0 _ Q hQ ?_
      simp only [RunX]
      split at h
      · next hj => rw [if_pos hj]; cases h; exact hx
      · next hj => rw [if_neg hj]; cases h; exact hx
    · next s1 h1 => cases h; exact ih e ds S _ _ h1 n0 _ Q hQ hx
    · next v s1 h1 => cases h; exact ih e ds S _ _ h1 n0 _ Q hQ hx
    · cases h
  | loop c ih =>
    intro e ds S x s' h n0 k Q hQ hx
    exact loop1_ok ih 100000 e ds S x s' h n0 k Q hQ hx
  | exit id =>
    intro e ds S x s' h n0 k Q hQ hx
    cases h; exact x_exit hx
  | ret =>
    intro e ds S x s' h n0 k Q hQ hx
    cases h; exact x_ret hx
  | label l =>
    intro e ds S x s' h n0 k Q hQ hx
    cases h; exact x_label hx
  | rangeFunc g ps asg body =>
    intro e ds S x s' h n0 k Q hQ hx
    have h : Bool.rec (motive := fun _ => Res) none (rngX G R N g ps asg body ⟨e, ds, S⟩) (rf && okOp G g) = some (x, s') := h
    cases hc : rf && okOp G g with
    | false => rw [hc] at h; cases h
    | true =>
      rw [hc] at h
      simp only [Bool.and_eq_true] at hc
      obtain rfl := hrf hc.1
      exact rng_ok hG hR g hc.2 ps asg body ⟨e, ds, S⟩ x s' h n0 k Q hQ hx
  | _ => intro e ds S x s' h; cases h
variable (P G) (T : Nat → List AV → List Blk → Option (AOut × List Blk)) (M : Nat → Bool)
def args0 (t : Tr) (i : Nat) : List AV → Tr
  | [] => t
  | x :: l => args0 (t.set (path i) x) (i + 1) l
noncomputable def outerB (n : Nat) (S : List Blk) : Bool := Nat.rec (motive := fun _ => List Blk → Bool) (fun _ => true) (fun _ ih S => List.rec (motive := fun _ => Bool) true (fun B S _ => ltCB n B && ih S) S) n S
theorem allTake (f : Blk → Bool) : ∀ (m : Nat) (S : List Blk), Nat.rec (motive := fun _ => List Blk → Bool) (fun _ => true) (fun _ ih S => List.rec (motive := fun _ => Bool) true (fun B S _ => f B && ih S) S) m S = (S.take m).all f
  | 0, S => by rw [List.take_zero]; rfl
  | m + 1, [] => rfl
  | m + 1, B :: S => by
    rw [List.take_succ_cons, List.all_cons, ← allTake f m S]
theorem outerB_eq (n : Nat) (S : List Blk) : outerB n S = (S.take n).all fun B => B.ltB n := by
  unfold outerB
  rw [allTake (ltCB n) n S]
  congr 1
  funext B
  exact ltCB_eq n B
noncomputable def takeB {β : Type} (n : Nat) (S : List Blk) (f : List Blk → β) : β :=
  Nat.rec (motive := fun _ => List Blk → (List Blk → β) → β) (fun _ f => f []) (fun _ ih S f => List.rec (motive := fun _ => β) (f []) (fun B S _ => ih S fun l => f (B :: l)) S) n S f
theorem takeB_eq {β : Type} : ∀ (n : Nat) (S : List Blk) (f : List Blk → β), takeB n S f = f (S.take n)
  | 0, S, f => by rw [List.take_zero]; rfl
  | n + 1, [], f => rfl
  | n + 1, B :: S, f => takeB_eq n S _
def refA : AV → Bool
  | .own .. => true
  | .oel .. => true
  | .sown .. => true
  | .mown .. => true
  | _ => false
def capR : AV → Bool
  | .fn _ f c => f.any refA || c.any refA
  | _ => false
noncomputable def endX (kp : Bool) (n : Nat) (mk : AV → AOut) (v : AV) (S : List Blk) : Option (AOut × List Blk) :=
  Bool.rec (motive := fun _ => Option (AOut × List Blk)) (cvR S n v (fun w => Bool.rec (motive := fun _ => Option (AOut × List Blk)) (fP2 v fun v => some (mk v, S)) (takeB n S fun S => some (mk w, S)) (outerB n S))
    (fun w => Bool.rec (motive := fun _ => Option (AOut × List Blk)) (fP2 v fun v => some (mk v, S)) (takeB n S fun S => some (mk w, S)) (outerB n S && ltR w n))) (fP2 v fun v => some (mk v, S)) (kp || capR v)
theorem endX_eq (kp : Bool) (n : Nat) (mk : AV → AOut) (v : AV) (S : List Blk) : endX kp n mk v S = if (!(kp || capR v) && (outerB n S && (conv S (fun a => decide (n ≤ a)) 4 v).lt n)) = true then some (mk (conv S (fun a => decide (n ≤ a)) 4 v), S.take n) else some (mk v, S) := by
  unfold endX
  cases hcap : (kp || capR v) with
  | true => exact fP2_eq _ _
  | false =>
  simp only [Bool.not_false, Bool.true_and]
  rw [cvR_eq]
  split
  · next h =>
    have hv : conv S (fun a => decide (n ≤ a)) 4 v = v := by simp [conv, h]
    rw [hv, AV.lt_of_noref n v (noref_of_plain v h), Bool.and_true]
    cases hb : outerB n S with
    | false => exact fP2_eq _ _
    | true => exact takeB_eq _ _ _
  · rw [ltR_eq]
    cases hb : (outerB n S && (conv S (fun a => decide (n ≤ a)) 4 v).lt n) with
    | false => exact fP2_eq _ _
    | true => exact takeB_eq _ _ _
noncomputable def leaveX (P : Program) (F : Func) (kp : Bool) (n : Nat) (x : AX) (s : St) : Option (AOut × List Blk) :=
  match leaveM s.ds s.S with
  | none => none
  | some S2 => match x with
    | .panic v => endX false n .panic v S2
    | .normal | .ret => match resVs P s.env S2 F.results.toList with
      | none => none
      | some vs => endX kp n .ret (oneOrTup vs) S2
    | _ => none
noncomputable def rOps (all : Array Oper) (l : List Oper) : Tr → List Blk → Res :=
  List.rec (motive := fun _ => Tr → List Blk → Res) (fun e S => some (.normal, ⟨e, [], S⟩)) (fun o _ ih e S => gdK all o e [] S (fun _ => stepK o.op P G e S (fun v S' => putK o.dst v S' e [] fun e _ S => ih e S) none) (fun _ => none)) l
noncomputable def endD (n : Nat) (v : AV) (S : List Blk) : Option (AOut × List Blk) :=
  cvR S n v (fun w => Bool.rec (motive := fun _ => Option (AOut × List Blk)) none (takeB n S fun S => some (.ret w, S)) (outerB n S))
    (fun w => Bool.rec (motive := fun _ => Option (AOut × List Blk)) none (takeB n S fun S => some (.ret w, S)) (outerB n S && ltR w n))
theorem endD_eq (n : Nat) (v : AV) (S : List Blk) : endD n v S = if (outerB n S && (conv S (fun a => decide (n ≤ a)) 4 v).lt n) = true then some (.ret (conv S (fun a => decide (n ≤ a)) 4 v), S.take n) else none := by
  unfold endD
  rw [cvR_eq]
  split
  · next h =>
    have hv : conv S (fun a => decide (n ≤ a)) 4 v = v := by simp [conv, h]
    rw [hv, AV.lt_of_noref n v (noref_of_plain v h), Bool.and_true]
    cases hb : outerB n S with
    | false => rfl
    | true => exact takeB_eq _ _ _
  · rw [ltR_eq]
    cases hb : (outerB n S && (conv S (fun a => decide (n ≤ a)) 4 v).lt n) with
    | false => rfl
    | true => exact takeB_eq _ _ _
def isRecover (o : Oper) : Bool := match o.op with
  | .call ⟨.builtin .recover, a, t⟩ => a.toList.isEmpty && (t.toList.isEmpty && o.guard.isNone)
  | _ => false
def isEnd (x : AX) : Bool := match x with | .normal => true | .ret => true | _ => false
noncomputable def afterD (R : Rec) (F : Func) (n : Nat) (s : St) (r : Res) : Option (AOut × List Blk) :=
  match r with
  | some (x, s2) => if isEnd x = true ∧ s2.ds.isEmpty = true ∧ outerB s.S.length s2.S = true then
      takeB s.S.length s2.S fun S3 => match resVs P s.env S3 F.results.toList with
        | some vs => endD n (oneOrTup vs) S3
        | none => none
      else none
  | none => none
noncomputable def dfrX (R : Rec) (F : Func) (n : Nat) (g : Nat) (A : List AV) (rv : AV) (s : St) : Option (AOut × List Blk) :=
  match P.funcs[g]? with
  | none => none
  | some H => match H.body with
    | some (.seq (.region _ ops false) rest) => match ops.toList with
      | [] => none
      | o0 :: l => match o0.dst with
        | none => none
        | some d => if (isRecover o0 = true ∧ d < H.ntmps ∧ H.ntmps ≤ DS) ∧ H.results.toList.isEmpty = true ∧ regL G H.ntmps l = true ∧ A.length ≤ H.ntmps then
            match rOps P G ops l ((args0 .nil 0 A).set (path d) rv) s.S with
            | some (_, s1) => afterD P R F n s (codeX rest P G R H.ntmps true false s1.e s1.ds s1.S)
            | none => none
          else none
    | _ => none
noncomputable def dfrF (c : Code) : Bool :=
  Code.rec (motive := fun _ => Bool) false (fun _ os _ => os.toList.any fun o => isDefer o.op) (fun _ _ a b => a || b) (fun _ _ _ a b => a || b) (fun _ _ a => a) (fun _ a => a) (fun _ _ _ _ _ _ => false) (fun _ => false) (fun _ _ => false) (fun _ => false) (fun _ => false) false (fun _ => false) c
noncomputable def bodyD (R : Rec) (F : Func) (c : Code) (args : List AV) (S : List Blk) : Option (AOut × List Blk) :=
  match codeX c P G R F.ntmps true true (args0 .nil 0 args) [] S with
  | some (x, s) => match s.ds with
    | [.fn (.func g) first cap] => match x with
      | .panic v => dfrX P G R F S.length g (first ++ cap) v s
      | .normal | .ret => dfrX P G R F S.length g (first ++ cap) .inil s
      | _ => none
    | _ => none
  | none => none
noncomputable def bodyX (R : Rec) (g : Nat) (args : List AV) (S : List Blk) : Option (AOut × List Blk) :=
  match P.funcs[g]? with
  | none => none
  | some F => match F.body with
    | none => none
    | some c => if args.length ≤ F.ntmps then (if dfrF c = true then bodyD P G R F c args S else (match codeX c P G R F.ntmps true false (args0 .nil 0 args) [] S with
        | some (x, s) => leaveX P F (M (g + 100000)) S.length x s
        | none => none)) else none
noncomputable def callX (R : Rec) (g : Nat) (args : List AV) (S : List Blk) : Option (AOut × List Blk) :=
  match T g args S with
  | some p => some p
  | none => match S with
    | [] => bodyX P G M R g args []
    | B :: S' => if (M g && plainCL args) = true then (match R.call g args [] with
        | some (o, []) => if AOut.solid o = true then some (o, B :: S') else none
        | _ => none) else bodyX P G M R g args (B :: S')
variable (X : Nat → List AV → Option AV)
noncomputable def lvl (n : Nat) : Rec := Nat.rec (motive := fun _ => Rec) ⟨fun _ _ _ => none, fun _ _ _ _ _ => none, fun _ _ => none⟩ (fun _ R => ⟨callX P G T M R, fun N c e ds S => codeX c P G R N false false e ds S, X⟩) n
end
end Go.Fen.Ex
namespace Go.Fen.Ex
open Go.RowKit Go.Fen
section
variable {P : Program} {G : Nat → AV} {T : Nat → List AV → List Blk → Option (AOut × List Blk)} {M : Nat → Bool} {w0 : World} {R : Rec}
theorem args0_get : ∀ (l : List AV) (t : Tr) (i u : Nat), Tr.get (path u) (args0 t i l) = if i ≤ u then (match l[u - i]? with
    | some x => x
    | none => Tr.get (path u) t) else Tr.get (path u) t
  | [], t, i, u => by simp [args0]
  | x :: l, t, i, u => by
    simp only [args0]
    rw [args0_get l]
    by_cases h : i + 1 ≤ u
    · rw [if_pos h, if_pos (by omega)]
      have e : u - i = (u - (i + 1)) + 1 := by omega
      rw [e, List.getElem?_cons_succ, Tr.get_set, if_neg (fun e => by have := path_inj e; omega)]
    · rw [if_neg h, Tr.get_set]
      by_cases h2 : u = i
      · subst h2; simp
      · rw [if_neg (fun e => h2 (path_inj e)), if_neg (by omega)]
theorem args0_env (args : List AV) (S : List Blk) : St.env ⟨args0 .nil 0 args, [], S⟩ = env0 args := by
  funext u
  simp only [St.env, env0]
  split
  · rfl
  · rw [args0_get, if_pos (Nat.zero_le _), Tr.get_nil, Nat.sub_zero]
    cases args[u]? <;> rfl
theorem outer_ok {S0 S : List Blk} (h : outerB S0.length S = true) : okOuter S0.length S0 S := fun j B hj hB => by
  right
  rw [outerB_eq] at h
  refine List.all_eq_true.1 h B (List.mem_of_getElem? (i := j) ?_)
  rw [List.getElem?_take, if_pos hj]; exact hB
theorem rOps_ok (hG : GOk G w0) {N : Nat} (hN : N ≤ DS) {all : Array Oper} : ∀ (l : List Oper) (e : Tr) (S : List Blk) (x : AX) (s' : St), (∀ o ∈ l, dstOk N o.dst = true ∧ o.op.operands.toList.all (okOp G) = true) → rOps P G all l e S = some (x, s') →
    s'.ds = [] ∧ runOps P w0 all N l (St.env ⟨e, [], S⟩) S = some (s'.env, s'.S)
  | [], e, S, x, s', _, h => by
    have h : some (AX.normal, (⟨e, [], S⟩ : St)) = some (x, s') := h
    cases h
    exact ⟨rfl, rfl⟩
  | o :: l, e, S, x, s', hl, h => by
    have h : (gdK all o e [] S (fun _ => stepK o.op P G e S (fun v S' => putK o.dst v S' e [] fun e _ S => rOps P G all l e S) none) (fun _ => none)) = some (x, s') := h
    obtain ⟨hd, hops⟩ := hl o (by simp)
    rw [gdK_eq] at h
    split at h
    · cases h
    · next hg =>
      simp only [stepK_eq, stdK] at h
      split at h
      · next p hs =>
        rw [stepF_congr (ρ := evalA w0 (St.env ⟨e, [], S⟩)) (evT_congr hG hops)] at hs
        rw [putK_eq o.dst p.1 p.2 e [] S] at h
        obtain ⟨h1, h2⟩ := rOps_ok hG hN l _ _ x s' (fun y hy => hl y (by simp [hy])) h
        refine ⟨h1, ?_⟩
        have e2 : St.env ⟨(St.put ⟨e, [], S⟩ o.dst p.1 p.2).e, [], p.2⟩ = putA (St.env ⟨e, [], S⟩) o.dst p.1 := by
          rw [← St.env_put (s := ⟨e, [], S⟩) (v := p.1) (S := p.2) hd hN]
          cases o.dst <;> rfl
        rw [e2] at h2
        obtain ⟨v, S2⟩ := p
        simp only [runOps, hg, hs, hd]
        exact h2
      · cases h
    · cases h
theorem isRecover_spec {o : Oper} (h : isRecover o = true) : o.op = .call ⟨.builtin .recover, #[], #[]⟩ ∧ o.guard = none := by
  unfold isRecover at h
  split at h
  · next a t ho =>
    simp only [Bool.and_eq_true, List.isEmpty_iff, Option.isNone_iff_eq_none] at h
    obtain ⟨h1, h2, h3⟩ := h
    have ha : a = #[] := by rw [← Array.toArray_toList (xs := a), h1]
    have ht : t = #[] := by rw [← Array.toArray_toList (xs := t), h2]
    subst ha ht
    exact ⟨ho, h3⟩
  · cases h
theorem dfr_ok (hm : P.follows .mixedOrders = true) (hP : ∀ (g : Nat) (F : Func), P.funcs[g]? = some F → (F.name == "runtime.NumGoroutine") = false ∧ F.ntmps ≤ DS) (hG : GOk G w0)
    (hR : CallOk P w0 R) (hC : CodeOk P w0 R) (hF : CodeFr R) (hF2 : CallFr R) {F : Func} {S0 : List Blk} {g : Nat} {A : List AV} {rv : AV} {s : St} {out : AOut} {S' : List Blk} (h : dfrX P G R F S0.length g A rv s = some (out, S')) :
    DRun P w0 g A rv s.S (ResOk P F S0 s.env fun o S2 => o = out ∧ S2 = S') := by
  unfold dfrX at h
  split at h
  · cases h
  · next H hf =>
    obtain ⟨hname, _⟩ := hP g H hf
    split at h
    · next id ops rest hb =>
      split at h
      · cases h
      · next o0 l hl =>
        split at h
        · cases h
        · next d hd =>
          split at h
          · next hc =>
            obtain ⟨⟨hrec, hdn, hN⟩, hres, hreg, hA⟩ := hc
            obtain ⟨hop, hgd⟩ := isRecover_spec hrec
            have hops : ops = (o0 :: l).toArray := by rw [← hl, Array.toArray_toList]
            subst hops
            split at h
            · next x1 s1 h1 =>
              obtain ⟨hds, hrun⟩ := rOps_ok hG hN l _ _ _ _ (regL_get hreg) h1
              have he : St.env ⟨(args0 .nil 0 A).set (path d) rv, [], s.S⟩ = upd (env0 A) d rv := by
                have := St.env_put (s := ⟨args0 .nil 0 A, [], s.S⟩) (d := some d) (v := rv) (S := s.S) (N := H.ntmps) (by simpa [dstOk] using hdn) hN
                simp only [St.put, putA] at this
                rw [this, args0_env]
              rw [he] at hrun
              unfold afterD at h
              split at h
              · next x s2 h2 =>
                split at h
                · next hc2 =>
                  obtain ⟨hx, hds2, hout⟩ := hc2
                  rw [takeB_eq] at h
                  split at h
                  · next vs hv =>
                    rw [endD_eq] at h
                    split at h
                    · next hc3 =>
                      cases h
                      simp only [Bool.and_eq_true] at hc3
                      refine ⟨H, id, o0, l, rest, _, d, s1.env, s1.S, hf, hname, hb, hop, hgd, rfl, hd, hdn, hA, hN, ?_, hrun, ?_⟩
                      · rw [← Array.toArray_toList (xs := H.results), List.isEmpty_iff.1 hres]
                      · have hs1 : s1.env = St.env ⟨s1.e, s1.ds, s1.S⟩ := rfl
                        rw [hs1]
                        refine code_ok (r := none) (dm := false) hm hG hN hR hC hF hF2 true (fun _ => rfl) rest _ _ _ x s2 h2 s.S.length [] _ (fun _ v e e' S he hq => by rcases hq.1 with h | h <;> cases h) ?_
                        have hres2 : (x = .normal ∨ x = .ret) ∧ s2.env DS = .dfr [] ∧ okOuter s.S.length s.S s2.S ∧ ResOk P F S0 s.env (fun o S2 => o = .ret (conv (s2.S.take s.S.length) (fun a => decide (S0.length ≤ a)) 4 (oneOrTup vs)) ∧ S2 = (s2.S.take s.S.length).take S0.length) (s2.S.take s.S.length) := by
                          refine ⟨?_, ?_, outer_ok hout, vs, hv, outer_ok hc3.1, hc3.2, rfl, rfl⟩
                          · cases x <;> first | exact .inl rfl | exact .inr rfl | cases hx
                          · simp [St.env, List.isEmpty_iff.1 hds2]
                        cases x <;> exact hres2
                    · cases h
                  · cases h
                · cases h
              · cases h
            · cases h
          · cases h
    · cases h
theorem body_ok (hm : P.follows .mixedOrders = true) (hP : ∀ (g : Nat) (F : Func), P.funcs[g]? = some F → (F.name == "runtime.NumGoroutine") = false ∧ F.ntmps ≤ DS) (hG : GOk G w0)
    (hR : CallOk P w0 R) (hC : CodeOk P w0 R) (hF : CodeFr R) (hF2 : CallFr R) :
    ∀ g args S out S', bodyX P G M R g args S = some (out, S') → ACall P w0 g args S (fun o S2 => o = out ∧ S2 = S') := by
  intro g args S out S' h
  unfold bodyX at h
  split at h
  · cases h
  · next F hf =>
    obtain ⟨hname, hN⟩ := hP g F hf
    split at h
    · cases h
    · next c hb =>
      split at h
      · next hargs =>
        split at h
        · -- a deferred closure
          unfold bodyD at h
          split at h
          · next x s hx =>
            have run : ∀ (Q : APost), Q x s.env s.S → RunX P w0 S.length F.ntmps none [.it (.code c)] Q .normal (env0 args) S := fun Q hq => by
              have := code_ok (r := none) (dm := true) hm hG hN hR hC hF hF2 true (fun _ => rfl) c _ _ _ x s hx S.length [] Q (fun e => by cases e) (by cases x <;> exact hq)
              rw [args0_env] at this
              exact this
            split at h
            · next g1 first cap hds =>
              have hds' : s.env DS = .dfr [.fn (.func g1) first cap] := by simp [St.env, hds]
              split at h
              · next v =>
                exact enterD hf hb hname hargs hN fun _ => run _ ⟨g1, first, cap, hds', dfr_ok hm hP hG hR hC hF hF2 h⟩
              · exact enterD hf hb hname hargs hN fun _ => run _ ⟨g1, first, cap, hds', dfr_ok hm hP hG hR hC hF hF2 h⟩
              · exact enterD hf hb hname hargs hN fun _ => run _ ⟨g1, first, cap, hds', dfr_ok hm hP hG hR hC hF hF2 h⟩
              · cases h
            · cases h
          · cases h
        split at h
        · next x s hx =>
          have run : ∀ (Q : APost), QDs Q → Q x s.env s.S → RunX P w0 S.length F.ntmps none [.it (.code c)] Q .normal (env0 args) S := fun Q hQ hq => by
            have := code_ok (r := none) (dm := false) hm hG hN hR hC hF hF2 true (fun _ => rfl) c _ _ _ x s hx S.length [] Q (fun _ => hQ) (by cases x <;> exact hq)
            rw [args0_env] at this
            exact this
          have hds : s.env DS = .dfr s.ds := by simp [St.env]
          unfold leaveX at h
          split at h
          · cases h
          · next S2 hl =>
            cases x with
            | panic v =>
              simp only [endX_eq] at h
              split at h
              · next hc =>
                cases h
                simp only [Bool.and_eq_true] at hc
                exact enter hf hb hname hargs hN fun _ => run _ qds_FPost ⟨s.ds, S2, hds, hl, outer_ok hc.2.1, hc.2.2, rfl, rfl⟩
              · cases h
                exact enterK hf hb hname hargs hN fun _ => run _ (fun v e e' S he ⟨ms, S1, a, b⟩ => ⟨ms, S1, he.trans a, b⟩) ⟨s.ds, _, hds, hl, rfl, rfl⟩
            | normal =>
              simp only at h
              split at h
              · cases h
              · next vs hv =>
                rw [endX_eq] at h
                split at h
                · next hc =>
                  cases h
                  simp only [Bool.and_eq_true] at hc
                  exact enter hf hb hname hargs hN fun _ => run _ qds_FPost ⟨s.ds, S2, vs, hds, hl, hv, outer_ok hc.2.1, hc.2.2, rfl, rfl⟩
                · cases h
                  exact enterK hf hb hname hargs hN fun _ => run _ (fun v e e' S he ⟨ms, S1, a, b⟩ => ⟨ms, S1, he.trans a, b⟩) ⟨s.ds, _, vs, hds, hl, hv, rfl, rfl⟩
            | ret =>
              simp only at h
              split at h
              · cases h
              · next vs hv =>
                rw [endX_eq] at h
                split at h
                · next hc =>
                  cases h
                  simp only [Bool.and_eq_true] at hc
                  exact enter hf hb hname hargs hN fun _ => run _ qds_FPost ⟨s.ds, S2, vs, hds, hl, hv, outer_ok hc.2.1, hc.2.2, rfl, rfl⟩
                · cases h
                  exact enterK hf hb hname hargs hN fun _ => run _ (fun v e e' S he ⟨ms, S1, a, b⟩ => ⟨ms, S1, he.trans a, b⟩) ⟨s.ds, _, vs, hds, hl, hv, rfl, rfl⟩
            | exit id => cases h
            | goto l => cases h
        · cases h
      · cases h
theorem call_ok (hm : P.follows .mixedOrders = true) (hP : ∀ (g : Nat) (F : Func), P.funcs[g]? = some F → (F.name == "runtime.NumGoroutine") = false ∧ F.ntmps ≤ DS) (hG : GOk G w0)
    (hT : ∀ g args S o S', T g args S = some (o, S') → ACall P w0 g args S (fun o2 S2 => o2 = o ∧ S2 = S')) (hR : ∀ w1, GOk G w1 → CallOk P w1 R) (hC : CodeOk P w0 R) (hF : CodeFr R) (hF2 : CallFr R) :
    ∀ g args S out S', callX P G T M R g args S = some (out, S') → ACall P w0 g args S (fun o S2 => o = out ∧ S2 = S') := by
  intro g args S out S' h
  unfold callX at h
  split at h
  · next o ho =>
    cases h
    exact hT g args S _ _ ho
  · split at h
    · exact body_ok hm hP hG (hR w0 hG) hC hF hF2 _ _ _ _ _ h
    · next B S1 =>
      split at h
      · next hc =>
        simp only [Bool.and_eq_true] at hc
        split at h
        · next o ho =>
          split at h
          · next hs =>
            cases h
            exact ACall.lift hG (fun w1 hG1 => (hR w1 hG1).1 _ _ _ _ _ ho) (norefL_of_plain _ (by rw [← plainCL_eq]; exact hc.2)) hs _
          · cases h
        · cases h
      · exact body_ok hm hP hG (hR w0 hG) hC hF hF2 _ _ _ _ _ h
theorem seq_fr {S0 : List Blk} {ra : Res} {f : Kt} (ha : ∀ x s', ra = some (x, s') → FrL S0 s'.S) (hf : Frk S0 f) {x : AX} {s' : St} (h : seqR ra f = some (x, s')) : FrL S0 s'.S := by
  rw [seqR_eq] at h
  split at h
  · next s1 => exact hf _ _ _ _ _ (ha _ _ rfl) h
  · next s1 => cases h; exact ha _ _ rfl
  · next s1 => cases h; exact ha _ _ rfl
  · next s1 => cases h; exact ha _ _ rfl
  · cases h
theorem loop_fr {S0 : List Blk} {f : Kt} (hf : Frk S0 f) : ∀ n, Frk S0 (loopK f n)
  | 0, _, _, _, x, s', _, h => by cases h
  | n + 1, e, ds, S, x, s', hS, h => seq_fr (fun x s' h => hf e ds S x s' hS h) (loop_fr hf n) (h : seqR (f e ds S) (loopK f n) = some (x, s'))
theorem jump_fr {s : St} {p : Option Code} {x : AX} {s' : St} (h : jumpX s p = some (x, s')) : FrL s.S s'.S := by
  unfold jumpX at h
  split at h <;> first | (cases h; done) | (cases h; exact FrL.refl _)
theorem frz_fr {S0 : List Blk} {t : Nat} {f : Kt} (hf : Frk S0 f) : Frk S0 (frzX t f) := fun e ds S x s' hS h => by
  unfold frzX at h
  split at h
  · split at h
    · next hS2 =>
      split at h
      · rw [fBlk_eq, setB_eq, cvK_eq] at h
        exact hf.put (hS.trans (FrL.set hS2 rfl)) h
      · cases h
    · exact hf _ _ _ _ _ hS h
  · exact hf _ _ _ _ _ hS h
theorem frzL_fr {S0 : List Blk} {f : Kt} (hf : Frk S0 f) : ∀ (l : List Nat), Frk S0 (frzL l f)
  | [] => hf
  | _ :: l => frz_fr (frzL_fr hf l)
theorem frzC_fr {S0 : List Blk} {b : Nat} {f : Kt} (hf : Frk S0 f) : Frk S0 (frzC b f) := fun e ds S x s' hS h => by
  unfold frzC at h
  split at h
  · next cs ty0 hS0 =>
    obtain ⟨S1, h1, _, h3⟩ := mkL_spec cs S
    rw [h1] at h
    split at h
    · next cs1 ty hS1 =>
      rw [cvLK_eq] at h
      split at h
      · rw [fBlk_eq, setB_eq] at h
        exact hf _ _ _ _ _ ((hS.trans h3).trans (FrL.set hS1 rfl)) h
      · cases h
    · cases h
  · exact hf _ _ _ _ _ hS h
theorem frzM_fr {S0 : List Blk} {t : Nat} {f : Kt} (hf : Frk S0 f) : Frk S0 (frzM t f) := fun e ds S x s' hS h => by
  unfold frzM at h
  split at h
  · exact frzC_fr hf _ _ _ _ _ hS h
  · exact hf _ _ _ _ _ hS h
theorem frzML_fr {S0 : List Blk} {f : Kt} (hf : Frk S0 f) : ∀ (l : List Nat), Frk S0 (frzML l f)
  | [] => hf
  | _ :: l => frzM_fr (frzML_fr hf l)
theorem code_fr (hF : CallFr R) (hC : CodeFr R) {N : Nat} {rf dm : Bool} {S0 : List Blk} : ∀ (c : Code), Frk S0 (codeX c P G R N rf dm) := by
  intro c
  induction c with
  | skip => intro e ds S x s' hS h; cases h; exact hS
  | region id os b =>
    intro e ds S x s' hS h
    replace h : Bool.rec (motive := fun _ => Res) none (Bool.rec (motive := fun _ => Res) (opsX P G R (rf && dm) os os.toList e ds S) (Bool.rec (motive := fun _ => Res) (frzL (cutT os.toList) (frzML (cutC os.toList) (regX P G R os)) e ds S) none dm) b) (regOk G N os) = some (x, s') := h
    cases hreg : regOk G N os with
    | false => rw [hreg] at h; cases h
    | true =>
      rw [hreg] at h
      cases b with
      | false => exact ops_fr hF hC _ _ _ _ _ _ hS h
      | true =>
        cases dm with
        | true => cases h
        | false => exact frzL_fr (frzML_fr (reg_fr hF) _) _ _ _ _ _ _ hS h
  | seq a b iha ihb =>
    intro e ds S x s' hS h
    exact seq_fr (fun x s' h => iha e ds S x s' hS h) ihb (h : seqR (codeX a P G R N rf dm e ds S) (codeX b P G R N rf dm) = some (x, s'))
  | cond c a b iha ihb =>
    intro e ds S x s' hS h
    replace h : Bool.rec (motive := fun _ => Res) none (evK G e c fun v => asBool v (fun t => Bool.rec (motive := fun _ => Res) (codeX b P G R N rf dm e ds S) (codeX a P G R N rf dm e ds S) t) none) (okOp G c) = some (x, s') := h
    cases hc : okOp G c with
    | false => rw [hc] at h; cases h
    | true =>
      rw [hc] at h
      replace h : (evK G e c fun v => asBool v (fun t => Bool.rec (motive := fun _ => Res) (codeX b P G R N rf dm e ds S) (codeX a P G R N rf dm e ds S) t) none) = some (x, s') := h
      rw [evK_eq, asBool_eq] at h
      split at h
      · next t ht =>
        cases t with
        | false => exact ihb _ _ _ _ _ hS h
        | true => exact iha _ _ _ _ _ hS h
      · cases h
  | block id c ih =>
    intro e ds S x s' hS h
    have h : blkR (codeX c P G R N rf dm e ds S) id = some (x, s') := h
    rw [blkR_eq] at h
    split at h
    · next h1 => cases h; exact ih _ _ _ _ _ hS h1
    · next h1 =>
      split at h
      · cases h; exact ih _ _ _ _ _ hS h1
      · cases h; exact ih _ _ _ _ _ hS h1
    · next h1 => cases h; exact ih _ _ _ _ _ hS h1
    · next h1 => cases h; exact ih _ _ _ _ _ hS h1
    · cases h
  | loop c ih =>
    intro e ds S x s' hS h
    have h : loopK (codeX c P G R N rf dm) 100000 e ds S = some (x, s') := h
    exact loop_fr ih 100000 _ _ _ _ _ hS h
  | exit id => intro e ds S x s' hS h; cases h; exact hS
  | ret => intro e ds S x s' hS h; cases h; exact hS
  | label l => intro e ds S x s' hS h; cases h; exact hS
  | rangeFunc g ps asg body =>
    intro e ds S x s' hS h
    have h : Bool.rec (motive := fun _ => Res) none (rngX G R N g ps asg body ⟨e, ds, S⟩) (rf && okOp G g) = some (x, s') := h
    cases hc : rf && okOp G g with
    | false => rw [hc] at h; cases h
    | true =>
      rw [hc] at h
      have h : rngX G R N g ps asg body ⟨e, ds, S⟩ = some (x, s') := h
      unfold rngX at h
      split at h
      · rw [fPL0_eq, appB_eq, fTm_eq, appB_eq] at h
        split at h
        · next v S' hc =>
          have f1 := hS.trans ((FrL.app _ _).trans ((FrL.app _ _).trans (hF _ _ _ _ _ hc)))
          split at h
          · next hS1 =>
            split at h
            · rw [setB_eq] at h
              exact f1.trans ((FrL.setLoop hS1).trans (jump_fr h))
            · cases h
          · cases h
        · next v S' hc => cases h; exact hS.trans ((FrL.app _ _).trans ((FrL.app _ _).trans (hF _ _ _ _ _ hc)))
        · cases h
      · cases h
  | _ => intro e ds S x s' hS h; cases h
theorem leave_fr : ∀ (ms : List AV) (S S2 : List Blk), leaveM ms S = some S2 → FrL S S2
  | [], S, S2, h => by cases h; exact FrL.refl _
  | m :: ms, S, S2, h => by
    cases m <;> simp only [leaveM] at h <;> try (cases h; done)
    split at h
    · next hS => exact (FrL.set hS rfl).trans (leave_fr ms _ _ h)
    · cases h
theorem end_fr {S S2 S' : List Blk} (h2 : FrL S S2) {mk : AV → AOut} {v : AV} {out : AOut} {kp : Bool} (h : endX kp S.length mk v S2 = some (out, S')) : FrL S S' := by
  rw [endX_eq] at h
  split at h
  · cases h; exact h2.take
  · cases h; exact h2
theorem rOps_fr {all : Array Oper} : ∀ (l : List Oper) (e : Tr) (S : List Blk) (x : AX) (s' : St), rOps P G all l e S = some (x, s') → FrL S s'.S
  | [], e, S, x, s', h => by
    have h : some (AX.normal, (⟨e, [], S⟩ : St)) = some (x, s') := h
    cases h; exact FrL.refl _
  | o :: l, e, S, x, s', h => by
    have h : (gdK all o e [] S (fun _ => stepK o.op P G e S (fun v S' => putK o.dst v S' e [] fun e _ S => rOps P G all l e S) none) (fun _ => none)) = some (x, s') := h
    rw [gdK_eq] at h
    split at h
    · cases h
    · simp only [stepK_eq, stdK] at h
      split at h
      · next p hs =>
        rw [putK_eq o.dst p.1 p.2 e [] S] at h
        exact (stepF_fr hs).trans (rOps_fr l _ _ _ _ h)
      · cases h
    · cases h
theorem dfr_fr (hF : CallFr R) (hC : CodeFr R) {F : Func} {S : List Blk} {g : Nat} {A : List AV} {rv : AV} {s : St} (hs : FrL S s.S) {out : AOut} {S' : List Blk} (h : dfrX P G R F S.length g A rv s = some (out, S')) : FrL S S' := by
  unfold dfrX at h
  split at h
  · cases h
  · split at h
    · split at h
      · cases h
      · split at h
        · cases h
        · split at h
          · split at h
            · next s1 h1 =>
              unfold afterD at h
              split at h
              · next x s2 h2 =>
                split at h
                · rw [takeB_eq] at h
                  split at h
                  · rw [endD_eq] at h
                    split at h
                    · cases h
                      have f1 := rOps_fr _ _ _ _ _ h1
                      have f2 : FrL s.S s2.S := code_fr hF hC _ _ _ _ _ _ f1 h2
                      exact (hs.trans f2.take).take
                    · cases h
                  · cases h
                · cases h
              · cases h
            · cases h
          · cases h
    · cases h
theorem body_fr (hF : CallFr R) (hC : CodeFr R) : ∀ g args S out S', bodyX P G M R g args S = some (out, S') → FrL S S' := by
  intro g args S out S' h
  unfold bodyX at h
  split at h
  · cases h
  · split at h
    · cases h
    · split at h
      · split at h
        · unfold bodyD at h
          split at h
          · next x s hx =>
            have f1 : FrL S s.S := code_fr hF hC _ _ _ _ _ _ (FrL.refl S) hx
            split at h
            · split at h
              · exact dfr_fr hF hC f1 h
              · exact dfr_fr hF hC f1 h
              · exact dfr_fr hF hC f1 h
              · cases h
            · cases h
          · cases h
        split at h
        · next x s hx =>
          have f1 : FrL S s.S := code_fr hF hC _ _ _ _ _ _ (FrL.refl S) hx
          unfold leaveX at h
          split at h
          · cases h
          · next S2 hl =>
            have f2 := f1.trans (leave_fr _ _ _ hl)
            split at h
            · exact end_fr f2 h
            all_goals first
              | (cases h; done)
              | (split at h
                 · cases h
                 · exact end_fr f2 h)
        · cases h
      · cases h
theorem call_fr (hTF : ∀ g args S o S', T g args S = some (o, S') → FrL S S') (hF : CallFr R) (hC : CodeFr R) : ∀ g args S out S', callX P G T M R g args S = some (out, S') → FrL S S' := by
  intro g args S out S' h
  unfold callX at h
  split at h
  · next p hp => cases h; exact hTF _ _ _ _ _ hp
  · split at h
    · exact body_fr hF hC _ _ _ _ _ h
    · split at h
      · split at h
        · split at h
          · cases h; exact FrL.refl _
          · cases h
        · cases h
      · exact body_fr hF hC _ _ _ _ _ h
variable {X : Nat → List AV → Option AV}
theorem lvl_fr (hTF : ∀ g args S o S', T g args S = some (o, S') → FrL S S') : ∀ n, CallFr (lvl P G T M X n) ∧ CodeFr (lvl P G T M X n)
  | 0 => ⟨fun _ _ _ _ _ h => (by cases h), fun _ _ _ _ _ _ _ h => (by cases h)⟩
  | n + 1 => ⟨call_fr hTF (lvl_fr hTF n).1 (lvl_fr hTF n).2, fun _ _ _ _ S _ _ h => code_fr (lvl_fr hTF n).1 (lvl_fr hTF n).2 _ _ _ _ _ _ (FrL.refl S) h⟩
theorem lvl_ok (hm : P.follows .mixedOrders = true) (hP : ∀ (g : Nat) (F : Func), P.funcs[g]? = some F → (F.name == "runtime.NumGoroutine") = false ∧ F.ntmps ≤ DS)
    (hTF : ∀ g args S o S', T g args S = some (o, S') → FrL S S') (hT : ∀ w0, GOk G w0 → ∀ g args S o S', T g args S = some (o, S') → ACall P w0 g args S (fun o2 S2 => o2 = o ∧ S2 = S')) (hX : ∀ w0, GOk G w0 → ∀ g A v, X g A = some v → XOk P w0 g A v) : ∀ n w0, GOk G w0 → CallOk P w0 (lvl P G T M X n) ∧ CodeOk P w0 (lvl P G T M X n)
  | 0, _, _ => ⟨⟨fun _ _ _ _ _ h => (by cases h), fun _ _ _ h => (by cases h)⟩, fun _ _ _ _ _ _ _ _ _ h => (by cases h)⟩
  | n + 1, w0, hG => by
    have ih := lvl_ok hm hP hTF hT hX n
    exact ⟨⟨call_ok hm hP hG (hT w0 hG) (fun w1 h1 => (ih w1 h1).1) (ih w0 hG).2 (lvl_fr hTF n).2 (lvl_fr hTF n).1, hX w0 hG⟩, fun N c e ds S hN r => code_ok (dm := false) hm hG hN (ih w0 hG).1 (ih w0 hG).2 (lvl_fr hTF n).2 (lvl_fr hTF n).1 false (fun e => by cases e) c e ds S⟩
end
end Go.Fen.Ex
namespace Go.Fen.Ex
open Go.RowKit Go.Fen
variable {P : Program} {w0 : World}
theorem ACall.marked {f : FuncId} {args args' : List AV} {S S1 : List Blk} {R : AOut → List Blk → Prop} (sh : List Nat) (hS : sh.foldl markFull S = S1) (hA : args.map (conv S1 (frA S1) 4) = args') (h : ACall P w0 f args' S1 R) : ACall P w0 f args S R := by
  subst hS hA
  refine ⟨h.1, fun ι ψ w cargs hR hl hv => ?_⟩
  obtain ⟨ψ1, hle, hR1⟩ := markAll_sound (w0 := w0) sh S ψ hR
  have hx : Ext ι ψ ι ψ1 := ⟨(Ext.refl ι ψ).pl, hle⟩
  refine (h.2 ι ψ1 w cargs hR1 (by simpa using hl) ?_).mono ?_
  · intro j x c hxj hc
    rw [List.getElem?_map, Option.map_eq_some_iff] at hxj
    obtain ⟨y, hy, rfl⟩ := hxj
    exact conv_sound hR1 (Psi.le_refl _) (frozen_full hR1) 4 y c ((hv j y c hy hc).mono hx)
  · rintro e w' ⟨ι', ψ', out, S', e1, e2, e3, e4⟩
    exact ⟨ι', ψ', out, S', hx.trans e1, e2, e3, e4⟩
end Go.Fen.Ex
namespace Go.Fen
open Go Go.RowKit
theorem run_copySelf {P : Program} {w : World} {ts e e' ty : TypeId} {sz b cap n m q : Nat} {cur : Array Value} (hu : P.underlying ts = some (.slice e)) (hse : sizeT P e = some sz) (hg : w.heap[b]? = some (.cells cur e' (0, 0))) (hq : q = min m (n - m)) (hm : m ≤ n) (hn : n ≤ cap) (hcs : cur.size = cap * sz)
    (hone : ∀ v ∈ cur.toList.take (q * sz), v.oneCell' = true) :
    (Builtin.copy_ #[ts, ts] ty #[.slice (some ⟨b, m * sz, none⟩) (n - m) (cap - m), .slice (some ⟨b, 0, none⟩) m cap]).run P w = .ok (goInt q) (w.setRow b (cur.toList.take (m * sz) ++ cur.toList.take (q * sz) ++ cur.toList.drop (m * sz + q * sz)).toArray) := by
  have hqm : q ≤ m := by omega
  have h1 : q * sz ≤ m * sz := Nat.mul_le_mul_right _ hqm
  have h2 : m * sz + q * sz ≤ cap * sz := by rw [← Nat.add_mul]; exact Nat.mul_le_mul_right _ (by omega)
  have hlen : (cur.toList.take (q * sz)).length = q * sz := by rw [List.length_take, Array.length_toList, hcs]; omega
  have hst := run_storeCells_at P b (m * sz) e' (cur.toList.take (q * sz)) 0 cur w hg (by rw [hlen, hcs]; omega) hone
  rw [hlen] at hst
  simp only [Nat.add_zero] at hst
  have hfc : (Builtin.firstCells sz q (.slice (some ⟨b, 0, none⟩) m cap)).run P w = .ok (cur.toList.take (q * sz)).toArray w := by
    refine run_firstCells_some w sz q ⟨b, 0, none⟩ m cap _ hlen fun j v hv => ?_
    rw [Addr.add_lit, Nat.zero_add]
    simp only [World.cell?, hg]
    rw [List.getElem?_take] at hv
    split at hv
    · simpa using hv
    · cases hv
  have hmin : Nat.min m (n - m) = q := hq.symm
  simp [Builtin.copy_, run_underlying hu, Builtin.lenOf, hmin, Go.Fen.run_sizeOf hse, hfc, hst]
theorem flat_take {els : List AV} {sz : Nat} (h : ∀ x ∈ els, x.cells.length = sz) (k : Nat) : flat (els.take k) = (flat els).take (k * sz) := by
  have e : flat els = flat (els.take k) ++ flat (els.drop k) := by rw [← flat_append, List.take_append_drop]
  have hl : (flat (els.take k)).length = (els.take k).length * sz := flat_length fun x hx => h x (List.mem_of_mem_take hx)
  by_cases hk : k ≤ els.length
  · rw [List.length_take, Nat.min_eq_left hk] at hl
    rw [e, List.take_append_of_le_length (Nat.le_of_eq hl.symm)]
    exact (List.take_of_length_le (Nat.le_of_eq hl)).symm
  · have hk : els.length ≤ k := by omega
    rw [List.take_of_length_le hk, List.take_of_length_le]
    rw [flat_length h]; exact Nat.mul_le_mul_right _ hk
theorem flat_drop {els : List AV} {sz : Nat} (h : ∀ x ∈ els, x.cells.length = sz) (k : Nat) : flat (els.drop k) = (flat els).drop (k * sz) := by
  have e : flat els = flat (els.take k) ++ flat (els.drop k) := by rw [← flat_append, List.take_append_drop]
  have h1 := flat_take h k
  have e2 := List.take_append_drop (k * sz) (flat els)
  rw [← h1] at e2
  exact List.append_cancel_left (e.symm.trans e2.symm)
theorem selfRel {w0 w : World} {ι : List Pl} {ψ : Psi} {S : List Blk} {a g sz b cap m q : Nat} {e : TypeId} {els : List AV} {pl : Pl} {cur : Array Value} (hR : Rel w0 ι ψ S w) (hS : S[a]? = some (.arr e sz 0 g els)) (hpl : ι[a]? = some pl)
    (hv : pl.sv = .slice (some ⟨b, 0, none⟩) els.length cap) (hg : w.heap[b]? = some (.cells cur e (0, 0))) (hqm : q ≤ m) (hmq : m + q ≤ els.length) :
    Rel w0 ι ψ (S.set a (.arr e sz 0 g (els.take m ++ els.take q ++ els.drop (m + q)))) (w.setRow b (cur.toList.take (m * sz) ++ cur.toList.take (q * sz) ++ cur.toList.drop (m * sz + q * sz)).toArray) := by
  obtain ⟨⟨hgen, hpsz⟩, hsize, hpos, hfz, ⟨xs, hown, hxs⟩, hps⟩ := hR.blk a _ pl hS hpl
  rcases hown.2 with ⟨hnil, hn0⟩ | ⟨b', cap', cur', hv', hbg, hgh, hnc, hcm, hcs, htake⟩
  · rw [hv] at hnil; cases hnil
  · rw [hv] at hv'
    simp only [Value.slice.injEq, Option.some.injEq, Addr.mk.injEq, and_true, true_and] at hv'
    obtain ⟨rfl, rfl⟩ := hv'
    rw [hg] at hgh
    cases hgh
    have h1 : q * sz ≤ m * sz := Nat.mul_le_mul_right _ hqm
    have h2 : m * sz + q * sz ≤ els.length * sz := by rw [← Nat.add_mul]; exact Nat.mul_le_mul_right _ hmq
    have h3 : els.length * sz ≤ cur.size := by rw [hcs]; exact Nat.mul_le_mul_right _ hnc
    have hset : ι.set a pl = ι := set_self hpl
    have hbk : pl.sv.ownBlock = some b := by rw [hv]; rfl
    have hlen' : (els.take m ++ els.take q ++ els.drop (m + q)).length = els.length := by simp; omega
    have hsize' : ∀ y ∈ els.take m ++ els.take q ++ els.drop (m + q), y.cells.length = sz := by
      intro y hy
      rcases List.mem_append.1 hy with hy | hy
      · rcases List.mem_append.1 hy with hy | hy <;> exact hsize y (List.mem_of_mem_take hy)
      · exact hsize y (List.mem_of_mem_drop hy)
    have hcl : (cur.toList.take (q * sz)).length = q * sz := by simp; omega
    have hfl : ((flat els).take (q * sz)).length = q * sz := by rw [List.length_take, flat_length hsize]; omega
    have hcget := fun j => getElem?_splice cur.toList (cur.toList.take (q * sz)) (m * sz) j (by rw [hcl]; simp; omega)
    rw [hcl] at hcget
    have hfget := fun j => getElem?_splice (flat els) ((flat els).take (q * sz)) (m * sz) j (by rw [hfl, flat_length hsize]; omega)
    rw [hfl] at hfget
    have hflat : flat (els.take m ++ els.take q ++ els.drop (m + q)) = (flat els).take (m * sz) ++ (flat els).take (q * sz) ++ (flat els).drop (m * sz + q * sz) := by
      rw [flat_append, flat_append, flat_take hsize, flat_take hsize, flat_drop hsize, Nat.add_mul]
    have key := hR.update (w' := w.setRow b (cur.toList.take (m * sz) ++ cur.toList.take (q * sz) ++ cur.toList.drop (m * sz + q * sz)).toArray) (ψ' := ψ) (B' := .arr e sz 0 g (els.take m ++ els.take q ++ els.drop (m + q))) (pl' := pl) hS hpl ?_ ?_ ?_ ?_ ?_ ?_ rfl
    · rw [hset] at key; exact key
    · exact ⟨rfl, rfl, rfl, by simp [World.setRow], fun k hk => setRow_other w _ k _ (by omega)⟩
    · intro k hk _
      exact setRow_other w _ k _ (fun e => hk (by subst e; exact hbk))
    · rw [hset]; exact Ext.refl _ _
    · rw [hset]
      refine ⟨⟨hgen, hpsz⟩, hsize', hpos, Nat.zero_le _, ⟨_, ⟨?_, .inr ⟨b, cap, _, by rw [hv, hlen'], hbg, setRow_heap w b cur _ e (0, 0) hg, by rw [hlen']; exact hnc, hcm, ?_, rfl⟩⟩, fun j x ex => ?_⟩, hps⟩
      · simp only [List.length_take, List.length_append, List.length_drop, Array.length_toList, hlen']; omega
      · simp; omega
      · simp only [List.getElem?_take]
        have hj : j < els.length * sz := by
          have := (List.getElem?_eq_some_iff.1 ex).1
          rw [flat_length hsize', hlen'] at this; exact this
        rw [if_pos (by rw [hlen']; exact hj), hcget j]
        rw [hflat, hfget j] at ex
        by_cases hin : m * sz ≤ j ∧ j < m * sz + q * sz
        · rw [if_pos hin] at ex ⊢
          rw [List.getElem?_take, if_pos (by omega)] at ex ⊢
          obtain ⟨hl, v, e1, e2, e3⟩ := hxs _ x ex
          rw [← htake, List.getElem?_take, if_pos (by omega)] at e1
          exact ⟨hl, v, e1, e2, fun hlt => by omega⟩
        · rw [if_neg hin] at ex ⊢
          obtain ⟨hl, v, e1, e2, e3⟩ := hxs _ x ex
          rw [← htake, List.getElem?_take, if_pos hj] at e1
          exact ⟨hl, v, e1, e2, fun hlt => by omega⟩
    · intro k hk
      exact .inl (by simpa [Blk.at] using hk)
    · intro b' o v hc
      by_cases hb : b' = b
      · subst hb
        have := hps b' o hbk (by omega)
        rw [this] at hc; cases hc
      · exact .inl ⟨hc, fun hk => hb (by simp only [Blk.at, hbk, Option.some.injEq] at hk; exact hk.symm)⟩
def regsOf : Code → List (Array Oper)
  | .region _ os _ => [os]
  | .seq a b => regsOf a ++ regsOf b
  | .cond _ a b => regsOf a ++ regsOf b
  | .block _ c => regsOf c
  | .loop c => regsOf c
  | _ => []
theorem ev_same {a : Act} {t : Nat} {v : Value} (h : t < a.tmps.size) : (a.put (some t) v).eval (.tmp t) = v := by
  simp [Act.eval, Act.put, Array.getD, h]
theorem ev_ne {a : Act} {t u : Nat} {v : Value} (h : t ≠ u) : (a.put (some t) v).eval (.tmp u) = a.eval (.tmp u) := by
  simp [Act.eval, Act.put, Array.getD_eq_getD_getElem?, Array.getElem?_setIfInBounds, h]
theorem sz_put {a : Act} {d : Option Nat} {v : Value} : (a.put d v).tmps.size = a.tmps.size := by
  cases d <;> simp [Act.put]
structure IsRep (ts ti : TypeId) (ops : Array Oper) : Prop where
  size : ops.size = 10
  ns : Region.noSelect ops = true
  o0 : ∃ o, ops[0]? = some o ∧ o.dst = some 38 ∧ o.op = .move (.tmp 8) ∧ o.guard = none
  o1 : ∃ o, ops[1]? = some o ∧ o.dst = some 39 ∧ o.op = .move (.tmp 7) ∧ o.guard = none
  o2 : ∃ o, ops[2]? = some o ∧ o.dst = some 40 ∧ o.op = .move (.tmp 8) ∧ o.guard = none
  o3 : ∃ o, ops[3]? = some o ∧ o.dst = some 41 ∧ o.op = .slice ts (.tmp 39) (some (.tmp 40)) none none ∧ o.guard = none
  o4 : ∃ o, ops[4]? = some o ∧ o.dst = some 42 ∧ o.op = .move (.tmp 7) ∧ o.guard = none
  o5 : ∃ o, ops[5]? = some o ∧ o.dst = some 43 ∧ o.op = .move (.tmp 8) ∧ o.guard = none
  o6 : ∃ o, ops[6]? = some o ∧ o.dst = some 44 ∧ o.op = .slice ts (.tmp 42) none (some (.tmp 43)) none ∧ o.guard = none
  o7 : ∃ o, ops[7]? = some o ∧ o.dst = some 45 ∧ o.op = .call ⟨.builtin .copy, #[.tmp 41, .tmp 44], #[ts, ts]⟩ ∧ o.guard = none
  o8 : ∃ o, ops[8]? = some o ∧ o.dst = some 46 ∧ o.op = .binOp .add ti (.tmp 38) (.tmp 45) ti ∧ o.guard = none
  o9 : ∃ o, ops[9]? = some o ∧ o.dst = some 8 ∧ o.op = .assign (.tmp 46) ∧ o.guard = none
  f0 : Region.free .any ops #[false, false, false, false, false, false, false, false, false, false] 0 = true ∧ (Region.ready .any ops #[false, false, false, false, false, false, false, false, false, false]).contains 0 = true
  f1 : Region.free .any ops #[true, false, false, false, false, false, false, false, false, false] 1 = true ∧ (Region.ready .any ops #[true, false, false, false, false, false, false, false, false, false]).contains 1 = true
  f2 : Region.free .any ops #[true, true, false, false, false, false, false, false, false, false] 2 = true ∧ (Region.ready .any ops #[true, true, false, false, false, false, false, false, false, false]).contains 2 = true
  f3 : Region.free .any ops #[true, true, true, false, false, false, false, false, false, false] 3 = true ∧ (Region.ready .any ops #[true, true, true, false, false, false, false, false, false, false]).contains 3 = true
  f4 : Region.free .any ops #[true, true, true, true, false, false, false, false, false, false] 4 = true ∧ (Region.ready .any ops #[true, true, true, true, false, false, false, false, false, false]).contains 4 = true
  f5 : Region.free .any ops #[true, true, true, true, true, false, false, false, false, false] 5 = true ∧ (Region.ready .any ops #[true, true, true, true, true, false, false, false, false, false]).contains 5 = true
  f6 : Region.free .any ops #[true, true, true, true, true, true, false, false, false, false] 6 = true ∧ (Region.ready .any ops #[true, true, true, true, true, true, false, false, false, false]).contains 6 = true
  r7 : Region.ready .any ops #[true, true, true, true, true, true, true, false, false, false] = [7]
  r8 : Region.ready .any ops #[true, true, true, true, true, true, true, true, false, false] = [8]
  r9 : Region.ready .any ops #[true, true, true, true, true, true, true, true, true, false] = [9]
  r10 : Region.ready .any ops #[true, true, true, true, true, true, true, true, true, true] = []
section
variable {P : Program} {ops : Array Oper} {Q : Exit → Act → World → Prop}
theorem take_pure {i : Nat} {o : Oper} {v : Value} {fuel : Nat} {listed : Array Bool} {a : Act} {w : World} (ho : ops[i]? = some o) (hg : o.guard = none) (hnc : ∀ c, o.op ≠ .call c) (hns : Region.noSelect ops = true)
    (hf : Region.free .any ops listed i = true ∧ (Region.ready .any ops listed).contains i = true) (hrun : ∀ w, (execOp a.eval o).run P w = .ok (.value v) w) (hQ : ∀ c a w, ¬ Q (.panic c) a w)
    (h : wpAnyIn (FR none) 0 P .any ops Q fuel (listed.setIfInBounds i true) (a.put o.dst v) w) : wpAnyIn (FR none) 0 P .any ops Q (fuel + 1) listed a w := by
  refine wpAnyIn_take (FR_round none) ho hns hf.1 hf.2 (fun c a w h => absurd h (hQ c _ w)) ⟨.inl ⟨?_, hrun⟩, fun w => ?_⟩ h
  · unfold Region.wanted
    simp [hg]
  · unfold Oper.about
    split
    · next c hc => exact absurd hc (hnc c)
    · rfl
theorem one_ready {i : Nat} {o : Oper} {v : Value} {fuel : Nat} {listed : Array Bool} {a : Act} {w w' : World} (hr : Region.ready .any ops listed = [i]) (ho : ops[i]? = some o) (hg : o.guard = none) (hnd : ∀ c, o.op ≠ .defer c)
    (hrun : (execOp a.eval o).run P w = .ok (.value v) w') (h : wpAnyIn (FR none) 0 P .any ops Q fuel (listed.setIfInBounds i true) (a.put o.dst v) w') : wpAnyIn (FR none) 0 P .any ops Q (fuel + 1) listed a w := by
  refine wpAnyIn_all hr (by simp) fun j hj => ?_
  obtain rfl : j = i := by simpa using hj
  unfold wpOpIn
  have hw : Region.wanted o (yielded ops a.tmps) = true := by
    unfold Region.wanted
    simp [hg]
  simp only [ho, hw, if_true]
  refine ⟨fun _ _ => trivial, ?_⟩
  rw [Oper.semAt_eq _ _ _ hnd, hrun]
  exact h
end
theorem x_selfCopy {P : Program} {w0 : World} {n0 id : Nat} {Q : APost} {k : List TI} {env : Env} {S : List Blk} {ts ti e e' : TypeId} {ops : Array Oper} {a g m n sz : Nat} {els : List AV} (hops : IsRep ts ti ops) (hm : P.follows .mixedOrders = true)
    (hu : P.underlying ts = some (.slice e')) (hse : sizeT P e' = some sz) (h7 : env 7 = .sown a g n) (h8 : env 8 = .int .i64 (m : Int)) (hS : S[a]? = some (.arr e sz 0 g els)) (hn : els.length = n) (hm0 : 0 < m) (hmn : m < n) (hsm : n ≤ 1000000)
    (h : RunX P w0 n0 48 none k Q .normal (putA (putA (putA (putA (putA (putA (putA (putA (putA (putA env (some 38) .junk) (some 39) .junk) (some 40) .junk) (some 41) .junk) (some 42) .junk) (some 43) .junk) (some 44) .junk) (some 45) .junk) (some 46) .junk) (some 8) (.int .i64 ((m + min m (n - m) : Nat) : Int)))
      (S.set a (.arr e sz 0 g (els.take m ++ els.take (min m (n - m)) ++ els.drop (m + min m (n - m)))))) :
    RunX P w0 n0 48 none (.it (.code (.region id ops true)) :: k) Q .normal env S := by
  subst hn
  intro ι ψ w ac hR hE
  have hsz : ac.tmps.size = 48 := hE.size
  have hv7 := hE.eval hR (.tmp 7)
  have hv8 := hE.eval hR (.tmp 8)
  rw [show evalA w0 env (.tmp 7) = env 7 from rfl, h7] at hv7
  rw [show evalA w0 env (.tmp 8) = env 8 from rfl, h8] at hv8
  have hc8 := hv8.int_inv
  generalize hc7 : ac.eval (.tmp 7) = c7 at hv7
  cases hv7 with
  | sown _ _ _ ad cap pl hpl hgl hs =>
  obtain ⟨⟨hgen, hpsz⟩, hsize, hpos, hfz, ⟨xs, hown, hxs⟩, hps⟩ := hR.blk a _ pl hS hpl
  have hsv := hs hgen.symm
  rcases hown.2 with ⟨hnil, hn0⟩ | ⟨b, cap', cur, hv, hbg, hgh, hnc, hcm, hcs, htake⟩
  · omega
  rw [hv] at hsv
  simp only [Value.slice.injEq] at hsv
  obtain ⟨rfl, _, rfl⟩ := hsv
  have hR1 : Rel w0 ι ψ S { w with drawn := w.drawn + 1 } := hR.same_heap rfl rfl rfl rfl
  refine wpIn_region_any hm ?_
  have hg0 : ({ w with drawn := w.drawn + 1 } : World).heap[b]? = some (.cells cur e (0, 0)) := hgh
  generalize ({ w with drawn := w.drawn + 1 } : World) = W1 at hR1 hg0 ⊢
  refine anyIn_monoQ (Q := fun e a w => match e with | .panic _ => False | e => Post w0 n0 48 ι ψ (RunX P w0 n0 48 none k Q) e a w) (fun e a w h => by cases e <;> first | exact h | exact h.elim) _ _ _ _ ?_
  rw [hops.size, show Array.replicate 10 false = #[false, false, false, false, false, false, false, false, false, false] from rfl]
  obtain ⟨o0, i0, d0, p0, g0⟩ := hops.o0
  obtain ⟨o1, i1, d1, p1, g1⟩ := hops.o1
  obtain ⟨o2, i2, d2, p2, g2⟩ := hops.o2
  obtain ⟨o3, i3, d3, p3, g3⟩ := hops.o3
  obtain ⟨o4, i4, d4, p4, g4⟩ := hops.o4
  obtain ⟨o5, i5, d5, p5, g5⟩ := hops.o5
  obtain ⟨o6, i6, d6, p6, g6⟩ := hops.o6
  obtain ⟨o7, i7, d7, p7, g7⟩ := hops.o7
  obtain ⟨o8, i8, d8, p8, g8⟩ := hops.o8
  obtain ⟨o9, i9, d9, p9, g9⟩ := hops.o9
  have nc : ∀ {o : Oper} {q : Op}, o.op = q → (∀ c, q ≠ .call c) → ∀ c, o.op ≠ .call c := fun h1 h2 c => by rw [h1]; exact h2 c
  have hcapm : m ≤ cap := by omega
  refine take_pure (v := .int .i64 (m : Int)) i0 g0 (nc p0 (by simp)) hops.ns hops.f0 (fun w => by simp [execOp, p0, hc8]) (fun _ _ _ h => h) ?_
  rw [d0]
  refine take_pure (v := .slice (some ⟨b, 0, none⟩) els.length cap) i1 g1 (nc p1 (by simp)) hops.ns hops.f1 (fun w => by simp only [execOp, p1]; rw [ev_ne (by decide), hc7]; rfl) (fun _ _ _ h => h) ?_
  rw [d1]
  refine take_pure (v := .int .i64 (m : Int)) i2 g2 (nc p2 (by simp)) hops.ns hops.f2 (fun w => by simp only [execOp, p2]; rw [ev_ne (by decide), ev_ne (by decide), hc8]; rfl) (fun _ _ _ h => h) ?_
  rw [d2]
  refine take_pure (v := .slice (some ⟨b, m * sz, none⟩) (els.length - m) (cap - m)) i3 g3 (nc p3 (by simp)) hops.ns hops.f3 (fun w => ?_) (fun _ _ _ h => h) ?_
  · have hb := bounds_none (P := P) (w := w) (lo := some (.int .i64 (m : Int))) (hi := none) (clo := some (.int .i64 (m : Int))) (chi := none) (len := els.length) (cap := cap) (y := els.length) (h := els.length) (l := m) (ι := ι) (ψ := ψ) true (.int _ _) trivial hnc rfl (by simp [bndA]; omega)
    simp only [execOp, p3, Option.map_some, Option.map_none]
    rw [ev_ne (by decide), ev_same (by simp only [sz_put, hsz]; decide), ev_same (by simp only [sz_put, hsz]; decide)]
    have hcm0 : ¬ cap = m := by omega
    simp [Instr.sliceAt, Instr.slice, run_underlying hu, hb, run_sizeOf hse, hcm0, Addr.add_lit]
  rw [d3]
  refine take_pure (v := .slice (some ⟨b, 0, none⟩) els.length cap) i4 g4 (nc p4 (by simp)) hops.ns hops.f4 (fun w => by simp only [execOp, p4]; rw [ev_ne (by decide), ev_ne (by decide), ev_ne (by decide), ev_ne (by decide), hc7]; rfl) (fun _ _ _ h => h) ?_
  rw [d4]
  refine take_pure (v := .int .i64 (m : Int)) i5 g5 (nc p5 (by simp)) hops.ns hops.f5 (fun w => by simp only [execOp, p5]; rw [ev_ne (by decide), ev_ne (by decide), ev_ne (by decide), ev_ne (by decide), ev_ne (by decide), hc8]; rfl) (fun _ _ _ h => h) ?_
  rw [d5]
  refine take_pure (v := .slice (some ⟨b, 0, none⟩) m cap) i6 g6 (nc p6 (by simp)) hops.ns hops.f6 (fun w => ?_) (fun _ _ _ h => h) ?_
  · have hb := bounds_none (P := P) (w := w) (lo := none) (hi := some (.int .i64 (m : Int))) (clo := none) (chi := some (.int .i64 (m : Int))) (len := els.length) (cap := cap) (y := cap) (h := m) (l := 0) (ι := ι) (ψ := ψ) true trivial (.int _ _) (Nat.le_refl _) (by simp [bndA]; omega) (by simp [bndA])
    simp only [execOp, p6, Option.map_some, Option.map_none]
    rw [ev_ne (by decide), ev_same (by simp only [sz_put, hsz]; decide), ev_same (by simp only [sz_put, hsz]; decide)]
    have hcm0 : ¬ cap = 0 := by omega
    simp [Instr.sliceAt, Instr.slice, run_underlying hu, hb, run_sizeOf hse, hcm0, Addr.add_lit]
  rw [d6]
  refine one_ready (v := .int .i64 ((min m (els.length - m) : Nat) : Int)) (w' := W1.setRow b (cur.toList.take (m * sz) ++ cur.toList.take (min m (els.length - m) * sz) ++ cur.toList.drop (m * sz + min m (els.length - m) * sz)).toArray) hops.r7 i7 g7 (fun c => by rw [p7]; simp) ?_ ?_
  · have hone : ∀ v ∈ cur.toList.take (min m (els.length - m) * sz), v.oneCell' = true := by
      intro v hv1
      obtain ⟨j, hj⟩ := List.getElem?_of_mem hv1
      have hq : min m (els.length - m) * sz ≤ els.length * sz := Nat.mul_le_mul_right _ (by omega)
      rw [List.getElem?_take] at hj
      split at hj
      · next hlt =>
        have hjf : j < (flat els).length := by rw [flat_length hsize]; omega
        obtain ⟨hl, v', e1, e2, _⟩ := hxs j _ (List.getElem?_eq_getElem hjf)
        rw [← htake, List.getElem?_take, if_pos (by omega), hj] at e1
        cases e1
        exact e2.oneCell hl
      · cases hj
    have hr := run_copySelf (P := P) (w := W1) (ts := ts) (ty := o7.type) (cap := cap) (n := els.length) (m := m) (q := min m (els.length - m)) hu hse hg0 rfl (by omega) hnc hcs hone
    have q1 : ∀ a : Act, a.tmps.size = 48 → ∀ v, (a.put (some 44) v).eval (.tmp 44) = v := fun a ha v => ev_same (by rw [ha]; decide)
    have q2 : ∀ a : Act, a.tmps.size = 48 → ∀ v, (a.put (some 41) v).eval (.tmp 41) = v := fun a ha v => ev_same (by rw [ha]; decide)
    simp only [goInt] at hr
    simp [execOp, p7, resolve, invoke, builtin, q1, q2, ev_ne, sz_put, hsz, hr]
  rw [d7]
  refine one_ready (v := .int .i64 ((m + min m (els.length - m) : Nat) : Int)) (w' := W1.setRow b (cur.toList.take (m * sz) ++ cur.toList.take (min m (els.length - m) * sz) ++ cur.toList.drop (m * sz + min m (els.length - m) * sz)).toArray) hops.r8 i8 g8 (fun c => by rw [p8]; simp) ?_ ?_
  · have hw2 : IntKind.i64.wrap ((m : Int) + ((min m (els.length - m) : Nat) : Int)) = ((m + min m (els.length - m) : Nat) : Int) := by
      rw [IntWalk.i64_in _ (by omega)]; omega
    simp only [execOp, p8]
    rw [ev_ne (by decide), ev_ne (by decide), ev_ne (by decide), ev_ne (by decide), ev_ne (by decide), ev_ne (by decide), ev_ne (by decide), ev_same (by simp only [hsz]; decide), ev_same (by simp only [sz_put, hsz]; decide)]
    obtain ⟨cv, hr, hcv⟩ := binA_sound (P := P) (w := W1.setRow b (cur.toList.take (m * sz) ++ cur.toList.take (min m (els.length - m) * sz) ++ cur.toList.drop (m * sz + min m (els.length - m) * sz)).toArray) (op := .add) (t := ti) (ox := .tmp 38) (oy := .tmp 45) (r := .int .i64 ((m + min m (els.length - m) : Nat) : Int)) (VR.int (ι := ι) (ψ := ψ) .i64 (m : Int)) (VR.int .i64 ((min m (els.length - m) : Nat) : Int)) (by simp [binA, intBinA, hw2])
    obtain rfl := hcv.int_inv
    rw [Sem.run_bind, hr]; rfl
  rw [d8]
  refine one_ready (v := .int .i64 ((m + min m (els.length - m) : Nat) : Int)) (w' := W1.setRow b (cur.toList.take (m * sz) ++ cur.toList.take (min m (els.length - m) * sz) ++ cur.toList.drop (m * sz + min m (els.length - m) * sz)).toArray) hops.r9 i9 g9 (fun c => by rw [p9]; simp) ?_ ?_
  · simp only [execOp, p9]
    rw [ev_same (by simp only [sz_put, hsz]; decide)]
    rfl
  rw [d9]
  refine wpAnyIn_done hops.r10 ?_ _
  have hR2 := selfRel (q := min m (els.length - m)) (m := m) hR1 hS hpl hv hg0 (by omega) (by omega)
  have hE1 : EnvR ι ψ 48 env ac := hE
  refine ⟨ι, ψ, .normal, _, _, (Ext.refl ι ψ).take n0, hR2, ?_, trivial, h⟩
  exact (((((((((hE1.putA (d := some 38) (.junk _) rfl).putA (d := some 39) (.junk _) rfl).putA (d := some 40) (.junk _) rfl).putA (d := some 41) (.junk _) rfl).putA (d := some 42) (.junk _) rfl).putA (d := some 43) (.junk _) rfl).putA (d := some 44) (.junk _) rfl).putA (d := some 45) (.junk _) rfl).putA (d := some 46) (.junk _) rfl).putA (d := some 8) (.int _ _) rfl
end Go.Fen
