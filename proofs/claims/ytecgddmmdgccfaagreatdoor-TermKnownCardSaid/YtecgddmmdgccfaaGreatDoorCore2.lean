/- YtecgddmmdgccfaaGreatDoorCore2. Texts of the proof of a law about texts: a layer of abstract values above the worlds, the types, the walks of the functions that the law reaches, the law and its card. Own work of an AI agent. -/
import Derived.Test.YtecgddmmdgccfaaGreatDoorCore1
import Derived.ProofKit
import Derived.Lib.LaidTab
import Derived.Carry
import Derived.Deep.DeepHandedRow
set_option linter.all false
set_option linter.unusedVariables false
set_option linter.unusedSimpArgs false
namespace Go.Fen
open Go.RowKit
section
variable {P : Program} {w0 w : World} {n0 N : Nat} {r : Option Nat} {Q : APost} {k : List TI} {env : Env} {S : List Blk} {ι : List Pl} {ψ : Psi}
theorem BRel.take {n0 n : Nat} {pl : Pl} {B : Blk} (h : BRel n0 ι ψ w pl B) (hB : B.ltB n = true) : BRel n0 (ι.take n) ψ w pl B := by
  cases B with
  | cells cs ty =>
    obtain ⟨h0, ⟨c, T, h1, h2, h3⟩, h4, h5⟩ := h
    refine ⟨h0, ⟨c, T, h1, h2, fun j x e => ?_⟩, h4, h5⟩
    obtain ⟨hl, v, hv, hr⟩ := h3 j x e
    exact ⟨hl, v, hv, hr.take (ltL_iff.1 hB x (List.mem_of_getElem? e))⟩
  | arr e sz fz g els =>
    obtain ⟨hg, hsz, hpos, hfz, ⟨xs, hown, hxs⟩, hps⟩ := h
    refine ⟨hg, hsz, hpos, hfz, ⟨xs, hown, fun j x e' => ?_⟩, hps⟩
    obtain ⟨hl, v, hv, hr, hro⟩ := hxs j x e'
    obtain ⟨el, he1, he2⟩ := flat_inv hsz hpos e'
    exact ⟨hl, v, hv, hr.take (lt_of_cells (ltL_iff.1 hB el (List.mem_of_getElem? he1)) he2), hro⟩
  | obj o => exact h
  | loop st pend N tm ps asg body =>
    obtain ⟨h0, ⟨fn, vs, d, h1, h2, h2'⟩, h3, h4⟩ := h
    exact ⟨h0, ⟨fn, vs, d, h1, h2, fun p hp => (h2' p hp).take (List.all_eq_true.1 hB p hp)⟩, h3, h4⟩
  | mp fz es =>
    obtain ⟨h0, hn, ⟨me, c, l, h1, h2, h3, h4, h5⟩, h6⟩ := h
    refine ⟨h0, hn, ⟨me, c, l, h1, h2, h3, ⟨h4.1, fun i e m he hm => ?_⟩, h5⟩, h6⟩
    have hme := ltP_iff.1 hB e (h3.mem_iff.1 (List.mem_of_getElem? he))
    obtain ⟨a, b⟩ := h4.2 i e m he hm
    exact ⟨a.take hme.1, b.take hme.2⟩
  | mit cur rest =>
    obtain ⟨h0, h1, h3, h4⟩ := h
    obtain ⟨q1, q2⟩ := mit_lt hB
    refine ⟨h0, ?_, h3, h4⟩
    rcases h1 with h1 | ⟨mb, ck, me, seen, l, k1, k2, k3, k4, k5⟩
    · exact .inl h1
    · refine .inr ⟨mb, ck, me, seen, l, k1, k2, k3, ⟨k4.1, fun i e m he hm => ?_⟩, fun e he => ?_⟩
      · have hme := ltP_iff.1 q1 e (k3.mem_iff.1 (List.mem_of_getElem? he))
        obtain ⟨a, b⟩ := k4.2 i e m he hm
        exact ⟨a.take hme.1, b.take hme.2⟩
      · obtain ⟨b, m, j1, j2, j3, j4⟩ := k5 e he
        exact ⟨b, m, j1, j2, j3.take (q2 e he).1, j4.take (q2 e he).2⟩
  | dead => trivial
theorem Rel.ren (h : Rel w0 ι ψ S w) {lo : Nat} {f g : Nat → Nat} (hlo : lo ≤ S.length) (hg0 : ∀ b, b < lo → g b = b) (hg : ∀ b, lo ≤ b → b < S.length → lo ≤ g b ∧ g b < S.length ∧ f (g b) = b)
    (hS : ∀ b, b < S.length → S[g b]? = S[b]?) (hlt : ∀ B ∈ S, B.ltB lo = true) :
    ∃ ι' : List Pl, ι'.length = ι.length ∧ (∀ b, b < ι.length → ι'[b]? = ι[g b]?) ∧ Ext (ι.take lo) ψ ι' ψ ∧ Rel w0 ι' ψ S w := by
  have hlen := h.len
  have hgl : ∀ b, b < ι.length → g b < ι.length := fun b hb => by
    by_cases hb0 : b < lo
    · rw [hg0 b hb0]; exact hb
    · have := (hg b (by omega) (by omega)).2.1; omega
  let ι' : List Pl := (List.range ι.length).map fun b => (ι[g b]?).getD ⟨0, 0, undef, 0⟩
  have hget : ∀ b, b < ι.length → ι'[b]? = ι[g b]? := fun b hb => by
    have h1 : g b < ι.length := hgl b hb
    simp only [ι', List.getElem?_map, List.getElem?_range hb, Option.map_some, List.getElem?_eq_getElem h1, Option.getD_some]
  have hl' : ι'.length = ι.length := by simp [ι']
  have hx : Ext (ι.take lo) ψ ι' ψ := by
    refine ⟨fun i p hp => ⟨p, ?_, rfl, Nat.le_refl _, fun _ => rfl⟩, Psi.le_refl _⟩
    rw [List.getElem?_take] at hp
    split at hp
    · next hi =>
      rw [hget i (by omega), hg0 i hi]; exact hp
    · cases hp
  refine ⟨ι', hl', hget, hx, h.below, h.psi, h.psim, by rw [hl', hlen], fun b B pl hB hpl => ?_, h.old, fun i j B C p q c hB hC hp hq hk1 hk2 => ?_⟩
  · have hb : b < ι.length := by rw [hlen]; exact (List.getElem?_eq_some_iff.1 hB).1
    rw [hget b hb] at hpl
    have hB' : S[g b]? = some B := (hS b (by omega)).trans hB
    have := (h.blk (g b) B pl hB' hpl).take (hlt B (List.mem_of_getElem? hB))
    exact this.ext hx (fun _ _ => rfl) (fun _ _ _ => rfl) (fun _ _ => rfl)
  · have hi : i < ι.length := by rw [hlen]; exact (List.getElem?_eq_some_iff.1 hB).1
    have hj : j < ι.length := by rw [hlen]; exact (List.getElem?_eq_some_iff.1 hC).1
    rw [hget i hi] at hp
    rw [hget j hj] at hq
    have e := h.inj (g i) (g j) B C p q c ((hS i (by omega)).trans hB) ((hS j (by omega)).trans hC) hp hq hk1 hk2
    by_cases h1 : i < lo <;> by_cases h2 : j < lo
    · rw [hg0 i h1, hg0 j h2] at e; exact e
    · rw [hg0 i h1] at e; have := (hg j (by omega) (by omega)).1; omega
    · rw [hg0 j h2] at e; have := (hg i (by omega) (by omega)).1; omega
    · have a := (hg i (by omega) (by omega)).2.2
      have b := (hg j (by omega) (by omega)).2.2
      rw [e, b] at a; exact a.symm
theorem x_ren {i : KI} {lo : Nat} {f g : Nat → Nat} (env' : Env) (hn : n0 ≤ lo) (hlo : lo ≤ S.length) (hg0 : ∀ b, b < lo → g b = b) (hg : ∀ b, lo ≤ b → b < S.length → lo ≤ g b ∧ g b < S.length ∧ f (g b) = b)
    (hf : ∀ a, lo ≤ a → a < S.length → f a < S.length ∧ g (f a) = a)
    (hS : ∀ b, b < S.length → S[g b]? = S[b]?) (hlt : ∀ B ∈ S, B.ltB lo = true) (hds : env' DS = env DS) (hdl : (env DS).lt lo = true)
    (he : ∀ t, env' t = .junk ∨ (env' t = env t ∧ (env t).lt lo = true) ∨ ∃ a off, lo ≤ a ∧ a < S.length ∧ env t = .own a off ∧ env' t = .own (f a) off)
    (h : RunX P w0 n0 N r (.it i :: k) Q .normal env' S) : RunX P w0 n0 N r (.it i :: k) Q .normal env S := by
  intro ι ψ w a hR hE
  obtain ⟨ι', hl', hget, hx, hR'⟩ := hR.ren hlo hg0 hg hS hlt
  have hlen := hR.len
  have tk : ∀ x, x.lt lo = true → ∀ c, VR ι ψ x c → VR ι' ψ x c := fun x hx' c hc => (hc.take hx').mono hx
  have hE' : EnvR ι' ψ N env' a := by
    refine ⟨hE.size, hE.bound, ?_, fun t => ?_⟩
    · obtain ⟨l, vs, h1, h2, h3, h4⟩ := hE.defers
      have hlt' : ltL lo l = true := by rw [h1] at hdl; exact hdl
      exact ⟨l, vs, hds.trans h1, h2, fun j x v hx' hv => tk x (ltL_iff.1 hlt' x (List.mem_of_getElem? hx')) v (h3 j x v hx' hv), h4⟩
    · rcases he t with h1 | ⟨h1, h2⟩ | ⟨b, off, h1, h2, h3, h4⟩
      · rw [h1]; exact .junk _
      · rw [h1]; exact tk _ h2 _ (hE.tmp t)
      · have hv := hE.tmp t
        rw [h3] at hv
        rw [h4]
        generalize a.tmps.getD t undef = c at hv
        cases hv with
        | own _ _ pl hpl =>
          obtain ⟨q1, q2⟩ := hf b h1 h2
          exact .own (f b) off pl (by rw [hget (f b) (by omega), q2]; exact hpl)
  refine KI.mono (h _ _ w a hR' hE') fun e a2 w2 hp => ?_
  obtain ⟨ι2, ψ2, x, env2, S2, h1, h2, h3, h4, h5⟩ := hp
  refine ⟨ι2, ψ2, x, env2, S2, ⟨fun j p hj => ?_, h1.psi⟩, h2, h3, h4, h5⟩
  refine h1.pl j p ?_
  rw [List.getElem?_take] at hj ⊢
  split at hj
  · next hj0 =>
    have hjl : j < ι.length := (List.getElem?_eq_some_iff.1 hj).1
    rw [hget j hjl, hg0 j (by omega), if_pos hj0]; exact hj
  · cases hj
def renOk (env : Env) (n : Nat) : List (Nat × Nat) → Prop
  | [] => True
  | (t, q) :: l => env t = .own (n + q) 0 ∧ renOk env n l
theorem renOk_get {env : Env} {n : Nat} : ∀ {l : List (Nat × Nat)}, renOk env n l → ∀ p ∈ l, env p.1 = .own (n + p.2) 0
  | [], _, p, hp => by cases hp
  | (t, q) :: l, h, p, hp => by
    rcases List.mem_cons.1 hp with rfl | hp
    · exact h.1
    · exact renOk_get h.2 p hp
def permEnv (n m : Nat) (sl : List Nat) (ren : List (Nat × Nat)) (env : Env) : Env := fun t =>
  if t = DS then env t else if sl.contains t then env t else if (ren.map Prod.fst).contains t then .own (n + (m + (ren.map Prod.fst).idxOf t)) 0 else .junk
theorem x_perm {i : KI} {S0 L1 : List Blk} {b : Blk} (hO : OuterOk S0) (n : Nat) (sl : List Nat) (ren : List (Nat × Nat)) (hn : n0 = S0.length) (hds : (env DS).lt (S0.length + L1.length) = true) (hL1 : L1.all (fun B => B.ltB (S0.length + L1.length)) = true) (hb : b.ltB (S0.length + L1.length) = true)
    (hr : renOk env S0.length ren) (hsl : sl.all (fun t => (env t).lt (S0.length + L1.length)) = true) (hp : (decide (ren.length = n) && decide (ren.map Prod.fst).Nodup && decide (ren.map Prod.snd).Nodup && (ren.all fun p => decide (L1.length ≤ p.2) && decide (p.2 < L1.length + n)) && (List.range' L1.length n).all fun q => (ren.map Prod.snd).contains q) = true)
    (h : RunX P w0 n0 N r (.it i :: k) Q .normal (permEnv S0.length L1.length sl ren env) (S0 ++ (L1 ++ List.replicate n b))) : RunX P w0 n0 N r (.it i :: k) Q .normal env (S0 ++ (L1 ++ List.replicate n b)) := by
  simp only [Bool.and_eq_true, decide_eq_true_eq, List.all_eq_true] at hp
  obtain ⟨⟨⟨⟨hlen, hnd1⟩, hnd2⟩, hall⟩, hsur0⟩ := hp
  generalize hT : ren.map Prod.snd = T at hnd2 hsur0
  generalize hU : ren.map Prod.fst = U at hnd1
  have hTl : T.length = n := by rw [← hT]; simpa using hlen
  have hTm : ∀ q ∈ T, L1.length ≤ q ∧ q < L1.length + n := by
    intro q hq
    rw [← hT] at hq
    obtain ⟨p, hp, rfl⟩ := List.mem_map.1 hq
    exact hall p hp
  have hsur : ∀ q, L1.length ≤ q → q < L1.length + n → q ∈ T := by
    intro q h1 h2
    have := hsur0 q (by rw [List.mem_range'_1]; omega)
    simpa using this
  have hSl : (S0 ++ (L1 ++ List.replicate n b)).length = S0.length + (L1.length + n) := by simp
  let lo := S0.length + L1.length
  let f : Nat → Nat := fun a => lo + T.idxOf (a - S0.length)
  let g : Nat → Nat := fun c => if c < lo then c else S0.length + (T[c - lo]?).getD 0
  have hgin : ∀ c, lo ≤ c → c < S0.length + (L1.length + n) → ∃ q, T[c - lo]? = some q ∧ g c = S0.length + q ∧ L1.length ≤ q ∧ q < L1.length + n := by
    intro c h1 h2
    have hc : c - lo < T.length := by rw [hTl]; simp only [lo] at h1 ⊢; omega
    refine ⟨T[c - lo], List.getElem?_eq_getElem hc, ?_, hTm _ (List.getElem_mem hc)⟩
    simp only [g]
    rw [if_neg (by omega), List.getElem?_eq_getElem hc]; rfl
  have hblk : ∀ c, lo ≤ c → c < S0.length + (L1.length + n) → (S0 ++ (L1 ++ List.replicate n b))[c]? = some b := by
    intro c h1 h2
    simp only [lo] at h1
    rw [List.getElem?_append_right (by omega), List.getElem?_append_right (by omega), List.getElem?_replicate, if_pos (by omega)]
  refine x_ren (lo := lo) (f := f) (g := g) _ (by simp only [lo]; omega) (by rw [hSl]; simp only [lo]; omega) (fun c hc => by simp only [g]; rw [if_pos hc]) (fun c h1 h2 => ?_) (fun a h1 h2 => ?_) (fun c hc => ?_) (fun B hB => ?_) (by simp [permEnv]) hds (fun t => ?_) h
  · rw [hSl] at h2
    obtain ⟨q, q1, q2, q3, q4⟩ := hgin c h1 h2
    refine ⟨by rw [q2]; simp only [lo]; omega, by rw [q2, hSl]; omega, ?_⟩
    have hc : c - lo < T.length := (List.getElem?_eq_some_iff.1 q1).1
    have hq : T[c - lo] = q := (List.getElem?_eq_some_iff.1 q1).2
    simp only [f]
    rw [q2, show S0.length + q - S0.length = q by omega, ← hq, hnd2.idxOf_getElem _ hc]
    simp only [lo] at h1 ⊢; omega
  · rw [hSl] at h2
    simp only [lo] at h1
    have hm : a - S0.length ∈ T := hsur _ (by omega) (by omega)
    have hi := List.idxOf_lt_length_of_mem hm
    refine ⟨by simp only [f, lo]; rw [hSl]; omega, ?_⟩
    simp only [g, f]
    rw [if_neg (by omega), show lo + T.idxOf (a - S0.length) - lo = T.idxOf (a - S0.length) by omega, List.getElem?_eq_getElem hi, List.getElem_idxOf]
    simp only [Option.getD_some]; omega
  · rw [hSl] at hc
    by_cases h1 : c < lo
    · simp only [g]; rw [if_pos h1]
    · obtain ⟨q, q1, q2, q3, q4⟩ := hgin c (by omega) hc
      rw [hblk c (by omega) hc, hblk (g c) (by rw [q2]; simp only [lo]; omega) (by rw [q2]; omega)]
  · rcases List.mem_append.1 hB with hB | hB
    · obtain ⟨j, hj⟩ := List.getElem?_of_mem hB
      exact Blk.ltB_mono (by simp only [lo]; omega) (hO j B hj)
    · rcases List.mem_append.1 hB with hB | hB
      · exact List.all_eq_true.1 hL1 B hB
      · rw [List.eq_of_mem_replicate hB]; exact hb
  · unfold permEnv
    split
    · next ht => subst ht; exact .inr (.inl ⟨rfl, hds⟩)
    split
    · next ht => exact .inr (.inl ⟨rfl, List.all_eq_true.1 hsl t (by simpa using ht)⟩)
    split
    · next ht =>
      right; right
      have hm : t ∈ ren.map Prod.fst := by simpa using ht
      have hi := List.idxOf_lt_length_of_mem hm
      have hget : (ren.map Prod.fst)[(ren.map Prod.fst).idxOf t] = t := List.getElem_idxOf hi
      generalize hj : (ren.map Prod.fst).idxOf t = j at hi hget
      have hjr : j < ren.length := by simpa using hi
      have hp : ren[j].1 = t := by simpa using hget
      have hpm : ren[j] ∈ ren := List.getElem_mem hjr
      have hev := renOk_get hr _ hpm
      rw [hp] at hev
      obtain ⟨b1, b2⟩ := hall _ hpm
      refine ⟨S0.length + ren[j].2, 0, by simp only [lo]; omega, by rw [hSl]; omega, hev, ?_⟩
      have hTj : T[j]'(by omega) = ren[j].2 := by simp [← hT]
      have : T.idxOf ren[j].2 = j := by rw [← hTj]; exact hnd2.idxOf_getElem _ (by omega)
      simp only [f, lo]
      rw [show S0.length + ren[j].2 - S0.length = ren[j].2 by omega, this, Nat.add_assoc]
    · exact .inl rfl
end
section
variable {P : Program} {w0 : World} {n0 N : Nat} {r : Option Nat} {Q : APost} {k : List TI} {env : Env} {S : List Blk}
variable {ops : Array Oper} {f : Nat} {listed : Array Bool} {prot : List (Nat × List Nat)}
def ReadyX (P : Program) (w0 : World) (n0 N : Nat) (r : Option Nat) (ops : Array Oper) (k : List TI) (Q : APost) (f : Nat) (listed : Array Bool) (prot : List (Nat × List Nat)) (env : Env) (S : List Blk) (i : Nat) : Prop :=
  ∀ j ∈ Region.ready .any ops listed, i ≤ j → OpA P w0 N ops Q j (fun env' S' => ProtL ops j prot S S' ∧ AnyP P w0 n0 N r ops k Q f (listed.setIfInBounds j true) prot env' S') env S
theorem c_0 (_h0 : (match Region.ready .any ops listed with | [] => false | [_] => false | _ => true) = true) (h : ReadyX P w0 n0 N r ops k Q f listed prot env S 0) : AnyP P w0 n0 N r ops k Q (f + 1) listed prot env S :=
  ⟨fun e => (by rw [e] at _h0; cases _h0), fun j hj => h j hj (Nat.zero_le _)⟩
theorem c_end {i : Nat} (h0 : (Region.ready .any ops listed).all (fun j => decide (j < i)) = true) : ReadyX P w0 n0 N r ops k Q f listed prot env S i :=
  fun j hj hi => by have := List.all_eq_true.1 h0 j hj; simp at this; omega
theorem c_out {i : Nat} (h0 : (!(Region.ready .any ops listed).contains i && (Region.ready .any ops listed).any fun j => decide (i < j)) = true) (h : ReadyX P w0 n0 N r ops k Q f listed prot env S (i + 1)) : ReadyX P w0 n0 N r ops k Q f listed prot env S i :=
  fun j hj hi => by
    by_cases e : j = i
    · subst e
      have : (Region.ready .any ops listed).contains j = true := by simpa using hj
      rw [this] at h0; cases h0
    · exact h j hj (by omega)
theorem c_in {i : Nat} (h : OpA P w0 N ops Q i (fun env' S' => ProtL ops i prot S S' ∧ AnyP P w0 n0 N r ops k Q f (listed.setIfInBounds i true) prot env' S') env S) (h' : ReadyX P w0 n0 N r ops k Q f listed prot env S (i + 1)) : ReadyX P w0 n0 N r ops k Q f listed prot env S i :=
  fun j hj hi => by
    by_cases e : j = i
    · subst e; exact h
    · exact h' j hj (by omega)
end
end Go.Fen
namespace Go.Fen
open Go.RowKit
section
variable {P : Program} {w0 : World} {n0 N : Nat} {r : Option Nat} {Q : APost} {k : List TI} {env : Env} {S : List Blk} {all : Array Oper} {l : List Oper} {dst : Option Nat} {v : AV} {K : Env → List Blk → Prop}
theorem ac_ret (h : RunX P w0 n0 N r (.it (.ops all l) :: k) Q .normal (putA env dst v) S) : afterCall P w0 n0 N r all l k Q env dst (.ret v) S := h
theorem ac_panic (h : RunX P w0 n0 N r k Q (.panic v) env S) : afterCall P w0 n0 N r all l k Q env dst (.panic v) S := h
theorem ao_ret (h : K (putA env dst v) S) : afterOp Q K env dst (.ret v) S := h
theorem ao_panic (h : Q (.panic v) env S) : afterOp Q K env dst (.panic v) S := h
end
theorem st {G K : Prop} (h : K) (run : Hid K → G := by
  intro kk
  first
  | (first | apply x_seq | apply x_skip | apply x_block | apply x_exit | apply x_ret | apply x_ops_nil | apply p_blk | apply p_exit_it | apply p_exit_hit | apply p_ret_it | apply p_ret_blk | apply p_panic_it | apply p_panic_blk | apply p_end | fail); exact kk.out
  | apply p_exit_miss; (· rfl); exact kk.out
  | apply x_region; simp only [List.toList_toArray]; exact kk.out
  | apply x_step0; (· rfl); (· simp only [go_sem, *]; try rfl); (· rfl); simp only [putA]; exact kk.out
  | apply x_panic; (· simp only [go_sem, *]; try rfl); (· rfl); (· simp only [go_sem, *]; try rfl); exact kk.out
  | apply x_step; (iterate 2 (· simp only [go_sem, *]; try rfl)); (· rfl); simp only [putA]; exact kk.out
  | apply x_unwanted; (· simp only [go_sem, *]; try rfl); (· rfl); simp only [putA]; exact kk.out
  | apply x_condT; (· simp only [go_sem, *]; try rfl); exact kk.out
  | apply x_condF; (· simp only [go_sem, *]; try rfl); exact kk.out
  | apply ac_ret; simp only [putA]; exact kk.out
  | apply ac_panic; exact kk.out
  | fail) : G := run h
theorem sd {G K : Prop} (h : K) (run : Hid K → G := by
  intro kk
  first
  | apply d_draw; (· exact mixed); (· simp only [List.size_toArray, List.length_cons, List.length_nil, Nat.reduceAdd]; try rfl); exact kk.out
  | apply d_done; (· decide +kernel); exact kk.out
  | apply a_0; (repeat (apply a_s; (· decide +kernel))); apply a_take; (· decide +kernel); (· first | exact qds_FPost | exact qds_RPost | exact qds_YB | assumption); (· rfl); (iterate 3 (· simp only [go_sem, *]; try rfl)); (· rfl); (· simp only [go_sem, *]; try rfl); simp only [putA]; exact kk.out
  | apply a_0; (repeat (apply a_s; (· decide +kernel))); apply a_unw; (· decide +kernel); (· first | exact qds_FPost | exact qds_RPost | exact qds_YB | assumption); (· rfl); (iterate 2 (· simp only [go_sem, *]; try rfl)); (· rfl); simp only [putA]; exact kk.out
  | apply a_0; (repeat (apply a_o; (· decide +kernel))); apply a_one; (· decide +kernel); exact kk.out
  | apply c_0; (· decide +kernel); exact kk.out
  | apply c_out; (· decide +kernel); exact kk.out
  | apply o_step; (iterate 3 (· simp only [go_sem, *]; try rfl)); (· rfl); simp only [putA]; exact kk.out
  | apply o_unw; (iterate 2 (· simp only [go_sem, *]; try rfl)); (· rfl); simp only [putA]; exact kk.out
  | apply ao_ret; simp only [putA]; exact kk.out
  | apply ao_panic; exact kk.out
  | apply pr_nil; exact kk.out
  | apply pr_same; exact kk.out
  | apply pl_none; exact kk.out
  | apply pl_skip; (· decide +kernel); exact kk.out
  | apply pl_one; (· simp only [go_sem, *]; try rfl); exact kk.out
  | fail) : G := run h
theorem sx {G K : Prop} (h : K) (run : Hid K → G := by
  intro kk
  first
  | apply a_0; (repeat (apply a_s; (· decide +kernel))); apply a_takeD; (· decide +kernel); (iterate 3 (· simp only [go_sem, *]; try rfl)); (· rfl); (· first | rfl | decide +kernel); (· simp only [go_sem, *]; try rfl); simp only [putA]; exact kk.out
  | apply pl_skip2; (· decide +kernel); exact kk.out
  | fail) : G := run h
theorem bnn (b : Bool) : (((!b) = true) = (b = false)) ∧ (((!b) = false) = (b = true)) := by cases b <;> simp
theorem br {G K L : Prop} (h : K) (h' : L) (run : Hid K → Hid L → G := by
  intro kk ll
  first
  | apply x_guardS; (· rfl); (fail_if_success (focus (show _ = some true; (· simp only [go_sem, *]; try rfl)))); (· simp only [go_sem, *]; try rfl); (· intro hb; (try simp only [bnn] at hb); revert hb; exact kk.out); (intro hb; (try simp only [bnn] at hb); revert hb; exact ll.out)
  | apply x_condS; (· simp only [go_sem, *]; try rfl); (· intro hb; (try simp only [bnn] at hb); revert hb; exact kk.out); (intro hb; (try simp only [bnn] at hb); revert hb; exact ll.out)
  | fail) : G := run h h'
theorem bd {G K L : Prop} (h : K) (h' : L) (run : Hid K → Hid L → G := by
  intro kk ll
  first
  | apply pr_go; (· exact kk.out); exact ll.out
  | apply c_in; (· exact kk.out); exact ll.out
  | fail) : G := run h h'
theorem ca {G K : Prop} (h : K) (run : Hid K → G := by
  intro kk
  first
  | apply x_callA []; (· simp only [go_sem, *]; try rfl); (· rfl); (· simp only [go_sem, *]; try rfl); (· rfl); (iterate 2 (· simp only [go_sem, *]; try rfl)); exact kk.out
  | fail) : G := run h
theorem cd {G K : Prop} (h : K) (run : Hid K → G := by
  intro kk
  first
  | apply o_call []; (iterate 2 (· simp only [go_sem, *]; try rfl)); (· rfl); (· simp only [go_sem, *]; try rfl); (· rfl); (iterate 2 (· simp only [go_sem, *]; try rfl)); exact kk.out
  | fail) : G := run h
theorem fR {G K p : Prop} (hr : p) (h : K) (run : Hid p → Hid K → G := by
  intro rr kk
  apply f_ret
  iterate 7 (· simp only [go_sem, *, rr.out]; try rfl)
  exact kk.out) : G := run hr h
theorem fE {G K p : Prop} (hr : p) (h : K) (run : Hid p → Hid K → G := by
  intro rr kk
  apply f_end
  iterate 7 (· simp only [go_sem, *, rr.out]; try rfl)
  exact kk.out) : G := run hr h
theorem fP {G K : Prop} (h : K) (run : Hid K → G := by
  intro kk
  apply f_panic
  iterate 6 (· simp only [go_sem, *]; try rfl)
  exact kk.out) : G := run h
theorem fRX {G A B K p : Prop} (hr : p) (hO : A) (hl : B) (h : K) (run : Hid p → Hid A → Hid B → Hid K → G := by
  intro rr aa bb kk
  apply f_retX
  iterate 5 (· simp only [go_sem, *, rr.out]; try rfl)
  · exact aa.out
  · exact bb.out
  exact kk.out) : G := run hr hO hl h
theorem fEX {G A B K p : Prop} (hr : p) (hO : A) (hl : B) (h : K) (run : Hid p → Hid A → Hid B → Hid K → G := by
  intro rr aa bb kk
  apply f_endX
  iterate 5 (· simp only [go_sem, *, rr.out]; try rfl)
  · exact aa.out
  · exact bb.out
  exact kk.out) : G := run hr hO hl h
theorem fPX {G A B K : Prop} (hO : A) (hl : B) (h : K) (run : Hid A → Hid B → Hid K → G := by
  intro aa bb kk
  apply f_panicX
  iterate 4 (· simp only [go_sem, *]; try rfl)
  · exact aa.out
  · exact bb.out
  exact kk.out) : G := run hO hl h
theorem eN {P : Program} {w0 : World} {S : List Blk} {f : FuncId} {F : Func} {c : Code} {args : List AV} {R : AOut → List Blk → Prop} {n : Nat} (hf : P.funcs[f]? = some F) (hb : F.body = some c) (hn : F.ntmps = n)
  (h0 : OuterOk S → RunX P w0 S.length n none [.it (.code c)] (FPost P F S R) .normal (env0 args) S) (hname : (F.name == "runtime.NumGoroutine") = false := by decide +kernel) (hargs : args.length ≤ n := by simp) (hbd : n ≤ DS := by decide) : ACall P w0 f args S R := by
  subst hn; exact enter hf hb hname hargs hbd h0
theorem ss {p : Prop} (h : p := by (simp only [go_sem, *]; try rfl)) : p := h
end Go.Fen
namespace Go.Fen
open Go.RowKit
theorem x_stop (n : Nat) {P : Program} {w0 : World} {n0 N : Nat} {r : Option Nat} {Q : APost} {k : List TI} {env : Env} {S : List Blk} {all : Array Oper} {o : Oper} {l : List Oper} (h : o.dst = some n) (hf : False) : RunX P w0 n0 N r (.it (.ops all (o :: l)) :: k) Q .normal env S := hf.elim
theorem x_stopR (n : Nat) {P : Program} {w0 : World} {n0 N : Nat} {r : Option Nat} {Q : APost} {k : List TI} {env : Env} {S : List Blk} {ops : Array Oper} {b : Bool} (hf : False) : RunX P w0 n0 N r (.it (.code (.region n ops b)) :: k) Q .normal env S := hf.elim
section
variable {P : Program} {w0 : World} {n0 N : Nat} {r : Option Nat} {Q : APost} {k : List TI} {ops : Array Oper}
def setAll (listed : Array Bool) : List Nat → Array Bool
  | [] => listed
  | i :: q => setAll (listed.setIfInBounds i true) q
def envAll (ds : Nat → Nat) (env : Env) (n : Nat) : List Nat → Env
  | [] => env
  | i :: q => envAll ds (upd env (ds i) (.own n 0)) (n + 1) q
def blkAll (S : List Blk) (z : Blk) : List Nat → List Blk
  | [] => S
  | _ :: q => blkAll (S ++ [z]) z q
def eachP : Nat → List Nat → (List Nat → Prop) → Prop
  | 0, _, K => K []
  | k + 1, A, K => A.foldr (fun i acc => eachP k (A.erase i) (fun q => K (i :: q)) ∧ acc) True
def allocsOk (N : Nat) (ops : Array Oper) (T : TypeId) (ds : Nat → Nat) : Nat → Array Bool → List Nat → Bool
  | 0, _, _ => true
  | k + 1, listed, A => decide (Region.ready .any ops listed = A) && !A.isEmpty && A.all (fun i => match ops[i]? with
      | some o => o.guard.isNone && dstOk N o.dst && decide (o.dst = some (ds i)) && (match o.op with
        | .alloc T' => T' == T
        | _ => false)
      | none => false) && A.all fun i => allocsOk N ops T ds k (listed.setIfInBounds i true) (A.erase i)
theorem each_mem {A : List Nat} {F : Nat → Prop} (h : A.foldr (fun i acc => F i ∧ acc) True) : ∀ i ∈ A, F i := by
  induction A with
  | nil => intro i hi; cases hi
  | cons a A ih =>
    intro i hi
    rcases List.mem_cons.1 hi with rfl | hi
    · exact h.1
    · exact ih h.2 i hi
theorem protL_grow {j : Nat} {S : List Blk} {z : Blk} : ∀ {prot : List (Nat × List Nat)}, (∀ p ∈ prot, ∀ a ∈ p.2, a < S.length) → ProtL ops j prot S (S ++ [z])
  | [], _ => trivial
  | p :: prot, h => ⟨fun _ a ha => by rw [List.getElem?_append_left (h p (List.mem_cons_self ..) a ha)], protL_grow fun p' hp => h p' (List.mem_cons_of_mem _ hp)⟩
theorem protL_all {j : Nat} {S S' : List Blk} : ∀ {prot : List (Nat × List Nat)}, (∀ p ∈ prot, ∀ a ∈ p.2, S'[a]? = S[a]?) → ProtL ops j prot S S'
  | [], _ => trivial
  | p :: prot, h => ⟨fun _ => h p (List.mem_cons_self ..), protL_all fun p' hp => h p' (List.mem_cons_of_mem _ hp)⟩
theorem d_allocs (ds : Nat → Nat) {T : TypeId} {z : Blk} {f : Nat} {prot : List (Nat × List Nat)} (hz : ∀ (S : List Blk) (ρ : Operand → AV), stepF P S ρ (.alloc T) = some (.own S.length 0, S ++ [z])) :
    ∀ (m : Nat) (A : List Nat) (listed : Array Bool) (env : Env) (S : List Blk) (_ : allocsOk N ops T ds m listed A = true) (_ : ∀ p ∈ prot, ∀ a ∈ p.2, a < S.length)
      (_ : eachP m A fun q => AnyP P w0 n0 N r ops k Q f (setAll listed q) prot (envAll ds env S.length q) (blkAll S z q)), AnyP P w0 n0 N r ops k Q (f + m) listed prot env S := by
  intro m
  induction m with
  | zero => intro A listed env S _ _ h; exact h
  | succ m ih =>
    intro A listed env S hok hp h
    simp only [allocsOk, Bool.and_eq_true, decide_eq_true_eq, List.all_eq_true, Bool.not_eq_true', List.isEmpty_eq_false_iff] at hok
    obtain ⟨⟨⟨hr, hne⟩, ho⟩, hrec⟩ := hok
    refine ⟨fun e => absurd (hr.symm.trans e) hne, fun i hi => ?_⟩
    rw [hr] at hi
    have ho := ho i hi
    have hrec := hrec i hi
    have hk := each_mem h i hi
    split at ho
    · next o hoi =>
      simp only [Bool.and_eq_true, Option.isNone_iff_eq_none, decide_eq_true_eq] at ho
      obtain ⟨⟨⟨hg, hd⟩, hds⟩, hop⟩ := ho
      split at hop
      · next T' hop' =>
        obtain rfl : T' = T := by simpa using hop
        refine ⟨o, hoi, hd, .inr (.inl ⟨by simp [guardA, hg], .own S.length 0, S ++ [z], by rw [hop']; exact hz _ _, protL_grow hp, ?_⟩)⟩
        refine ih (A.erase i) _ _ _ hrec (fun p hp' a ha => by have := hp p hp' a ha; simp; omega) ?_
        simp only [setAll, envAll, blkAll] at hk
        simpa [hds, putA] using hk
      · cases hop
    · cases ho
theorem protL_none {i : Nat} {S S' : List Blk} : ∀ {prot : List (Nat × List Nat)}, (prot.all fun p => !relB ops i p.1) = true → ProtL ops i prot S S'
  | [], _ => trivial
  | p :: prot, h => by
    simp only [List.all_cons, Bool.and_eq_true, Bool.not_eq_true'] at h
    exact ⟨fun e => (by rw [h.1] at e; cases e), protL_none h.2⟩
theorem d_noprot {prot : List (Nat × List Nat)} : ∀ (f : Nat) (listed : Array Bool) (env : Env) (S : List Blk) (_ : ((List.range ops.size).all fun i => listed.getD i true || prot.all fun p => !relB ops i p.1) = true) (_ : AnyP P w0 n0 N r ops k Q f listed [] env S), AnyP P w0 n0 N r ops k Q f listed prot env S := by
  intro f
  induction f with
  | zero => intro listed env S _ h; exact h
  | succ f ih =>
    intro listed env S hc h
    refine ⟨h.1, fun i hi => (h.2 i hi).mono fun env' S' hk => ⟨?_, ih _ _ _ ?_ hk.2⟩⟩
    · obtain ⟨hun, oj, hoj, _⟩ := mem_ready.1 hi
      have hlt : i < ops.size := (Array.getElem?_eq_some_iff.1 hoj).1
      have h1 := List.all_eq_true.1 hc i (List.mem_range.2 hlt)
      rw [hun] at h1
      simp only [Bool.false_or] at h1
      exact protL_none h1
    · refine List.all_eq_true.2 fun j hj => ?_
      have h1 := List.all_eq_true.1 hc j hj
      simp only [Bool.or_eq_true] at h1 ⊢
      rcases h1 with h1 | h1
      · left
        simp only [Array.getD_eq_getD_getElem?, Array.getElem?_setIfInBounds] at h1 ⊢
        by_cases e : i = j
        · subst e
          by_cases hl : i < listed.size
          · simp [hl]
          · simp [hl]
        · rw [if_neg e]; exact h1
      · exact .inr h1
theorem d_noprot' {prot : List (Nat × List Nat)} {f : Nat} {listed : Array Bool} {env : Env} {S : List Blk} (L : List Nat) (hL : prot.map Prod.fst = L) (hc : ((List.range ops.size).all fun i => listed.getD i true || L.all fun p => !relB ops i p) = true) (h : AnyP P w0 n0 N r ops k Q f listed [] env S) : AnyP P w0 n0 N r ops k Q f listed prot env S := by
  refine d_noprot f listed env S ?_ h
  subst hL
  simpa [List.all_map, Function.comp_def] using hc
end
end Go.Fen
namespace Go.Fen
open Go.RowKit
variable {P : Program} {w0 : World} {n0 N : Nat} {r : Option Nat} {Q : APost} {k : List TI} {env : Env} {S : List Blk}
theorem x_sliceG {all : Array Oper} {o : Oper} {l : List Oper} {t e : TypeId} {x : Operand} {n sz : Nat} {els : List AV} (hg : guardA all env o = some true) (ho : o.op = .slice t x none none none) (ht : P.underlying t = some (.array n e)) (hs : sizeT P e = some sz)
    (hx : evalA w0 env x = .pro (flat els)) (hl : els.length = n) (hok : ∀ y ∈ els, y.cells.length = sz) (hds : dstOk N o.dst = true)
    (h : RunX P w0 n0 N r (.it (.ops all l) :: k) Q .normal (putA env o.dst (.sval true els)) S) : RunX P w0 n0 N r (.it (.ops all (o :: l)) :: k) Q .normal env S := by
  intro ι ψ w a hR hE
  have hw := guardA_sound hE hg
  refine wpListIn_do hw (fun c hc => by rw [hc] at ho; cases ho) ?_
  have hv := hE.eval hR x
  rw [hx] at hv
  generalize hcx : a.eval x = cx at hv
  cases hv with
  | pro _ b off cv h1 h2 =>
    have hres : (execOp a.eval o).run P w = .ok (.value (.slice (some ⟨b, off, none⟩) n n)) w := by
      by_cases hn : n = 0
      · subst hn
        simp [execOp, ho, hcx, Instr.sliceAt, Instr.sureAddr, run_underlying ht, Instr.sliceBounds, run_sizeOf hs]
      · simp [execOp, ho, hcx, Instr.sliceAt, Instr.sureAddr, run_underlying ht, Instr.sliceBounds, run_sizeOf hs, hn, Addr.add_lit]
    rw [hres]
    have hvv : VR ι ψ (.sval true els) (.slice (some ⟨b, off, none⟩) n n) := by
      rw [← hl]
      refine .sval sz true els b off els.length (fun i j => cv (i * sz + j)) (fun i y hy => hok y (List.mem_of_getElem? hy)) (Nat.le_refl _) (fun _ => rfl) (fun i y j z hy hz => ?_) (fun i y j z hy hz => ?_)
      · have := h1 _ _ (flat_get hok hy hz)
        rw [Nat.add_assoc]
        exact this
      · exact h2 _ _ (flat_get hok hy hz)
    exact KI.mono (h ι ψ _ _ hR (hE.putA hvv hds)) fun e a2 w2 hp => hp
end Go.Fen
namespace Go.Fen
open Go.RowKit
section
variable {P : Program} {w0 : World} {n0 N : Nat} {r : Option Nat} {Q : APost} {k : List TI} {ops : Array Oper}
def leftN (ops : Array Oper) (listed : Array Bool) : Nat := (List.range ops.size).countP fun i => !listed.getD i true
theorem countP_set {p q : Nat → Bool} {i : Nat} : ∀ {l : List Nat}, l.Nodup → i ∈ l → p i = true → q i = false → (∀ j, j ≠ i → q j = p j) → l.countP q + 1 = l.countP p
  | [], _, h, _, _, _ => by cases h
  | a :: l, hn, h, h1, h2, h3 => by
    rw [List.nodup_cons] at hn
    rcases List.mem_cons.1 h with rfl | h
    · rw [List.countP_cons_of_neg (by simp [h2]), List.countP_cons_of_pos h1]
      congr 1
      refine List.countP_congr fun j hj => ?_
      rw [h3 j (fun e => hn.1 (e ▸ hj))]
    · have ih := countP_set hn.2 h h1 h2 h3
      have hai : a ≠ i := fun e => hn.1 (e ▸ h)
      rw [List.countP_cons, List.countP_cons, h3 a hai]
      omega
theorem d_inv (I : Array Bool → Env → List Blk → Prop)
    (step : ∀ (listed : Array Bool) (env : Env) (S : List Blk) (i : Nat) (o : Oper), I listed env S → ops[i]? = some o → listed.getD i true = false → (∀ e ∈ o.after, Region.binds .any e = true → listed.getD e.on false = true) → OpA P w0 N ops Q i (fun env' S' => I (listed.setIfInBounds i true) env' S') env S)
    (fin : ∀ (listed : Array Bool) (env : Env) (S : List Blk), I listed env S → Region.ready .any ops listed = [] → RunX P w0 n0 N r k Q .normal env S) :
    ∀ (f : Nat) (listed : Array Bool) (env : Env) (S : List Blk), I listed env S → leftN ops listed ≤ f → AnyP P w0 n0 N r ops k Q f listed [] env S := by
  intro f
  induction f with
  | zero =>
    intro listed env S hI hl
    have hr : Region.ready .any ops listed = [] := by
      rw [List.eq_nil_iff_forall_not_mem]
      intro i hi
      obtain ⟨hu, o, ho, _⟩ := mem_ready.1 hi
      have hlt : i < ops.size := (Array.getElem?_eq_some_iff.1 ho).1
      have : 0 < leftN ops listed := List.countP_pos_iff.2 ⟨i, List.mem_range.2 hlt, by simp [hu]⟩
      omega
    exact ⟨hr, fin _ _ _ hI hr⟩
  | succ f ih =>
    intro listed env S hI hl
    refine ⟨fun hr => fin _ _ _ hI hr, fun i hi => ?_⟩
    obtain ⟨hu, o, ho, hd⟩ := mem_ready.1 hi
    have hlt : i < ops.size := (Array.getElem?_eq_some_iff.1 ho).1
    refine (step listed env S i o hI ho hu hd).mono fun env' S' hI' => ⟨trivial, ih _ _ _ hI' ?_⟩
    have hsz : i < listed.size := by
      by_cases h : i < listed.size
      · exact h
      · have : listed.getD i true = true := by simp [Array.getD, h]
        rw [this] at hu; cases hu
    have := countP_set (p := fun i => !listed.getD i true) (q := fun j => !(listed.setIfInBounds i true).getD j true) (i := i) List.nodup_range (List.mem_range.2 hlt) (by simp [hu]) (by simp [Array.getD_eq_getD_getElem?, hsz]) (fun j hj => by
      simp only [Array.getD_eq_getD_getElem?, Array.getElem?_setIfInBounds_ne (Ne.symm hj)])
    unfold leftN at hl ⊢
    omega
def depsOk (ops : Array Oper) : Bool := (List.range ops.size).all fun i => match ops[i]? with
  | some o => o.after.all fun e => !Region.binds .any e || decide (e.on < i)
  | none => true
theorem all_listed (hd : depsOk ops = true) {listed : Array Bool} (hr : Region.ready .any ops listed = []) : ∀ i, i < ops.size → listed.getD i true = true := by
  intro i
  induction i using Nat.strongRecOn with
  | _ i ih =>
    intro hi
    cases hl : listed.getD i true with
    | true => rfl
    | false =>
      have hm : i ∈ Region.ready .any ops listed := by
        refine mem_ready.2 ⟨hl, ops[i], Array.getElem?_eq_getElem hi, fun e he hb => ?_⟩
        have h1 := List.all_eq_true.1 hd i (List.mem_range.2 hi)
        rw [Array.getElem?_eq_getElem hi] at h1
        simp only [Array.all_eq_true_iff_forall_mem] at h1
        have h2 := h1 e he
        rw [hb] at h2
        simp only [Bool.not_true, Bool.false_or, decide_eq_true_eq] at h2
        have h3 := ih e.on h2 (by omega)
        have hsz : e.on < listed.size := by
          have : i < listed.size := by
            by_cases h : i < listed.size
            · exact h
            · have : listed.getD i true = true := by simp [Array.getD, h]
              rw [this] at hl; cases hl
          omega
        simp only [Array.getD_eq_getD_getElem?, Array.getElem?_eq_getElem hsz, Option.getD_some] at h3 ⊢
        exact h3
      rw [hr] at hm; cases hm
end
end Go.Fen
namespace Go.Fen
open Go.RowKit
theorem VR.mperm {ι : List Pl} {ψ : Psi} {es es' : List (AV × AV)} {c : Value} (h : VR ι ψ (.mval es) c) (hp : es.Perm es') : VR ι ψ (.mval es') c := by
  cases h with
  | mval _ l b ck me hb hp' hl hn h1 h2 => exact .mval es' l b ck me hb (hp'.trans hp) hl ((hp.map Prod.fst).nodup_iff.1 hn) h1 h2
section
variable {P : Program} {w0 : World} {n0 N : Nat} {r : Option Nat} {Q : APost} {k : List TI} {env : Env} {S : List Blk}
theorem ACall.mperm {f : FuncId} {args : List AV} {R : AOut → List Blk → Prop} {E : List (AV × AV)} (h : ACall P w0 f args S (fun out S' => ∃ es, out = .ret (.mval es) ∧ es.Perm E ∧ R (.ret (.mval E)) S')) : ACall P w0 f args S R := by
  refine ⟨h.1, fun ι ψ w cargs hR hl hv => (h.2 ι ψ w cargs hR hl hv).mono ?_⟩
  rintro e w' ⟨ι', ψ', out, S', h1, h2, h3, es, rfl, e2, e3⟩
  refine ⟨ι', ψ', .ret (.mval E), S', h1, h2, ?_, e3⟩
  cases e <;> simp only [OutR] at h3 ⊢
  exact h3.mperm e2
end
inductive Fill where
  | val (d : Nat) (v : AV)
  | mk (d : Nat)
  | ent (k v : AV)
def Fill.dst : Fill → Option Nat
  | .val d _ => some d
  | .mk d => some d
  | .ent _ _ => none
def Fill.out (m : Nat) : Fill → AV
  | .val _ v => v
  | .mk _ => .mown m
  | .ent _ _ => .tup []
def fillT : Nat → List Fill → List (Nat × AV × AV)
  | _, [] => []
  | i, .ent k v :: r => (i, k, v) :: fillT (i + 1) r
  | i, _ :: r => fillT (i + 1) r
def mapAt (T : List (Nat × AV × AV)) (listed : Array Bool) : List (AV × AV) := (T.filter fun p => listed.getD p.1 true).map fun p => p.2
theorem mapAt_skip {T : List (Nat × AV × AV)} {listed : Array Bool} {i : Nat} (h : ∀ p ∈ T, p.1 ≠ i) : mapAt T (listed.setIfInBounds i true) = mapAt T listed := by
  unfold mapAt
  congr 1
  refine List.filter_congr fun p hp => ?_
  rw [getD_set_ne true (Ne.symm (h p hp))]
theorem fillT_ge : ∀ {l : List Fill} {i : Nat}, ∀ p ∈ fillT i l, i ≤ p.1
  | [], _, p, h => by cases h
  | .ent k v :: r, i, p, h => by
    rcases List.mem_cons.1 h with rfl | h
    · exact Nat.le_refl _
    · have := fillT_ge p h; omega
  | .val d v :: r, i, p, h => by have := fillT_ge (l := r) p h; omega
  | .mk d :: r, i, p, h => by have := fillT_ge (l := r) p h; omega
theorem fillT_mem : ∀ {l : List Fill} {i j : Nat} {k v : AV}, (j, k, v) ∈ fillT i l → l[j - i]? = some (.ent k v)
  | [], _, _, _, _, h => by cases h
  | .ent k v :: r, i, j, k', v', h => by
    rcases List.mem_cons.1 h with h | h
    · cases h; simp
    · have h1 := fillT_ge _ h
      have h2 := fillT_mem h
      rw [show j - i = (j - (i + 1)) + 1 by simp only at h1; omega]
      exact h2
  | .val d v :: r, i, j, k', v', h => by
    have h1 := fillT_ge (l := r) _ h
    have h2 := fillT_mem (l := r) h
    rw [show j - i = (j - (i + 1)) + 1 by simp only at h1; omega]
    exact h2
  | .mk d :: r, i, j, k', v', h => by
    have h1 := fillT_ge (l := r) _ h
    have h2 := fillT_mem (l := r) h
    rw [show j - i = (j - (i + 1)) + 1 by simp only at h1; omega]
    exact h2
theorem fillT_get : ∀ {l : List Fill} {i j : Nat} {k v : AV}, l[j]? = some (.ent k v) → ∃ A B, fillT i l = A ++ (i + j, k, v) :: B ∧ (∀ p ∈ A, p.1 ≠ i + j) ∧ (∀ p ∈ B, p.1 ≠ i + j)
  | [], _, _, _, _, h => by simp at h
  | x :: r, i, 0, k, v, h => by
    simp at h
    subst h
    exact ⟨[], fillT (i + 1) r, rfl, by simp, fun p hp => by have := fillT_ge p hp; omega⟩
  | x :: r, i, j + 1, k, v, h => by
    obtain ⟨A, B, h1, h2, h3⟩ := fillT_get (l := r) (i := i + 1) (j := j) (by simpa using h)
    rw [show i + 1 + j = i + (j + 1) by omega] at h1 h2 h3
    cases x with
    | val d v => exact ⟨A, B, h1, h2, h3⟩
    | mk d => exact ⟨A, B, h1, h2, h3⟩
    | ent k' v' =>
      refine ⟨(i, k', v') :: A, B, by rw [fillT, h1]; rfl, fun p hp => ?_, h3⟩
      rcases List.mem_cons.1 hp with rfl | hp
      · simp only; omega
      · exact h2 p hp
theorem mapAt_put {A B : List (Nat × AV × AV)} {listed : Array Bool} {i : Nat} {k v : AV} {es : List (AV × AV)} (hp : es.Perm (mapAt (A ++ (i, k, v) :: B) listed)) (hu : listed.getD i true = false) (h1 : ∀ p ∈ A, p.1 ≠ i) (h2 : ∀ p ∈ B, p.1 ≠ i) :
    (es ++ [(k, v)]).Perm (mapAt (A ++ (i, k, v) :: B) (listed.setIfInBounds i true)) := by
  have hi : i < listed.size := by
    by_cases h : i < listed.size
    · exact h
    · have : listed.getD i true = true := by simp [Array.getD, h]
      rw [this] at hu; cases hu
  have e0 : ∀ l : Array Bool, mapAt (A ++ (i, k, v) :: B) l = mapAt A l ++ (mapAt [(i, k, v)] l ++ mapAt B l) := by
    intro l; unfold mapAt; rw [show A ++ (i, k, v) :: B = A ++ ([(i, k, v)] ++ B) by simp, List.filter_append, List.filter_append, List.map_append, List.map_append]
  rw [e0] at hp
  rw [e0, mapAt_skip h1, mapAt_skip h2]
  have e1 : mapAt [(i, k, v)] listed = [] := by
    unfold mapAt
    rw [List.filter_cons_of_neg (by simp only; rw [hu]; decide)]
    rfl
  have e2 : mapAt [(i, k, v)] (listed.setIfInBounds i true) = [(k, v)] := by simp [mapAt, Array.getD_eq_getD_getElem?, hi]
  rw [e1, List.nil_append] at hp
  rw [e2]
  refine (hp.append_right _).trans ?_
  rw [List.append_assoc]
  exact (List.perm_append_comm).append_left _
def keysOk (P : Program) (kt : TypeId) : List (AV × AV) → Bool
  | [] => true
  | e :: l => keyA P kt e.1 && ((l.all fun f => !keq e.1 f.1) && ((l.all fun f => !keq f.1 e.1) && keysOk P kt l))
theorem keysOk_mem {P : Program} {kt : TypeId} : ∀ {l : List (AV × AV)}, keysOk P kt l = true → ∀ e ∈ l, keyA P kt e.1 = true
  | [], _, e, he => by cases he
  | x :: l, h, e, he => by
    simp only [keysOk, Bool.and_eq_true] at h
    rcases List.mem_cons.1 he with rfl | he
    · exact h.1
    · exact keysOk_mem h.2.2.2 e he
theorem keysOk_mid {P : Program} {kt : TypeId} : ∀ {A B : List (AV × AV)} {e : AV × AV}, keysOk P kt (A ++ e :: B) = true → ∀ f, f ∈ A ∨ f ∈ B → keq e.1 f.1 = false
  | [], B, e, h, f, hf => by
    simp only [List.nil_append, keysOk, Bool.and_eq_true, List.all_eq_true, Bool.not_eq_true'] at h
    rcases hf with hf | hf
    · cases hf
    · exact h.2.1 f hf
  | x :: A, B, e, h, f, hf => by
    simp only [List.cons_append, keysOk, Bool.and_eq_true, List.all_eq_true, Bool.not_eq_true'] at h
    rcases hf with hf | hf
    · rcases List.mem_cons.1 hf with rfl | hf
      · exact h.2.2.1 e (by simp)
      · exact keysOk_mid h.2.2.2 f (.inl hf)
    · exact keysOk_mid h.2.2.2 f (.inr hf)
section
variable {P : Program} {w0 : World} {n0 N : Nat} {r : Option Nat} {Q : APost} {k : List TI} {ops : Array Oper}
def DepF (ops : Array Oper) (pl : List Fill) (m : Nat) (env0 : Env) (i : Nat) (env : Env) : Prop :=
  (∀ j, relB ops i j = false → ∀ f, pl[j]? = some f → ∀ d, f.dst = some d → env d = f.out m) ∧ ∀ t, (pl.all fun f => !(f.dst == some t)) = true → env t = env0 t
def StepF (P : Program) (w0 : World) (N : Nat) (Q : APost) (ops : Array Oper) (pl : List Fill) (S0 : List Blk) (env0 : Env) (t kt et : TypeId) (i : Nat) : Prop :=
  match pl[i]? with
  | some (.val d v) => ∀ env S, DepF ops pl S0.length env0 i env → (S = S0 ∨ ∃ es, S = S0 ++ [.mp false es]) → OpA P w0 N ops Q i (fun env' S' => env' = upd env d v ∧ S' = S) env S
  | some (.mk d) => ∀ env, DepF ops pl S0.length env0 i env → OpA P w0 N ops Q i (fun env' S' => env' = upd env d (.mown S0.length) ∧ S' = S0 ++ [.mp false []]) env S0
  | some (.ent a v) => ∃ (o : Oper) (mo ko vo : Operand), ops[i]? = some o ∧ o.dst = none ∧ o.guard = none ∧ (o.op = .mapUpdate t mo ko vo ∨ o.op = .insert t mo ko vo) ∧ ∀ env, DepF ops pl S0.length env0 i env → evalA w0 env mo = .mown S0.length ∧ evalA w0 env ko = a ∧ evalA w0 env vo = v
  | none => True
def allFrom (F : Nat → Prop) : Nat → Nat → Prop
  | _, 0 => True
  | i, n + 1 => F i ∧ allFrom F (i + 1) n
theorem allFrom_get {F : Nat → Prop} : ∀ {n i j : Nat}, allFrom F i n → i ≤ j → j < i + n → F j
  | 0, i, j, _, h1, h2 => by omega
  | n + 1, i, j, h, h1, h2 => by
    by_cases e : i = j
    · subst e; exact h.1
    · exact allFrom_get h.2 (by omega) (by omega)
def planOk (ops : Array Oper) (pl : List Fill) (j0 : Nat) : Bool :=
  pl.length == ops.size && ((match pl[j0]? with
    | some (.mk _) => true
    | _ => false) && ((List.range pl.length).all fun i => match pl[i]? with
      | some (.mk _) => i == j0
      | some (.ent _ _) => !relB ops i j0
      | _ => true)) && decide ((pl.filterMap Fill.dst).Nodup)
theorem dst_ne {pl : List Fill} (h : (pl.filterMap Fill.dst).Nodup) : ∀ {i j : Nat} {f g : Fill} {d : Nat}, pl[i]? = some f → pl[j]? = some g → f.dst = some d → g.dst = some d → i = j := by
  induction pl with
  | nil => intro i j f g d h1; simp at h1
  | cons x pl ih =>
    intro i j f g d h1 h2 h3 h4
    have hmem : ∀ {j : Nat} {g : Fill}, pl[j]? = some g → g.dst = some d → d ∈ pl.filterMap Fill.dst := fun hg hd => List.mem_filterMap.2 ⟨_, List.mem_of_getElem? hg, hd⟩
    have hn : (pl.filterMap Fill.dst).Nodup ∧ (x.dst = some d → d ∉ pl.filterMap Fill.dst) := by
      cases hx : x.dst with
      | none => rw [List.filterMap_cons_none hx] at h; exact ⟨h, fun e => by cases e⟩
      | some d' => rw [List.filterMap_cons_some hx] at h; rw [List.nodup_cons] at h; exact ⟨h.2, fun e => by cases e; exact h.1⟩
    cases i with
    | zero =>
      simp at h1; subst h1
      cases j with
      | zero => rfl
      | succ j => exact absurd (hmem (by simpa using h2) h4) (hn.2 h3)
    | succ i =>
      cases j with
      | zero => simp at h2; subst h2; exact absurd (hmem (by simpa using h1) h3) (hn.2 h4)
      | succ j =>
        have := ih hn.1 (i := i) (j := j) (by simpa using h1) (by simpa using h2) h3 h4
        omega
structure FillI (pl : List Fill) (j0 : Nat) (env0 : Env) (S0 : List Blk) (listed : Array Bool) (env : Env) (S : List Blk) : Prop where
  slot : ∀ i f, pl[i]? = some f → listed.getD i true = true → ∀ d, f.dst = some d → env d = f.out S0.length
  keep : ∀ t, (pl.all fun f => !(f.dst == some t)) = true → env t = env0 t
  m1 : listed.getD j0 true = true → ∃ es, es.Perm (mapAt (fillT 0 pl) listed) ∧ S = S0 ++ [.mp false es]
  m0 : listed.getD j0 true = false → mapAt (fillT 0 pl) listed = [] ∧ S = S0
theorem slot_put {pl : List Fill} (hn : (pl.filterMap Fill.dst).Nodup) {m i d : Nat} {f : Fill} {listed : Array Bool} {env : Env} (hf : pl[i]? = some f) (hd : f.dst = some d)
    (h : ∀ i f, pl[i]? = some f → listed.getD i true = true → ∀ d, f.dst = some d → env d = f.out m) :
    ∀ j g, pl[j]? = some g → (listed.setIfInBounds i true).getD j true = true → ∀ e, g.dst = some e → upd env d (f.out m) e = g.out m := by
  intro j g hg hl e he
  by_cases hji : j = i
  · subst hji
    rw [hf] at hg; cases hg
    rw [hd] at he; cases he
    simp [upd]
  · have hde : e ≠ d := fun hh => hji (dst_ne hn hg hf he (hh ▸ hd))
    rw [show upd env d (f.out m) e = env e by simp [upd, hde]]
    rw [getD_set_ne true (Ne.symm hji)] at hl
    exact h j g hg hl e he
theorem keep_put {pl : List Fill} {i d : Nat} {f : Fill} {env env0 : Env} {v : AV} (hf : pl[i]? = some f) (hd : f.dst = some d) (h : ∀ t, (pl.all fun f => !(f.dst == some t)) = true → env t = env0 t) :
    ∀ t, (pl.all fun f => !(f.dst == some t)) = true → upd env d v t = env0 t := by
  intro t ht
  have hne : t ≠ d := by
    rintro rfl
    have := List.all_eq_true.1 ht f (List.mem_of_getElem? hf)
    rw [hd] at this
    simp at this
  rw [show upd env d v t = env t by simp [upd, hne]]
  exact h t ht
theorem upsertA_new {kk v : AV} {es : List (AV × AV)} (h : ∀ e ∈ es, keq kk e.1 = false) : upsertA kk v es = es ++ [(kk, v)] := by
  unfold upsertA
  rw [if_neg]
  rw [Bool.not_eq_true, List.any_eq_false]
  intro e he
  rw [h e he]
  decide
theorem d_fill {it : KI} (pl : List Fill) (j0 : Nat) {t kt et : TypeId} {n : Nat} {env0 : Env} {S0 : List Blk} (hn : ops.size = n) (hok : planOk ops pl j0 = true) (hdep : depsOk ops = true) (ht : P.underlying t = some (.map kt et)) (hk : keysOk P kt ((fillT 0 pl).map fun p => p.2) = true)
    (hstep : allFrom (StepF P w0 N Q ops pl S0 env0 t kt et) 0 n)
    (fin : ∀ env : Env, (∀ (i : Nat) (f : Fill), pl[i]? = some f → ∀ d, f.dst = some d → env d = f.out S0.length) → (∀ t, (pl.all fun f => !(f.dst == some t)) = true → env t = env0 t) → RunX P w0 n0 N r (.it it :: k) Q .normal env (S0 ++ [.mp false ((fillT 0 pl).map fun p => p.2)])) :
    AnyP P w0 n0 N r ops (.it it :: k) Q n (Array.replicate n false) [] env0 S0 := by
  simp only [planOk, Bool.and_eq_true, beq_iff_eq, decide_eq_true_eq, List.all_eq_true, List.mem_range] at hok
  obtain ⟨⟨hlen, hmk, hall⟩, hnd⟩ := hok
  have hT : ∀ p ∈ fillT 0 pl, p.1 ≠ j0 := by
    rintro ⟨j, a, v⟩ hp rfl
    have h1 := fillT_mem hp
    rw [Nat.sub_zero] at h1
    rw [h1] at hmk
    cases hmk
  refine d_inv (fun listed env S => FillI pl j0 env0 S0 listed env S) ?step ?fin n _ _ _ ?init ?left
  case left =>
    unfold leftN
    rw [← hn]
    exact Nat.le_trans (List.countP_le_length) (by simp)
  case init =>
    have hj : j0 < n := by
      cases h : pl[j0]? with
      | none => rw [h] at hmk; cases hmk
      | some f => have := (List.getElem?_eq_some_iff.1 h).1; omega
    have hrep : ∀ i, i < n → (Array.replicate n false).getD i true = false := fun i hi => by simp [Array.getD, hi]
    refine ⟨fun i f hf hl => ?_, fun t _ => rfl, fun hl => ?_, fun _ => ⟨?_, rfl⟩⟩
    · have hi := (List.getElem?_eq_some_iff.1 hf).1
      rw [hrep i (by omega)] at hl; cases hl
    · rw [hrep j0 hj] at hl; cases hl
    · unfold mapAt
      rw [List.map_eq_nil_iff, List.filter_eq_nil_iff]
      rintro ⟨j, a, v⟩ hp
      have h1 := fillT_mem hp
      have hi := (List.getElem?_eq_some_iff.1 h1).1
      simp only
      rw [hrep j (by omega)]
      simp
  case fin =>
    intro listed env S hI hr
    have hal := all_listed hdep hr
    have hl : ∀ i, i < pl.length → listed.getD i true = true := fun i hi => hal i (by omega)
    have hj : j0 < pl.length := by
      cases h : pl[j0]? with
      | none => rw [h] at hmk; cases hmk
      | some f => exact (List.getElem?_eq_some_iff.1 h).1
    obtain ⟨es, hp, rfl⟩ := hI.m1 (hl j0 hj)
    have hm : mapAt (fillT 0 pl) listed = (fillT 0 pl).map fun p => p.2 := by
      unfold mapAt
      congr 1
      rw [List.filter_eq_self]
      rintro ⟨j, a, v⟩ hp
      have h1 := fillT_mem hp
      exact hl j (by have := (List.getElem?_eq_some_iff.1 h1).1; omega)
    rw [hm] at hp
    have hg : (S0 ++ [Blk.mp false es])[S0.length]? = some (.mp false es) := by simp
    refine x_mperm S0.length hg hp (by rw [List.set_append_right _ _ (Nat.le_refl _), Nat.sub_self]) ?_
    exact fin env (fun i f hf d hd => hI.slot i f hf (hl i (List.getElem?_eq_some_iff.1 hf).1) d hd) hI.keep
  case step =>
    intro listed env S i o hI ho hu hd
    have hi : i < n := by have := (Array.getElem?_eq_some_iff.1 ho).1; omega
    have hs := allFrom_get hstep (Nat.zero_le i) (by omega)
    have hD : DepF ops pl S0.length env0 i env := by
      refine ⟨fun j hj f hf d hd' => hI.slot j f hf ?_ d hd', hI.keep⟩
      unfold relB at hj
      simp only [ho, Bool.not_eq_false'] at hj
      rw [Array.any_eq_true'] at hj
      obtain ⟨e, he, hb⟩ := hj
      simp only [Bool.and_eq_true, beq_iff_eq] at hb
      have h1 := hd e he hb.1
      rw [hb.2] at h1
      simp only [Array.getD_eq_getD_getElem?] at h1 ⊢
      cases hx : listed[j]? with
      | none => rfl
      | some b => rw [hx] at h1; simpa using h1
    unfold StepF at hs
    have hpi : ∃ f, pl[i]? = some f := ⟨pl[i]'(by omega), List.getElem?_eq_getElem (by omega)⟩
    obtain ⟨f, hf⟩ := hpi
    rw [hf] at hs
    have hne0 : (∀ d, f ≠ .mk d) → j0 ≠ i := by
      rintro h rfl
      rw [hf] at hmk
      cases f with
      | mk d => exact h d rfl
      | val => cases hmk
      | ent => cases hmk
    cases f with
    | val d v =>
      have hj := hne0 (fun d h => by cases h)
      have hTi : ∀ p ∈ fillT 0 pl, p.1 ≠ i := by
        rintro ⟨j, a, v⟩ hp rfl
        have h1 := fillT_mem hp
        rw [Nat.sub_zero, hf] at h1; cases h1
      have hSS : S = S0 ∨ ∃ es, S = S0 ++ [.mp false es] := by
        cases hl : listed.getD j0 true with
        | true => obtain ⟨es, _, e⟩ := hI.m1 hl; exact .inr ⟨es, e⟩
        | false => exact .inl (hI.m0 hl).2
      refine (hs env S hD hSS).mono ?_
      rintro env' S' ⟨rfl, rfl⟩
      refine ⟨slot_put hnd hf rfl hI.slot, keep_put hf rfl hI.keep, fun hl => ?_, fun hl => ?_⟩
      · rw [getD_set_ne true (Ne.symm hj)] at hl
        rw [mapAt_skip hTi]
        exact hI.m1 hl
      · rw [getD_set_ne true (Ne.symm hj)] at hl
        rw [mapAt_skip hTi]
        exact hI.m0 hl
    | mk d =>
      have hij : i = j0 := by
        have := hall i (by omega)
        rw [hf] at this
        simpa using this
      subst hij
      obtain ⟨hm, rfl⟩ := hI.m0 hu
      refine (hs env hD).mono ?_
      rintro env' S' ⟨rfl, rfl⟩
      refine ⟨slot_put (f := .mk d) hnd hf rfl hI.slot, keep_put hf rfl hI.keep, fun hl => ⟨[], ?_, rfl⟩, fun hl => ?_⟩
      · rw [mapAt_skip hT, hm]
      · have hsz : i < listed.size := by
          by_cases h : i < listed.size
          · exact h
          · have : listed.getD i true = true := by simp [Array.getD, h]
            rw [this] at hu; cases hu
        simp [Array.getD_eq_getD_getElem?, hsz] at hl
    | ent a v =>
      obtain ⟨o', mo, ko, vo, ho', hdst, hgd, hop, hev⟩ := hs
      rw [ho] at ho'; cases ho'
      obtain ⟨ev1, ev2, ev3⟩ := hev env hD
      have hj := hne0 (fun d h => by cases h)
      have hjl : listed.getD j0 true = true := by
        have h1 := hall i (by omega)
        rw [hf] at h1
        simp only [Bool.not_eq_true'] at h1
        unfold relB at h1
        simp only [ho, Bool.not_eq_false'] at h1
        rw [Array.any_eq_true'] at h1
        obtain ⟨e, he, hb⟩ := h1
        simp only [Bool.and_eq_true, beq_iff_eq] at hb
        have h2 := hd e he hb.1
        rw [hb.2] at h2
        simp only [Array.getD_eq_getD_getElem?] at h2 ⊢
        cases hx : listed[j0]? with
        | none => rfl
        | some b => rw [hx] at h2; simpa using h2
      obtain ⟨es, hp, rfl⟩ := hI.m1 hjl
      obtain ⟨A, B, hAB, hA, hB⟩ := fillT_get (i := 0) hf
      rw [Nat.zero_add] at hAB hA hB
      have hmemE : ∀ e ∈ es, ∃ p, (p ∈ A ∨ p ∈ B) ∧ e = p.2 := by
        intro e he
        have h1 := hp.mem_iff.1 he
        unfold mapAt at h1
        obtain ⟨p, hp1, rfl⟩ := List.mem_map.1 h1
        obtain ⟨hp2, hp3⟩ := List.mem_filter.1 hp1
        rw [hAB] at hp2
        rcases List.mem_append.1 hp2 with h | h
        · exact ⟨p, .inl h, rfl⟩
        · rcases List.mem_cons.1 h with rfl | h
          · simp only at hp3; rw [hu] at hp3; cases hp3
          · exact ⟨p, .inr h, rfl⟩
      have hkk := hk
      rw [hAB, List.map_append, List.map_cons] at hkk
      have hnew : ∀ e ∈ es, keq a e.1 = false := by
        intro e he
        obtain ⟨p, hp, rfl⟩ := hmemE e he
        exact keysOk_mid hkk p.2 (hp.imp (fun h => List.mem_map_of_mem h) (fun h => List.mem_map_of_mem h))
      have hkeys : ∀ e ∈ es, keyA P kt e.1 = true := by
        intro e he
        obtain ⟨p, hp, rfl⟩ := hmemE e he
        refine keysOk_mem hkk p.2 ?_
        rcases hp with h | h
        · exact List.mem_append_left _ (List.mem_map_of_mem h)
        · exact List.mem_append_right _ (List.mem_cons_of_mem _ (List.mem_map_of_mem h))
      have hka : keyA P kt a = true := keysOk_mem hkk (a, v) (List.mem_append_right _ (List.mem_cons_self ..))
      have hst : stepF P (S0 ++ [.mp false es]) (evalA w0 env) o.op = some (.tup [], S0 ++ [.mp false (es ++ [(a, v)])]) := by
        rcases hop with hop | hop
        all_goals
          rw [hop]
          simp only [stepF, mapUpdateA, ht, ev1, ev2, ev3, List.getElem?_append_right (Nat.le_refl _), Nat.sub_self, List.getElem?_cons_zero]
          rw [if_pos (by simp only [Bool.and_eq_true, List.all_eq_true]; exact ⟨hka, hkeys⟩), upsertA_new hnew]
          simp [List.set_append_right]
      refine o_step ho (by simp [guardA, hgd]) hst (by rw [hdst]; rfl) ?_
      rw [hdst]
      refine ⟨fun j g hg hl e he => ?_, hI.keep, fun _ => ⟨_, ?_, rfl⟩, fun hl => ?_⟩
      · by_cases hji : j = i
        · subst hji; rw [hf] at hg; cases hg; cases he
        · rw [getD_set_ne true (Ne.symm hji)] at hl
          exact hI.slot j g hg hl e he
      · rw [hAB] at hp ⊢
        exact mapAt_put hp hu hA hB
      · rw [getD_set_ne true (Ne.symm hj), hjl] at hl; cases hl
end
def softV : AV → AV
  | .snil => .sval false []
  | x => x
theorem VR.softV {ι : List Pl} {ψ : Psi} {x : AV} {v : Value} (h : VR ι ψ x v) : VR ι ψ (softV x) v := by
  cases x <;> try exact h
  cases h
  exact .svnil _
theorem softV_leaf {x : AV} (h : x.leaf = true) : (softV x).leaf = true := by
  cases x <;> first | exact h | rfl
theorem Rel.softC {w0 w : World} {ι : List Pl} {ψ : Psi} {S : List Blk} (h : Rel w0 ι ψ S w) {a : Nat} {cs : List AV} {ty : Option TypeId} (ha : S[a]? = some (.cells cs ty)) : Rel w0 ι ψ (S.set a (.cells (cs.map softV) ty)) w := by
  obtain ⟨pl, hpl, hB⟩ := h.get ha
  have hset : ι.set a pl = ι := set_self hpl
  obtain ⟨h0, ⟨c, T, h1, h2, h3⟩, h4, h5⟩ := hB
  have key := h.update (w' := w) (ψ' := ψ) (B' := .cells (cs.map softV) ty) (pl' := pl) ha hpl (Below.refl _ _) (fun _ _ _ => rfl) (by rw [hset]; exact Ext.refl _ _) (by
    rw [hset]
    refine ⟨h0, ⟨c, T, h1, by simpa using h2, fun m x ex => ?_⟩, h4, h5⟩
    rw [List.getElem?_map] at ex
    cases e : cs[m]? with
    | none => rw [e] at ex; cases ex
    | some y =>
      rw [e] at ex; cases ex
      obtain ⟨q1, v, q2, q3⟩ := h3 m y e
      exact ⟨softV_leaf q1, v, q2, q3.softV⟩) (fun k hk => .inl hk) (fun b o v e => .inl ⟨e, fun hk => by
    simp only [Blk.at, Option.some.injEq] at hk; subst hk; rw [h4 o] at e; cases e⟩) rfl
  rw [hset] at key
  exact key
theorem ACall.softC {P : Program} {w0 : World} {S : List Blk} {f : FuncId} {args : List AV} {R : AOut → List Blk → Prop} (a : Nat) (h : ACall P w0 f args S (fun out S' => ∃ cs ty, S'[a]? = some (.cells cs ty) ∧ R out (S'.set a (.cells (cs.map softV) ty)))) : ACall P w0 f args S R := by
  refine ⟨h.1, fun ι ψ w cargs hR hl hv => (h.2 ι ψ w cargs hR hl hv).mono ?_⟩
  rintro e w' ⟨ι', ψ', out, S', h1, h2, h3, cs, ty, e1, e2⟩
  exact ⟨ι', ψ', out, _, h1, h2.softC e1, h3, e2⟩
theorem outer_two {X : List Blk} {B C B' C' : Blk} (h : OuterOk (X ++ [B, C])) (hB : B'.ltB (X.length + 2) = true) (hC : C'.ltB (X.length + 2) = true) : OuterOk (X ++ [B', C']) := by
  intro j D hD
  have hl : (X ++ [B', C']).length = (X ++ [B, C]).length := by simp
  rw [hl]
  by_cases hj : j < X.length
  · rw [List.getElem?_append_left hj] at hD
    exact h j D (by rw [List.getElem?_append_left hj]; exact hD)
  · rw [List.getElem?_append_right (by omega)] at hD
    have h2 : (X ++ [B, C]).length = X.length + 2 := by simp
    rw [h2]
    match e : j - X.length, hD with
    | 0, hD => simp at hD; subst hD; exact hB
    | 1, hD => simp at hD; subst hD; exact hC
    | n + 2, hD => simp at hD
theorem x_cvC {P : Program} {w0 : World} {n0 N : Nat} {r : Option Nat} {Q : APost} {k : List TI} {env : Env} {S S1 : List Blk} {it : KI} (t : Nat) (sh : List Nat) {cs cs' : List AV} {ty : Option TypeId} (hS1 : sh.foldl markFull S = S1) (ht : S1[t]? = some (.cells cs ty)) (hc : cs.map (conv S1 (frA S1) 4) = cs') (hl : allLeaf cs' = true)
    (h : RunX P w0 n0 N r (.it it :: k) Q .normal env (S1.set t (.cells cs' ty))) : RunX P w0 n0 N r (.it it :: k) Q .normal env S := by
  subst hS1 hc
  intro ι ψ w ac hR hE
  obtain ⟨ψ1, hle, hR1⟩ := markAll_sound (w0 := w0) sh S ψ hR
  have hx : Ext ι ψ ι ψ1 := ⟨(Ext.refl ι ψ).pl, hle⟩
  have hfr := frozen_full hR1
  obtain ⟨pl, hpl, hB⟩ := hR1.get ht
  have hset : ι.set t pl = ι := set_self hpl
  obtain ⟨h0, ⟨c, T, h1, h2, h3⟩, h4, h5⟩ := hB
  have key := hR1.update (w' := w) (ψ' := ψ1) (B' := .cells (cs.map (conv (sh.foldl markFull S) (frA (sh.foldl markFull S)) 4)) ty) (pl' := pl) ht hpl (Below.refl _ _) (fun _ _ _ => rfl) (by rw [hset]; exact Ext.refl _ _) (by
    rw [hset]
    refine ⟨h0, ⟨c, T, h1, by simpa using h2, fun m x ex => ?_⟩, h4, h5⟩
    have hlf : x.leaf = true := List.all_eq_true.1 hl x (List.mem_of_getElem? ex)
    rw [List.getElem?_map] at ex
    cases e : cs[m]? with
    | none => rw [e] at ex; cases ex
    | some y =>
      rw [e] at ex; cases ex
      obtain ⟨q1, v, q2, q3⟩ := h3 m y e
      exact ⟨hlf, v, q2, conv_sound hR1 (Psi.le_refl _) hfr 4 _ _ q3⟩) (fun k hk => .inl hk) (fun b o v e => .inl ⟨e, fun hk => by
    simp only [Blk.at, Option.some.injEq] at hk; subst hk; rw [h4 o] at e; cases e⟩) rfl
  rw [hset] at key
  exact KI.mono (h ι ψ1 w ac key (hE.mono hx)) fun e a2 w2 hp => hp.chain (hx.take n0)
theorem x_box {P : Program} {w0 : World} {n0 N : Nat} {r : Option Nat} {Q : APost} {k : List TI} {env : Env} {S : List Blk} {it : KI} (S0 : List Blk) {cs : List AV} {ty : Option TypeId} {t : Nat} (sl : List Nat) (hS : S = S0 ++ [.cells cs ty]) (hO : OuterOk S0) (hn : n0 = S0.length) (ht : env t = .own S0.length 0)
    (hds : (env DS).lt S0.length = true) (hsl : (sl.all fun u => (upd env t (.pro cs) u).lt S0.length) = true) (h : RunX P w0 n0 N r (.it it :: k) Q .normal (keepEnv sl (upd env t (.pro cs))) S0) : RunX P w0 n0 N r (.it it :: k) Q .normal env S := by
  subst hS
  have hg : (S0 ++ [Blk.cells cs ty])[S0.length]? = some (.cells cs ty) := by simp
  refine x_frz (a := S0.length) (o := 0) ht hg ?_
  have e : (S0 ++ [Blk.cells cs ty]).set S0.length .dead = S0 ++ [.dead] := by rw [List.set_append_right _ _ (Nat.le_refl _), Nat.sub_self]; rfl
  rw [e, List.drop_zero]
  have htd : DS ≠ t ∨ DS = t := by omega
  refine x_keepO hO 0 sl hn ?_ (by simpa using hsl) rfl (by simpa using h)
  rcases htd with htd | htd
  · simpa [upd, htd] using hds
  · rw [htd, ht] at hds
    simp [AV.lt] at hds
theorem outer_app {S0 L : List Blk} (h : OuterOk (S0 ++ L)) : ∀ (j : Nat) (B : Blk), S0[j]? = some B → B.ltB (S0 ++ L).length = true := fun j B hB => h j B (by rw [List.getElem?_append_left (List.getElem?_eq_some_iff.1 hB).1]; exact hB)
end Go.Fen
namespace Go.Fen
open Go.RowKit
section
variable {P : Program} {w0 : World} {n0 N : Nat} {r : Option Nat} {Q : APost} {k : List TI} {ops : Array Oper}
def DownC (ops : Array Oper) (listed : Array Bool) : Prop := ∀ j o, ops[j]? = some o → listed.getD j true = true → ∀ e ∈ o.after, Region.binds .any e = true → listed.getD e.on false = true
def coverB (ops : Array Oper) (n : Nat) : Bool := (List.range n).all fun i => (List.range (n + 1)).any fun j => decide (i < j) && !relB ops j i
def DepL (ops : Array Oper) (pl : List (Nat × AV)) (env0 : Env) (i : Nat) (env : Env) : Prop :=
  (∀ j, relB ops i j = false → ∀ d v, pl[j]? = some (d, v) → env d = v) ∧ ∀ t, (pl.all fun p => !(p.1 == t)) = true → env t = env0 t
def StepL (P : Program) (w0 : World) (N : Nat) (Q : APost) (ops : Array Oper) (pl : List (Nat × AV)) (S0 : List Blk) (env0 : Env) (i : Nat) : Prop :=
  match pl[i]? with
  | some (d, v) => ∀ env, DepL ops pl env0 i env → OpA P w0 N ops Q i (fun env' S' => env' = upd env d v ∧ S' = S0) env S0
  | none => True
theorem relB_false {i j : Nat} {o : Oper} (ho : ops[i]? = some o) (h : relB ops i j = false) : ∃ e ∈ o.after, Region.binds .any e = true ∧ e.on = j := by
  unfold relB at h
  simp only [ho, Bool.not_eq_false'] at h
  rw [Array.any_eq_true'] at h
  obtain ⟨e, he, hb⟩ := h
  simp only [Bool.and_eq_true, beq_iff_eq] at hb
  exact ⟨e, he, hb.1, hb.2⟩
theorem getD_ft {l : Array Bool} {j : Nat} (h : l.getD j false = true) : l.getD j true = true := by
  simp only [Array.getD_eq_getD_getElem?] at h ⊢
  cases hx : l[j]? with
  | none => rfl
  | some b => rw [hx] at h; simpa using h
theorem d_last (pl : List (Nat × AV)) {n : Nat} {env0 : Env} {S0 : List Blk} (hn : ops.size = n + 1) (hpl : pl.length = n) (hnd : decide ((pl.map Prod.fst).Nodup) = true) (hdep : depsOk ops = true) (hcov : coverB ops n = true)
    (hstep : allFrom (StepL P w0 N Q ops pl S0 env0) 0 n)
    (hz : ∀ env : Env, (∀ (i d : Nat) (v : AV), pl[i]? = some (d, v) → env d = v) → (∀ t, (pl.all fun p => !(p.1 == t)) = true → env t = env0 t) → OpA P w0 N ops Q n (fun env' S' => RunX P w0 n0 N r k Q .normal env' S') env S0) :
    AnyP P w0 n0 N r ops k Q (n + 1) (Array.replicate (n + 1) false) [] env0 S0 := by
  have hnd : (pl.map Prod.fst).Nodup := by simpa using hnd
  refine d_inv (fun listed env S => (listed.getD n true = false ∧ (∀ (i d : Nat) (v : AV), pl[i]? = some (d, v) → listed.getD i true = true → env d = v) ∧ (∀ t, (pl.all fun p => !(p.1 == t)) = true → env t = env0 t) ∧ S = S0 ∧ DownC ops listed) ∨ ((∀ i, i ≤ n → listed.getD i true = true) ∧ RunX P w0 n0 N r k Q .normal env S)) ?step ?fin (n + 1) _ _ _ ?init ?left
  case left =>
    unfold leftN
    rw [← hn]
    exact Nat.le_trans (List.countP_le_length) (by simp)
  case init =>
    have hrep : ∀ i, i < n + 1 → (Array.replicate (n + 1) false).getD i true = false := fun i hi => by simp [Array.getD, hi]
    refine .inl ⟨hrep n (by omega), fun i d v hi hl => ?_, fun _ _ => rfl, rfl, fun j o ho hl => ?_⟩
    · have h1 := (List.getElem?_eq_some_iff.1 hi).1
      rw [hrep i (by omega)] at hl; cases hl
    · have h1 := (Array.getElem?_eq_some_iff.1 ho).1
      rw [hrep j (by omega)] at hl; cases hl
  case fin =>
    intro listed env S hI hr
    have hal := all_listed hdep hr
    rcases hI with ⟨h1, _⟩ | ⟨_, h⟩
    · rw [hal n (by omega)] at h1; cases h1
    · exact h
  case step =>
    intro listed env S i o hI ho hu hd
    have hi : i < n + 1 := by have := (Array.getElem?_eq_some_iff.1 ho).1; omega
    rcases hI with ⟨h1, h2, h3, rfl, h5⟩ | ⟨h, _⟩
    rotate_left
    · rw [h i (by omega)] at hu; cases hu
    by_cases hin : i = n
    · subst hin
      have hall : ∀ m j, j + m = i → listed.getD j true = true ∨ j = i := by
        intro m
        induction m using Nat.strongRecOn with
        | _ m ih =>
          intro j hj
          by_cases hji : j = i
          · exact .inr hji
          · left
            have hc := List.all_eq_true.1 hcov j (List.mem_range.2 (by omega))
            obtain ⟨q, hq, hq2⟩ := List.any_eq_true.1 hc
            simp only [Bool.and_eq_true, decide_eq_true_eq, Bool.not_eq_true'] at hq2
            have hqi : q ≤ i := by have := List.mem_range.1 hq; omega
            rcases ih (i - q) (by omega) q (by omega) with hl | rfl
            · obtain ⟨oq, hoq⟩ : ∃ oq, ops[q]? = some oq := ⟨ops[q]'(by omega), Array.getElem?_eq_getElem (by omega)⟩
              obtain ⟨e, he, hb, heq⟩ := relB_false hoq hq2.2
              have := h5 q oq hoq hl e he hb
              rw [heq] at this
              exact getD_ft this
            · obtain ⟨e, he, hb, heq⟩ := relB_false ho hq2.2
              have := hd e he hb
              rw [heq] at this
              exact getD_ft this
      have hl : ∀ j, j < i → listed.getD j true = true := fun j hj => (hall (i - j) j (by omega)).resolve_right (by omega)
      refine (hz env (fun j d v hj => h2 j d v hj (hl j (by have := (List.getElem?_eq_some_iff.1 hj).1; omega))) h3).mono fun env' S' hk => .inr ⟨fun j hj => ?_, hk⟩
      by_cases hji : j = i
      · subst hji
        simp only [Array.getD_eq_getD_getElem?, Array.getElem?_setIfInBounds]
        by_cases hs : j < listed.size <;> simp [hs]
      · rw [getD_set_ne true (Ne.symm hji)]
        exact hl j (by omega)
    · have hs := allFrom_get hstep (Nat.zero_le i) (by omega)
      unfold StepL at hs
      obtain ⟨⟨d, v⟩, hf⟩ : ∃ f, pl[i]? = some f := ⟨pl[i]'(by omega), List.getElem?_eq_getElem (by omega)⟩
      rw [hf] at hs
      simp only at hs
      refine (hs env ⟨fun j hj d' v' hd' => ?_, h3⟩).mono ?_
      · obtain ⟨e, he, hb, heq⟩ := relB_false ho hj
        have := hd e he hb
        rw [heq] at this
        exact h2 j d' v' hd' (getD_ft this)
      · rintro env' S' ⟨rfl, rfl⟩
        refine .inl ⟨by rw [getD_set_ne true hin]; exact h1, fun j d' v' hj hl => ?_, fun t ht => ?_, rfl, fun j oj hoj hl e he hb => ?_⟩
        · by_cases hji : j = i
          · subst hji
            rw [hf] at hj; cases hj
            simp [upd]
          · have hde : d' ≠ d := fun hh => by
              subst hh
              have e1 : (pl.map Prod.fst)[j]? = some d' := by rw [List.getElem?_map, hj]; rfl
              have e2 : (pl.map Prod.fst)[i]? = some d' := by rw [List.getElem?_map, hf]; rfl
              have hjl : j < (pl.map Prod.fst).length := (List.getElem?_eq_some_iff.1 e1).1
              exact hji ((List.getElem?_inj hjl hnd).1 (e1.trans e2.symm))
            rw [show upd env d v d' = env d' by simp [upd, hde]]
            rw [getD_set_ne true (Ne.symm hji)] at hl
            exact h2 j d' v' hj hl
        · have hne : t ≠ d := by
            rintro rfl
            have := List.all_eq_true.1 ht _ (List.mem_of_getElem? hf)
            simp at this
          rw [show upd env d v t = env t by simp [upd, hne]]
          exact h3 t ht
        · have hset : ∀ m, listed.getD m false = true → (listed.setIfInBounds i true).getD m false = true := by
            intro m hm
            simp only [Array.getD_eq_getD_getElem?, Array.getElem?_setIfInBounds] at hm ⊢
            split
            · split <;> simp_all
            · exact hm
          by_cases hji : j = i
          · subst hji
            rw [ho] at hoj; cases hoj
            exact hset _ (hd e he hb)
          · rw [getD_set_ne true (Ne.symm hji)] at hl
            exact hset _ (h5 j oj hoj hl e he hb)
end
end Go.Fen
namespace Go.Fen
open Go.RowKit
section
variable {P : Program} {w0 : World} {n0 N : Nat} {r : Option Nat} {Q : APost} {k : List TI} {ops : Array Oper} {S0 : List Blk}
def Gives (P : Program) (w0 : World) (S0 : List Blk) (ops : Array Oper) (env : Env) (o : Oper) (v : AV) : Prop :=
  (guardA ops env o = some false ∧ v = .tup []) ∨ (guardA ops env o = some true ∧ stepF P S0 (evalA w0 env) o.op = some (v, S0)) ∨
  (guardA ops env o = some true ∧ ∃ (fop : Operand) (args : Array Operand) (tys : Array TypeId) (f : FuncId) (first cap A : List AV), o.op = .call ⟨.value fop, args, tys⟩ ∧ evalA w0 env fop = .fn (.func f) first cap ∧
    cvL S0 (first ++ args.toList.map (evalA w0 env) ++ cap) = A ∧ ∀ R : AOut → List Blk → Prop, R (.ret v) S0 → ACall P w0 f A S0 R)
theorem looks_tmp {o : Oper} {t : Nat} (h : .tmp t ∈ o.op.operands) : t ∈ o.looksAt ops := by
  unfold Oper.looksAt
  exact List.mem_append_left _ (List.mem_filterMap.2 ⟨.tmp t, by simpa using h, rfl⟩)
theorem guardA_agree {o : Oper} {env env' : Env} (h : ∀ t ∈ o.looksAt ops, env' t = env t) : guardA ops env' o = guardA ops env o := by
  unfold guardA
  cases hg : o.guard with
  | none => rfl
  | some p =>
    obtain ⟨g, want⟩ := p
    cases ho : ops[g]? with
    | none => simp [ho]
    | some og =>
      cases hd : og.dst with
      | none => simp [ho, hd]
      | some s =>
        have : env' s = env s := h s (by
          unfold Oper.looksAt
          refine List.mem_append_right _ ?_
          simp [hg, ho, hd])
        simp [ho, hd, this]
theorem Gives.agree {o : Oper} {env env' : Env} {v : AV} (h : ∀ t ∈ o.looksAt ops, env' t = env t) (hg : Gives P w0 S0 ops env o v) : Gives P w0 S0 ops env' o v := by
  have hop : ∀ x ∈ o.op.operands, evalA w0 env' x = evalA w0 env x := fun x hx => by
    cases x with
    | tmp t => exact h t (looks_tmp hx)
    | _ => rfl
  have hgd := guardA_agree h
  rcases hg with ⟨a, b⟩ | ⟨a, b⟩ | ⟨a, fop, args, tys, f, first, cap, A, b, c, d, e⟩
  · exact .inl ⟨hgd.trans a, b⟩
  · exact .inr (.inl ⟨hgd.trans a, by rw [stepF_congr hop]; exact b⟩)
  · have hargs : args.toList.map (evalA w0 env') = args.toList.map (evalA w0 env) := list_congr fun y hy => hop y (by rw [b]; simp [Op.operands, Call.operands]; exact .inr (by simpa using hy))
    have hfop : evalA w0 env' fop = evalA w0 env fop := hop fop (by rw [b]; simp [Op.operands, Call.operands])
    exact .inr (.inr ⟨hgd.trans a, fop, args, tys, f, first, cap, A, b, hfop.trans c, by rw [hargs]; exact d, e⟩)
theorem Gives.op {i d : Nat} {o : Oper} {env : Env} {v : AV} {K : Env → List Blk → Prop} (ho : ops[i]? = some o) (hd : o.dst = some d) (hN : d < N) (hg : Gives P w0 S0 ops env o v) (hk : K (upd env d v) S0) : OpA P w0 N ops Q i K env S0 := by
  refine ⟨o, ho, by rw [hd]; simpa [dstOk] using hN, ?_⟩
  rw [hd]
  rcases hg with ⟨a, rfl⟩ | ⟨a, b⟩ | ⟨a, fop, args, tys, f, first, cap, A, b, c, e, g⟩
  · exact .inl ⟨a, hk⟩
  · exact .inr (.inl ⟨a, v, S0, b, hk⟩)
  · refine .inr (.inr ⟨a, fop, args, tys, f, first, cap, [], b, c, ?_⟩)
    have e' : (first ++ args.toList.map (evalA w0 env) ++ cap).map (conv S0 (frA S0) 4) = A := e
    simp only [List.foldl_nil]
    rw [e']
    exact g _ hk
def SeqP (P : Program) (w0 : World) (N : Nat) (ops : Array Oper) (S0 : List Blk) (K : Env → Prop) : Nat → Nat → Env → Prop
  | 0, _, env => K env
  | m + 1, i, env => ∃ o d v, ops[i]? = some o ∧ o.dst = some d ∧ d < N ∧ Gives P w0 S0 ops env o v ∧ SeqP P w0 N ops S0 K m (i + 1) (upd env d v)
def envAt (pl : List (Nat × AV)) (env : Env) : Env := pl.foldl (fun e p => upd e p.1 p.2) env
theorem seq_plan {K : Env → Prop} : ∀ (m i : Nat) (env : Env), SeqP P w0 N ops S0 K m i env →
    ∃ pl : List (Nat × AV), pl.length = m ∧ (∀ j d v, pl[j]? = some (d, v) → ∃ o, ops[i + j]? = some o ∧ o.dst = some d ∧ d < N ∧ Gives P w0 S0 ops (envAt (pl.take j) env) o v) ∧ K (envAt pl env)
  | 0, i, env, h => ⟨[], rfl, by simp, h⟩
  | m + 1, i, env, ⟨o, d, v, h1, h2, h3, h4, h5⟩ => by
    obtain ⟨pl, q1, q2, q3⟩ := seq_plan m (i + 1) _ h5
    refine ⟨(d, v) :: pl, by simp [q1], fun j d' v' hj => ?_, q3⟩
    cases j with
    | zero => simp at hj; obtain ⟨rfl, rfl⟩ := hj; exact ⟨o, h1, h2, h3, h4⟩
    | succ j =>
      obtain ⟨o', g1, g2, g3, g4⟩ := q2 j d' v' (by simpa using hj)
      exact ⟨o', by rw [← g1]; congr 1; omega, g2, g3, g4⟩
theorem envAt_out : ∀ {pl : List (Nat × AV)} {env : Env} {t : Nat}, (∀ p ∈ pl, p.1 ≠ t) → envAt pl env t = env t
  | [], _, _, _ => rfl
  | p :: pl, env, t, h => by
    unfold envAt
    rw [List.foldl_cons]
    have := envAt_out (pl := pl) (env := upd env p.1 p.2) (t := t) fun q hq => h q (List.mem_cons_of_mem _ hq)
    unfold envAt at this
    rw [this]
    have hne := h p (List.mem_cons_self ..)
    simp [upd, Ne.symm hne]
theorem envAt_in : ∀ {pl : List (Nat × AV)} {env : Env} {j d : Nat} {v : AV}, (pl.map Prod.fst).Nodup → pl[j]? = some (d, v) → envAt pl env d = v
  | [], _, _, _, _, _, h => by simp at h
  | p :: pl, env, j, d, v, hn, h => by
    rw [List.map_cons, List.nodup_cons] at hn
    unfold envAt
    rw [List.foldl_cons]
    cases j with
    | zero =>
      simp at h; subst h
      have := envAt_out (pl := pl) (env := upd env d v) (t := d) fun q hq e => hn.1 (List.mem_map.2 ⟨q, hq, e⟩)
      unfold envAt at this
      rw [this]; simp [upd]
    | succ j =>
      have := envAt_in (pl := pl) (env := upd env p.1 p.2) hn.2 (by simpa using h)
      unfold envAt at this
      exact this
def seqOk (ops : Array Oper) (n : Nat) : Bool :=
  ((List.range n).all fun i => match ops[i]? with
    | some o => o.dst.isSome && (o.looksAt ops).all fun t => (List.range n).all fun j => match ops[j]? with
      | some oj => !(oj.dst == some t) || (decide (j < i) && !relB ops i j)
      | none => true
    | none => false) && decide (((List.range n).filterMap fun i => (ops[i]?).bind fun o : Oper => o.dst).Nodup)
def TailP (P : Program) (w0 : World) (n0 N : Nat) (r : Option Nat) (ops : Array Oper) (k : List TI) (Q : APost) : Nat → Nat → Env → List Blk → Prop
  | 0, _, env, S => RunX P w0 n0 N r k Q .normal env S
  | s + 1, i, env, S => OpA P w0 N ops Q i (fun env' S' => TailP P w0 n0 N r ops k Q s (i + 1) env' S') env S
def tailOk (ops : Array Oper) (n s : Nat) : Bool := (List.range s).all fun j => coverB ops (n + j)
theorem set_listed {listed : Array Bool} {i j : Nat} (h : j = i ∨ listed.getD j true = true) : (listed.setIfInBounds i true).getD j true = true := by
  rcases h with rfl | h
  · simp only [Array.getD_eq_getD_getElem?, Array.getElem?_setIfInBounds]
    by_cases hs : j < listed.size <;> simp [hs]
  · by_cases hji : j = i
    · subst hji
      simp only [Array.getD_eq_getD_getElem?, Array.getElem?_setIfInBounds]
      by_cases hs : j < listed.size <;> simp [hs]
    · rw [getD_set_ne true (Ne.symm hji)]; exact h
theorem DownC.set {listed : Array Bool} {i : Nat} {o : Oper} (h : DownC ops listed) (ho : ops[i]? = some o) (hd : ∀ e ∈ o.after, Region.binds .any e = true → listed.getD e.on false = true) : DownC ops (listed.setIfInBounds i true) := by
  have hset : ∀ m, listed.getD m false = true → (listed.setIfInBounds i true).getD m false = true := by
    intro m hm
    simp only [Array.getD_eq_getD_getElem?, Array.getElem?_setIfInBounds] at hm ⊢
    split
    · split <;> simp_all
    · exact hm
  intro j oj hoj hl e he hb
  by_cases hji : j = i
  · subst hji
    rw [ho] at hoj; cases hoj
    exact hset _ (hd e he hb)
  · rw [getD_set_ne true (Ne.symm hji)] at hl
    exact hset _ (h j oj hoj hl e he hb)
theorem cover_all {listed : Array Bool} {z : Nat} {o : Oper} (hcov : coverB ops z = true) (hz : ops[z]? = some o) (hd : ∀ e ∈ o.after, Region.binds .any e = true → listed.getD e.on false = true) (hdc : DownC ops listed) : ∀ j, j < z → listed.getD j true = true := by
  have hzl : z < ops.size := (Array.getElem?_eq_some_iff.1 hz).1
  have hall : ∀ m j, j + m = z → listed.getD j true = true ∨ j = z := by
    intro m
    induction m using Nat.strongRecOn with
    | _ m ih =>
      intro j hj
      by_cases hji : j = z
      · exact .inr hji
      · left
        have hc := List.all_eq_true.1 hcov j (List.mem_range.2 (by omega))
        obtain ⟨q, hq, hq2⟩ := List.any_eq_true.1 hc
        simp only [Bool.and_eq_true, decide_eq_true_eq, Bool.not_eq_true'] at hq2
        have hqi : q ≤ z := by have := List.mem_range.1 hq; omega
        rcases ih (z - q) (by omega) q (by omega) with hl | rfl
        · obtain ⟨oq, hoq⟩ : ∃ oq, ops[q]? = some oq := ⟨ops[q]'(by omega), Array.getElem?_eq_getElem (by omega)⟩
          obtain ⟨e, he, hb, heq⟩ := relB_false hoq hq2.2
          have := hdc q oq hoq hl e he hb
          rw [heq] at this
          exact getD_ft this
        · obtain ⟨e, he, hb, heq⟩ := relB_false hz hq2.2
          have := hd e he hb
          rw [heq] at this
          exact getD_ft this
  exact fun j hj => (hall (z - j) j (by omega)).resolve_right (by omega)
theorem d_seq (n s : Nat) {env0 : Env} (hn : ops.size = n + s) (hok : seqOk ops n = true) (hdep : depsOk ops = true) (htl : tailOk ops n s = true)
    (h : SeqP P w0 N ops S0 (fun env => TailP P w0 n0 N r ops k Q s n env S0) n 0 env0) : AnyP P w0 n0 N r ops k Q (n + s) (Array.replicate (n + s) false) [] env0 S0 := by
  obtain ⟨pl, hpl, hgv, hK⟩ := seq_plan n 0 env0 h
  simp only [Nat.zero_add] at hgv
  simp only [seqOk, Bool.and_eq_true, List.all_eq_true, List.mem_range, decide_eq_true_eq] at hok
  obtain ⟨hlk, hnd0⟩ := hok
  have hdst : ∀ j d v, pl[j]? = some (d, v) → (ops[j]?).bind (fun o : Oper => o.dst) = some d := fun j d v hj => by
    obtain ⟨o, h1, h2, _⟩ := hgv j d v hj
    rw [h1]; exact h2
  have hmap : pl.map Prod.fst = (List.range n).filterMap fun i => (ops[i]?).bind fun o : Oper => o.dst := by
    have key : ∀ (m : Nat) (q : List (Nat × AV)) (i : Nat), q.length = m → (∀ j d v, q[j]? = some (d, v) → (ops[i + j]?).bind (fun o : Oper => o.dst) = some d) → q.map Prod.fst = (List.range' i m).filterMap fun i => (ops[i]?).bind fun o : Oper => o.dst := by
      intro m
      induction m with
      | zero => intro q i hq _; rw [List.length_eq_zero_iff.1 hq]; rfl
      | succ m ih =>
        intro q i hq hh
        match q, hq with
        | (d, v) :: q, hq =>
          rw [List.range'_succ, List.filterMap_cons_some (by simpa using hh 0 d v rfl), List.map_cons]
          congr 1
          refine ih q (i + 1) (by simpa using hq) fun j d' v' hj => ?_
          have := hh (j + 1) d' v' (by simpa using hj)
          rw [← this]; congr 2; omega
    rw [List.range_eq_range']
    exact key n pl 0 hpl (fun j d v hj => by rw [Nat.zero_add]; exact hdst j d v hj)
  have hnd : (pl.map Prod.fst).Nodup := by rw [hmap]; exact hnd0
  have hmid : ∀ (i j d : Nat) (v : AV), j < i → pl[j]? = some (d, v) → envAt (pl.take i) env0 d = v := fun i j d v hji hj =>
    envAt_in (j := j) (by rw [List.map_take]; exact hnd.sublist (List.take_sublist _ _)) (by rw [List.getElem?_take, if_pos hji]; exact hj)
  have hget : ∀ i, i < n → ∃ d v, pl[i]? = some (d, v) := fun i hi => ⟨(pl[i]'(by omega)).1, (pl[i]'(by omega)).2, List.getElem?_eq_getElem (by omega)⟩
  refine d_inv (fun listed env S => ((∀ i, n ≤ i → i < n + s → listed.getD i true = false) ∧ (∀ (i d : Nat) (v : AV), pl[i]? = some (d, v) → listed.getD i true = true → env d = v) ∧ (∀ t, (∀ p ∈ pl, p.1 ≠ t) → env t = env0 t) ∧ S = S0 ∧ DownC ops listed) ∨
    (∃ j, j < s ∧ (∀ i, i ≤ n + j → listed.getD i true = true) ∧ (∀ i, n + j < i → i < n + s → listed.getD i true = false) ∧ DownC ops listed ∧ TailP P w0 n0 N r ops k Q (s - (j + 1)) (n + j + 1) env S)) ?step ?fin (n + s) _ _ _ ?init ?left
  case left =>
    unfold leftN
    rw [← hn]
    exact Nat.le_trans (List.countP_le_length) (by simp)
  case init =>
    have hrep : ∀ i, i < n + s → (Array.replicate (n + s) false).getD i true = false := fun i hi => by simp [Array.getD, hi]
    refine .inl ⟨fun i _ hi => hrep i hi, fun i d v hi hl => ?_, fun _ _ => rfl, rfl, fun j o ho hl => ?_⟩
    · have h1 := (List.getElem?_eq_some_iff.1 hi).1
      rw [hrep i (by omega)] at hl; cases hl
    · have h1 := (Array.getElem?_eq_some_iff.1 ho).1
      rw [hrep j (by omega)] at hl; cases hl
  case fin =>
    intro listed env S hI hr
    have hal := all_listed hdep hr
    rcases hI with ⟨h1, h2, h3, rfl, _⟩ | ⟨j, hj, h1, h2, _, ht⟩
    · have hs0 : s = 0 := by
        rcases Nat.eq_zero_or_pos s with h | h
        · exact h
        · have := h1 n (Nat.le_refl _) (by omega)
          rw [hal n (by omega)] at this; cases this
      subst hs0
      have he : env = envAt pl env0 := by
        funext t
        by_cases ht : ∀ p ∈ pl, p.1 ≠ t
        · rw [h3 t ht, envAt_out ht]
        · have ht : ∃ p ∈ pl, p.1 = t := by
            apply Classical.byContradiction
            intro hne
            exact ht fun p hp e => hne ⟨p, hp, e⟩
          obtain ⟨p, hp, rfl⟩ := ht
          obtain ⟨i, hi⟩ := List.getElem?_of_mem hp
          have hil := (List.getElem?_eq_some_iff.1 hi).1
          rw [h2 i p.1 p.2 hi (hal i (by omega)), envAt_in hnd hi]
      rw [he]; exact hK
    · have hjs : j + 1 = s := by
        rcases Nat.lt_or_ge (j + 1) s with h | h
        · have := h2 (n + j + 1) (by omega) (by omega)
          rw [hal (n + j + 1) (by omega)] at this; cases this
        · omega
      rw [show s - (j + 1) = 0 by omega] at ht
      exact ht
  case step =>
    intro listed env S i o hI ho hu hd
    have hi : i < n + s := by have := (Array.getElem?_eq_some_iff.1 ho).1; omega
    rcases hI with ⟨h1, h2, h3, rfl, h5⟩ | ⟨j, hj, h1, h2, h5, ht⟩
    · by_cases hin : i < n
      · obtain ⟨d, v, hf⟩ := hget i hin
        obtain ⟨o', g1, g2, g3, g4⟩ := hgv i d v hf
        rw [ho] at g1; cases g1
        have hag : ∀ t ∈ o.looksAt ops, env t = envAt (pl.take i) env0 t := by
          intro t ht
          by_cases hto : ∀ p ∈ pl, p.1 ≠ t
          · rw [h3 t hto, envAt_out fun p hp => hto p (List.mem_of_mem_take hp)]
          · have hto : ∃ p ∈ pl, p.1 = t := by
              apply Classical.byContradiction
              intro hne
              exact hto fun p hp e => hne ⟨p, hp, e⟩
            obtain ⟨p, hp, rfl⟩ := hto
            obtain ⟨j, hj⟩ := List.getElem?_of_mem hp
            have hjl := (List.getElem?_eq_some_iff.1 hj).1
            obtain ⟨oj, w1, w2, _, _⟩ := hgv j p.1 p.2 hj
            have hc := hlk i hin
            rw [ho] at hc
            simp only [Bool.and_eq_true, List.all_eq_true, List.mem_range] at hc
            have hc2 := hc.2 p.1 ht j (by omega)
            rw [w1] at hc2
            simp only [w2, beq_self_eq_true, Bool.not_true, Bool.false_or, Bool.and_eq_true, decide_eq_true_eq, Bool.not_eq_true'] at hc2
            obtain ⟨e, he, hb, heq⟩ := relB_false ho hc2.2
            have := hd e he hb
            rw [heq] at this
            rw [h2 j p.1 p.2 hj (getD_ft this), hmid i j p.1 p.2 hc2.1 hj]
        refine Gives.op ho g2 g3 (g4.agree hag) (.inl ⟨fun m hm hm2 => ?_, fun m d' v' hm hl => ?_, fun t ht => ?_, rfl, h5.set ho hd⟩)
        · rw [getD_set_ne true (by omega)]; exact h1 m hm hm2
        · by_cases hmi : m = i
          · subst hmi
            rw [hf] at hm; cases hm
            simp [upd]
          · have hde : d' ≠ d := fun hh => by
              subst hh
              have e1 : (pl.map Prod.fst)[m]? = some d' := by rw [List.getElem?_map, hm]; rfl
              have e2 : (pl.map Prod.fst)[i]? = some d' := by rw [List.getElem?_map, hf]; rfl
              have hml : m < (pl.map Prod.fst).length := (List.getElem?_eq_some_iff.1 e1).1
              exact hmi ((List.getElem?_inj hml hnd).1 (e1.trans e2.symm))
            rw [show upd env d v d' = env d' by simp [upd, hde]]
            rw [getD_set_ne true (Ne.symm hmi)] at hl
            exact h2 m d' v' hm hl
        · have hne : t ≠ d := fun e => ht (d, v) (List.mem_of_getElem? hf) e.symm
          rw [show upd env d v t = env t by simp [upd, hne]]
          exact h3 t ht
      · have hcov := List.all_eq_true.1 htl (i - n) (List.mem_range.2 (by omega))
        rw [show n + (i - n) = i by omega] at hcov
        have hl := cover_all hcov ho hd h5
        have hien : i = n := by
          rcases Nat.lt_or_ge n i with h | h
          · have := h1 n (Nat.le_refl _) (by omega)
            rw [hl n h] at this; cases this
          · omega
        subst hien
        have he : env = envAt pl env0 := by
          funext t
          by_cases ht : ∀ p ∈ pl, p.1 ≠ t
          · rw [h3 t ht, envAt_out ht]
          · have ht : ∃ p ∈ pl, p.1 = t := by
              apply Classical.byContradiction
              intro hne
              exact ht fun p hp e => hne ⟨p, hp, e⟩
            obtain ⟨p, hp, rfl⟩ := ht
            obtain ⟨j, hj⟩ := List.getElem?_of_mem hp
            have hjl := (List.getElem?_eq_some_iff.1 hj).1
            rw [h2 j p.1 p.2 hj (hl j (by omega)), envAt_in hnd hj]
        subst he
        obtain ⟨s', rfl⟩ : ∃ s', s = s' + 1 := ⟨s - 1, by omega⟩
        unfold TailP at hK
        refine hK.mono fun env' S' ht => .inr ⟨0, by omega, fun m hm => set_listed ?_, fun m hm hm2 => ?_, h5.set ho hd, ht⟩
        · by_cases e : m = i
          · exact .inl e
          · exact .inr (hl m (by omega))
        · rw [getD_set_ne true (by omega)]
          exact h1 m (by omega) hm2
    · have hcov := List.all_eq_true.1 htl (i - n) (List.mem_range.2 (by
        rcases Nat.lt_or_ge i n with h | h
        · rw [h1 i (by omega)] at hu; cases hu
        · omega))
      have hin : n + j < i := by
        rcases Nat.lt_or_ge (n + j) i with h | h
        · exact h
        · rw [h1 i h] at hu; cases hu
      rw [show n + (i - n) = i by omega] at hcov
      have hl := cover_all hcov ho hd h5
      have hij : i = n + j + 1 := by
        rcases Nat.lt_or_ge (n + j + 1) i with h | h
        · have := h2 (n + j + 1) (by omega) (by omega)
          rw [hl (n + j + 1) h] at this; cases this
        · omega
      subst hij
      obtain ⟨s', hs'⟩ : ∃ s', s - (j + 1) = s' + 1 := ⟨s - (j + 1) - 1, by omega⟩
      rw [hs'] at ht
      unfold TailP at ht
      refine ht.mono fun env' S' ht => .inr ⟨j + 1, by omega, fun m hm => set_listed ?_, fun m hm hm2 => ?_, h5.set ho hd, ?_⟩
      · by_cases e : m = n + j + 1
        · exact .inl e
        · exact .inr (h1 m (by omega))
      · rw [getD_set_ne true (by omega)]
        exact h2 m (by omega) hm2
      · rw [show s - (j + 1 + 1) = s' by omega]
        exact ht
variable {K : Env → Prop} {m i d : Nat} {o : Oper} {env : Env} {v : AV}
theorem q_unw (ho : ops[i]? = some o) (hg : guardA ops env o = some false) (hd : o.dst = some d) (hN : decide (d < N) = true) (h : SeqP P w0 N ops S0 K m (i + 1) (upd env d (.tup []))) : SeqP P w0 N ops S0 K (m + 1) i env :=
  ⟨o, d, _, ho, hd, by simpa using hN, .inl ⟨hg, rfl⟩, h⟩
theorem q_step (ho : ops[i]? = some o) (hg : guardA ops env o = some true) (hs : stepF P S0 (evalA w0 env) o.op = some (v, S0)) (hd : o.dst = some d) (hN : decide (d < N) = true) (h : SeqP P w0 N ops S0 K m (i + 1) (upd env d v)) : SeqP P w0 N ops S0 K (m + 1) i env :=
  ⟨o, d, v, ho, hd, by simpa using hN, .inr (.inl ⟨hg, hs⟩), h⟩
theorem q_call {fop : Operand} {args : Array Operand} {tys : Array TypeId} {f : FuncId} {first cap A : List AV} (ho : ops[i]? = some o) (hg : guardA ops env o = some true) (hop : o.op = .call ⟨.value fop, args, tys⟩) (hf : evalA w0 env fop = .fn (.func f) first cap) (hd : o.dst = some d) (hN : decide (d < N) = true)
    (hA : cvL S0 (first ++ args.toList.map (evalA w0 env) ++ cap) = A) (hc : ∀ R : AOut → List Blk → Prop, R (.ret v) S0 → ACall P w0 f A S0 R) (h : SeqP P w0 N ops S0 K m (i + 1) (upd env d v)) : SeqP P w0 N ops S0 K (m + 1) i env :=
  ⟨o, d, v, ho, hd, by simpa using hN, .inr (.inr ⟨hg, fop, args, tys, f, first, cap, A, hop, hf, hA, hc⟩), h⟩
theorem q_end (h : K env) : SeqP P w0 N ops S0 K 0 i env := h
theorem t_op {s : Nat} {S : List Blk} (h : OpA P w0 N ops Q i (fun env' S' => TailP P w0 n0 N r ops k Q s (i + 1) env' S') env S) : TailP P w0 n0 N r ops k Q (s + 1) i env S := h
theorem t_end {S : List Blk} (h : RunX P w0 n0 N r k Q .normal env S) : TailP P w0 n0 N r ops k Q 0 i env S := h
theorem q_guard {b : Bool} (hg : guardA ops env o = some b) (ho : ops[i]? = some o) (ht : b = true → SeqP P w0 N ops S0 K (m + 1) i env) (hf : b = false → SeqP P w0 N ops S0 K (m + 1) i env) : SeqP P w0 N ops S0 K (m + 1) i env := by
  cases b
  · exact hf rfl
  · exact ht rfl
end
attribute [irreducible] SeqP TailP
theorem sq {G K : Prop} (h : K) (run : Hid K → G := by
  intro kk
  first
  | apply q_end; exact kk.out
  | apply t_end; exact kk.out
  | apply t_op; exact kk.out
  | apply q_step; (· simp only [go_sem, *]; try rfl); (· simp only [go_sem, *]; try rfl); (· simp only [go_sem, *]; try rfl); (· rfl); (· rfl); exact kk.out
  | apply q_unw; (· simp only [go_sem, *]; try rfl); (· simp only [go_sem, *]; try rfl); (· rfl); (· rfl); exact kk.out
  | fail) : G := run h
theorem bq {G K L : Prop} (h : K) (h' : L) (run : Hid K → Hid L → G := by
  intro kk ll
  first
  | apply q_guard; (· simp only [go_sem, *]; try rfl); (· simp only [go_sem, *]; try rfl); (· exact kk.out); exact ll.out
  | fail) : G := run h h'
end Go.Fen
namespace Go.Fen
open Go.RowKit
section
variable {P : Program} {w0 : World} {n0 N : Nat} {r : Option Nat} {Q : APost} {k : List TI} {ops : Array Oper} {S0 : List Blk}
def storeOk (ops : Array Oper) (n : Nat) : Bool := match ops[n]? with
  | some o => o.dst.isNone && (o.looksAt ops).all fun t => (List.range n).all fun j => match ops[j]? with
    | some oj => !(oj.dst == some t) || !relB ops n j
    | none => true
  | none => false
def floats (ops : Array Oper) (n : Nat) : List Nat := (List.range n).filter fun i => relB ops n i
def FloatP (P : Program) (w0 : World) (ops : Array Oper) (S1 : List Blk) (env : Env) : List Nat → Prop
  | [] => True
  | i :: l => (∃ o d, ops[i]? = some o ∧ o.dst = some d ∧ Gives P w0 S1 ops env o (env d)) ∧ FloatP P w0 ops S1 env l
theorem FloatP.get {S1 : List Blk} {env : Env} : ∀ {l : List Nat} {i : Nat}, FloatP P w0 ops S1 env l → i ∈ l → ∃ o d, ops[i]? = some o ∧ o.dst = some d ∧ Gives P w0 S1 ops env o (env d)
  | _ :: _, _, h, hm => by
    rcases List.mem_cons.1 hm with rfl | hm
    · exact h.1
    · exact FloatP.get h.2 hm
def MixP (P : Program) (w0 : World) (n0 N : Nat) (r : Option Nat) (ops : Array Oper) (k : List TI) (Q : APost) (S0 : List Blk) (n s : Nat) (env : Env) : Prop :=
  ∃ S1 v o, ops[n]? = some o ∧ guardA ops env o = some true ∧ stepF P S0 (evalA w0 env) o.op = some (v, S1) ∧ FloatP P w0 ops S1 env (floats ops n) ∧ TailP P w0 n0 N r ops k Q s (n + 1) env S1
theorem d_mix (n s : Nat) {env0 : Env} (hn : ops.size = n + 1 + s) (hok : seqOk ops n = true) (hst : storeOk ops n = true) (hdep : depsOk ops = true) (htl : tailOk ops (n + 1) s = true)
    (h : SeqP P w0 N ops S0 (fun env => MixP P w0 n0 N r ops k Q S0 n s env) n 0 env0) : AnyP P w0 n0 N r ops k Q (n + 1 + s) (Array.replicate (n + 1 + s) false) [] env0 S0 := by
  obtain ⟨pl, hpl, hgv, hK⟩ := seq_plan n 0 env0 h
  simp only [Nat.zero_add] at hgv
  obtain ⟨S1, vz, oz, hoz, hgz, hsz, hfl, hT⟩ := hK
  simp only [seqOk, Bool.and_eq_true, List.all_eq_true, List.mem_range, decide_eq_true_eq] at hok
  obtain ⟨hlk, hnd0⟩ := hok
  unfold storeOk at hst
  rw [hoz] at hst
  simp only [Bool.and_eq_true, List.all_eq_true, List.mem_range, Option.isNone_iff_eq_none] at hst
  obtain ⟨hzd, hzl⟩ := hst
  have hdst : ∀ j d v, pl[j]? = some (d, v) → (ops[j]?).bind (fun o : Oper => o.dst) = some d := fun j d v hj => by
    obtain ⟨o, h1, h2, _⟩ := hgv j d v hj
    rw [h1]; exact h2
  have hmap : pl.map Prod.fst = (List.range n).filterMap fun i => (ops[i]?).bind fun o : Oper => o.dst := by
    have key : ∀ (m : Nat) (q : List (Nat × AV)) (i : Nat), q.length = m → (∀ j d v, q[j]? = some (d, v) → (ops[i + j]?).bind (fun o : Oper => o.dst) = some d) → q.map Prod.fst = (List.range' i m).filterMap fun i => (ops[i]?).bind fun o : Oper => o.dst := by
      intro m
      induction m with
      | zero => intro q i hq _; rw [List.length_eq_zero_iff.1 hq]; rfl
      | succ m ih =>
        intro q i hq hh
        match q, hq with
        | (d, v) :: q, hq =>
          rw [List.range'_succ, List.filterMap_cons_some (by simpa using hh 0 d v rfl), List.map_cons]
          congr 1
          refine ih q (i + 1) (by simpa using hq) fun j d' v' hj => ?_
          have := hh (j + 1) d' v' (by simpa using hj)
          rw [← this]; congr 2; omega
    rw [List.range_eq_range']
    exact key n pl 0 hpl (fun j d v hj => by rw [Nat.zero_add]; exact hdst j d v hj)
  have hnd : (pl.map Prod.fst).Nodup := by rw [hmap]; exact hnd0
  have hmid : ∀ (i j d : Nat) (v : AV), j < i → pl[j]? = some (d, v) → envAt (pl.take i) env0 d = v := fun i j d v hji hj =>
    envAt_in (j := j) (by rw [List.map_take]; exact hnd.sublist (List.take_sublist _ _)) (by rw [List.getElem?_take, if_pos hji]; exact hj)
  have hget : ∀ i, i < n → ∃ d v, pl[i]? = some (d, v) := fun i hi => ⟨(pl[i]'(by omega)).1, (pl[i]'(by omega)).2, List.getElem?_eq_getElem (by omega)⟩
  have hslot : ∀ (listed : Array Bool) (env : Env), (∀ (i d : Nat) (v : AV), pl[i]? = some (d, v) → listed.getD i true = true → env d = v) → (∀ t, (∀ p ∈ pl, p.1 ≠ t) → env t = env0 t) →
      ∀ t, (∀ j oj, j < n → ops[j]? = some oj → oj.dst = some t → listed.getD j true = true) → env t = envAt pl env0 t := by
    intro listed env h2 h3 t hw
    by_cases hto : ∀ p ∈ pl, p.1 ≠ t
    · rw [h3 t hto, envAt_out hto]
    · have hto : ∃ p ∈ pl, p.1 = t := by
        apply Classical.byContradiction
        intro hne
        exact hto fun p hp e => hne ⟨p, hp, e⟩
      obtain ⟨p, hp, rfl⟩ := hto
      obtain ⟨j, hj⟩ := List.getElem?_of_mem hp
      have hjl := (List.getElem?_eq_some_iff.1 hj).1
      obtain ⟨oj, w1, w2, _, _⟩ := hgv j p.1 p.2 hj
      rw [h2 j p.1 p.2 hj (hw j oj (by omega) w1 w2), envAt_in hnd hj]
  have hone : ∀ (listed : Array Bool) (env : Env) (i d : Nat) (v : AV), (∀ (i d : Nat) (v : AV), pl[i]? = some (d, v) → listed.getD i true = true → env d = v) → (∀ t, (∀ p ∈ pl, p.1 ≠ t) → env t = env0 t) → pl[i]? = some (d, v) →
      (∀ (m d' : Nat) (v' : AV), pl[m]? = some (d', v') → (listed.setIfInBounds i true).getD m true = true → upd env d v d' = v') ∧ (∀ t, (∀ p ∈ pl, p.1 ≠ t) → upd env d v t = env0 t) := by
    intro listed env i d v h2 h3 hf
    refine ⟨fun m d' v' hm hl => ?_, fun t ht => ?_⟩
    · by_cases hmi : m = i
      · subst hmi
        rw [hf] at hm; cases hm
        simp [upd]
      · have hde : d' ≠ d := fun hh => by
          subst hh
          have e1 : (pl.map Prod.fst)[m]? = some d' := by rw [List.getElem?_map, hm]; rfl
          have e2 : (pl.map Prod.fst)[i]? = some d' := by rw [List.getElem?_map, hf]; rfl
          have hml : m < (pl.map Prod.fst).length := (List.getElem?_eq_some_iff.1 e1).1
          exact hmi ((List.getElem?_inj hml hnd).1 (e1.trans e2.symm))
        rw [show upd env d v d' = env d' by simp [upd, hde]]
        rw [getD_set_ne true (Ne.symm hmi)] at hl
        exact h2 m d' v' hm hl
    · have hne : t ≠ d := fun e => ht (d, v) (List.mem_of_getElem? hf) e.symm
      rw [show upd env d v t = env t by simp [upd, hne]]
      exact h3 t ht
  have hdeps : ∀ (listed : Array Bool) (i : Nat) (o : Oper), i < n → ops[i]? = some o → (∀ e ∈ o.after, Region.binds .any e = true → listed.getD e.on false = true) → ∀ t ∈ o.looksAt ops, ∀ j oj, j < n → ops[j]? = some oj → oj.dst = some t → j < i ∧ listed.getD j true = true := by
    intro listed i o hin ho hd t ht j oj hj hoj hdj
    have hc := hlk i hin
    rw [ho] at hc
    simp only [Bool.and_eq_true, List.all_eq_true, List.mem_range] at hc
    have hc2 := hc.2 t ht j hj
    rw [hoj] at hc2
    simp only [hdj, beq_self_eq_true, Bool.not_true, Bool.false_or, Bool.and_eq_true, decide_eq_true_eq, Bool.not_eq_true'] at hc2
    obtain ⟨e, he, hb, heq⟩ := relB_false ho hc2.2
    have := hd e he hb
    rw [heq] at this
    exact ⟨hc2.1, getD_ft this⟩
  refine d_inv (fun listed env S => ((∀ i, n ≤ i → i < n + 1 + s → listed.getD i true = false) ∧ (∀ (i d : Nat) (v : AV), pl[i]? = some (d, v) → listed.getD i true = true → env d = v) ∧ (∀ t, (∀ p ∈ pl, p.1 ≠ t) → env t = env0 t) ∧ S = S0 ∧ DownC ops listed) ∨
    (listed.getD n true = true ∧ (∀ i, n + 1 ≤ i → i < n + 1 + s → listed.getD i true = false) ∧ (∀ (i d : Nat) (v : AV), pl[i]? = some (d, v) → listed.getD i true = true → env d = v) ∧ (∀ t, (∀ p ∈ pl, p.1 ≠ t) → env t = env0 t) ∧ S = S1 ∧ DownC ops listed) ∨
    (∃ j, j < s ∧ (∀ i, i ≤ n + 1 + j → listed.getD i true = true) ∧ (∀ i, n + 1 + j < i → i < n + 1 + s → listed.getD i true = false) ∧ DownC ops listed ∧ TailP P w0 n0 N r ops k Q (s - (j + 1)) (n + 1 + j + 1) env S)) ?step ?fin (n + 1 + s) _ _ _ ?init ?left
  case left =>
    unfold leftN
    rw [← hn]
    exact Nat.le_trans (List.countP_le_length) (by simp)
  case init =>
    have hrep : ∀ i, i < n + 1 + s → (Array.replicate (n + 1 + s) false).getD i true = false := fun i hi => by simp [Array.getD, hi]
    refine .inl ⟨fun i _ hi => hrep i hi, fun i d v hi hl => ?_, fun _ _ => rfl, rfl, fun j o ho hl => ?_⟩
    · have h1 := (List.getElem?_eq_some_iff.1 hi).1
      rw [hrep i (by omega)] at hl; cases hl
    · have h1 := (Array.getElem?_eq_some_iff.1 ho).1
      rw [hrep j (by omega)] at hl; cases hl
  case fin =>
    intro listed env S hI hr
    have hal := all_listed hdep hr
    rcases hI with ⟨h1, _⟩ | ⟨h0, h1, h2, h3, rfl, _⟩ | ⟨j, hj, h1, h2, _, ht⟩
    · have := h1 n (Nat.le_refl _) (by omega)
      rw [hal n (by omega)] at this; cases this
    · have hs0 : s = 0 := by
        rcases Nat.eq_zero_or_pos s with h | h
        · exact h
        · have := h1 (n + 1) (Nat.le_refl _) (by omega)
          rw [hal (n + 1) (by omega)] at this; cases this
      subst hs0
      have he : env = envAt pl env0 := funext fun t => hslot listed env h2 h3 t fun j oj hj _ _ => hal j (by omega)
      rw [he]
      unfold TailP at hT
      exact hT
    · have hjs : j + 1 = s := by
        rcases Nat.lt_or_ge (j + 1) s with h | h
        · have := h2 (n + 1 + j + 1) (by omega) (by omega)
          rw [hal (n + 1 + j + 1) (by omega)] at this; cases this
        · omega
      rw [show s - (j + 1) = 0 by omega] at ht
      unfold TailP at ht
      exact ht
  case step =>
    intro listed env S i o hI ho hu hd
    have hi : i < n + 1 + s := by have := (Array.getElem?_eq_some_iff.1 ho).1; omega
    rcases hI with ⟨h1, h2, h3, rfl, h5⟩ | ⟨h0, h1, h2, h3, rfl, h5⟩ | ⟨j, hj, h1, h2, h5, ht⟩
    · by_cases hin : i < n
      · obtain ⟨d, v, hf⟩ := hget i hin
        obtain ⟨o', g1, g2, g3, g4⟩ := hgv i d v hf
        rw [ho] at g1; cases g1
        have hag : ∀ t ∈ o.looksAt ops, env t = envAt (pl.take i) env0 t := by
          intro t ht
          by_cases hto : ∀ p ∈ pl, p.1 ≠ t
          · rw [h3 t hto, envAt_out fun p hp => hto p (List.mem_of_mem_take hp)]
          · have hto : ∃ p ∈ pl, p.1 = t := by
              apply Classical.byContradiction
              intro hne
              exact hto fun p hp e => hne ⟨p, hp, e⟩
            obtain ⟨p, hp, rfl⟩ := hto
            obtain ⟨j, hj⟩ := List.getElem?_of_mem hp
            have hjl := (List.getElem?_eq_some_iff.1 hj).1
            obtain ⟨oj, w1, w2, _, _⟩ := hgv j p.1 p.2 hj
            have hc := hdeps listed i o hin ho hd p.1 ht j oj (by omega) w1 w2
            rw [h2 j p.1 p.2 hj hc.2, hmid i j p.1 p.2 hc.1 hj]
        obtain ⟨q1, q2⟩ := hone listed env i d v h2 h3 hf
        refine Gives.op ho g2 g3 (g4.agree hag) (.inl ⟨fun m hm hm2 => ?_, q1, q2, rfl, h5.set ho hd⟩)
        rw [getD_set_ne true (by omega)]; exact h1 m hm hm2
      · by_cases hiz : i = n
        · subst hiz
          rw [hoz] at ho; cases ho
          have hag : ∀ t ∈ oz.looksAt ops, env t = envAt pl env0 t := by
            intro t ht
            refine hslot listed env h2 h3 t fun j oj hj hoj hdj => ?_
            have hc2 := hzl t ht j hj
            rw [hoj] at hc2
            simp only [hdj, beq_self_eq_true, Bool.not_true, Bool.false_or, Bool.not_eq_true'] at hc2
            obtain ⟨e, he, hb, heq⟩ := relB_false hoz hc2
            have := hd e he hb
            rw [heq] at this
            exact getD_ft this
          have hop : ∀ x ∈ oz.op.operands, evalA w0 env x = evalA w0 (envAt pl env0) x := fun x hx => by
            cases x with
            | tmp t => exact hag t (looks_tmp hx)
            | _ => rfl
          refine ⟨oz, hoz, by rw [hzd]; rfl, ?_⟩
          rw [hzd]
          refine .inr (.inl ⟨(guardA_agree hag).trans hgz, vz, S1, by rw [stepF_congr hop]; exact hsz, .inr (.inl ⟨?_, fun m hm hm2 => ?_, fun m d' v' hm hl => ?_, h3, rfl, h5.set hoz hd⟩)⟩)
          · exact set_listed (.inl rfl)
          · rw [getD_set_ne true (by omega)]; exact h1 m (by omega) hm2
          · have hml := (List.getElem?_eq_some_iff.1 hm).1
            rw [getD_set_ne true (by omega)] at hl
            exact h2 m d' v' hm hl
        · have hcov := List.all_eq_true.1 htl (i - (n + 1)) (List.mem_range.2 (by omega))
          rw [show n + 1 + (i - (n + 1)) = i by omega] at hcov
          have hl := cover_all hcov ho hd h5
          have := h1 n (Nat.le_refl _) (by omega)
          rw [hl n (by omega)] at this; cases this
    · by_cases hin : i < n
      · obtain ⟨d, v, hf⟩ := hget i hin
        have hre : relB ops n i = true := by
          cases hb : relB ops n i with
          | true => rfl
          | false =>
            obtain ⟨e, he, hb, heq⟩ := relB_false hoz hb
            have := h5 n oz hoz h0 e he hb
            rw [heq] at this
            rw [getD_ft this] at hu; cases hu
        obtain ⟨o', d', g1, g2, g4⟩ := hfl.get (List.mem_filter.2 ⟨List.mem_range.2 hin, hre⟩)
        rw [ho] at g1; cases g1
        obtain ⟨o'', g5, g6, g7, _⟩ := hgv i d v hf
        rw [ho] at g5; cases g5
        obtain rfl : d' = d := Option.some.inj (g2.symm.trans g6)
        rw [envAt_in hnd hf] at g4
        have hag : ∀ t ∈ o.looksAt ops, env t = envAt pl env0 t := fun t ht =>
          hslot listed env h2 h3 t fun j oj hj hoj hdj => (hdeps listed i o hin ho hd t ht j oj hj hoj hdj).2
        obtain ⟨q1, q2⟩ := hone listed env i d' v h2 h3 hf
        refine Gives.op ho g2 g7 (g4.agree hag) (.inr (.inl ⟨?_, fun m hm hm2 => ?_, q1, q2, rfl, h5.set ho hd⟩))
        · exact set_listed (.inr h0)
        · rw [getD_set_ne true (by omega)]; exact h1 m hm hm2
      · have hin2 : n < i := by
          rcases Nat.lt_or_ge n i with h | h
          · exact h
          · have : i = n := by omega
            subst this
            rw [h0] at hu; cases hu
        have hcov := List.all_eq_true.1 htl (i - (n + 1)) (List.mem_range.2 (by omega))
        rw [show n + 1 + (i - (n + 1)) = i by omega] at hcov
        have hl := cover_all hcov ho hd h5
        have hien : i = n + 1 := by
          rcases Nat.lt_or_ge (n + 1) i with h | h
          · have := h1 (n + 1) (Nat.le_refl _) (by omega)
            rw [hl (n + 1) h] at this; cases this
          · omega
        subst hien
        have he : env = envAt pl env0 := funext fun t => hslot listed env h2 h3 t fun j oj hj _ _ => hl j (by omega)
        subst he
        obtain ⟨s', rfl⟩ : ∃ s', s = s' + 1 := ⟨s - 1, by omega⟩
        unfold TailP at hT
        refine hT.mono fun env' S' ht => .inr (.inr ⟨0, by omega, fun m hm => set_listed ?_, fun m hm hm2 => ?_, h5.set ho hd, ht⟩)
        · by_cases e : m = n + 1
          · exact .inl e
          · exact .inr (hl m (by omega))
        · rw [getD_set_ne true (by omega)]
          exact h1 m (by omega) hm2
    · have hcov := List.all_eq_true.1 htl (i - (n + 1)) (List.mem_range.2 (by
        rcases Nat.lt_or_ge i (n + 1) with h | h
        · rw [h1 i (by omega)] at hu; cases hu
        · omega))
      have hin : n + 1 + j < i := by
        rcases Nat.lt_or_ge (n + 1 + j) i with h | h
        · exact h
        · rw [h1 i h] at hu; cases hu
      rw [show n + 1 + (i - (n + 1)) = i by omega] at hcov
      have hl := cover_all hcov ho hd h5
      have hij : i = n + 1 + j + 1 := by
        rcases Nat.lt_or_ge (n + 1 + j + 1) i with h | h
        · have := h2 (n + 1 + j + 1) (by omega) (by omega)
          rw [hl (n + 1 + j + 1) h] at this; cases this
        · omega
      subst hij
      obtain ⟨s', hs'⟩ : ∃ s', s - (j + 1) = s' + 1 := ⟨s - (j + 1) - 1, by omega⟩
      rw [hs'] at ht
      unfold TailP at ht
      refine ht.mono fun env' S' ht => .inr (.inr ⟨j + 1, by omega, fun m hm => set_listed ?_, fun m hm hm2 => ?_, h5.set ho hd, ?_⟩)
      · by_cases e : m = n + 1 + j + 1
        · exact .inl e
        · exact .inr (h1 m (by omega))
      · rw [getD_set_ne true (by omega)]
        exact h2 m (by omega) hm2
      · rw [show s - (j + 1 + 1) = s' by omega]
        exact ht
variable {n s : Nat} {env : Env}
theorem m_store {S1 : List Blk} {v : AV} {o : Oper} {fl : List Nat} (ho : ops[n]? = some o) (hg : guardA ops env o = some true) (hs : stepF P S0 (evalA w0 env) o.op = some (v, S1)) (hf : floats ops n = fl) (h1 : FloatP P w0 ops S1 env fl) (h : TailP P w0 n0 N r ops k Q s (n + 1) env S1) : MixP P w0 n0 N r ops k Q S0 n s env :=
  ⟨S1, v, o, ho, hg, hs, by rw [hf]; exact h1, h⟩
theorem fl_nil {S1 : List Blk} : FloatP P w0 ops S1 env [] := trivial
theorem fl_cons {S1 : List Blk} {i d : Nat} {l : List Nat} {o : Oper} {v : AV} (ho : ops[i]? = some o) (hd : o.dst = some d) (hg : guardA ops env o = some true) (hs : stepF P S1 (evalA w0 env) o.op = some (v, S1)) (he : env d = v) (h : FloatP P w0 ops S1 env l) : FloatP P w0 ops S1 env (i :: l) :=
  ⟨⟨o, d, ho, hd, by rw [he]; exact .inr (.inl ⟨hg, hs⟩)⟩, h⟩
end
end Go.Fen
namespace Go.Fen
open Go.RowKit
section
variable {P : Program} {w0 : World} {n0 N : Nat} {r : Option Nat} {Q : APost} {k : List TI} {ops : Array Oper}
def notDst (pl : List (Option (Nat × AV))) (t : Nat) : Bool := pl.all fun p => match p with
  | some p => !(p.1 == t)
  | none => true
def isSt (pl : List (Option (Nat × AV))) (i : Nat) : Bool := match pl[i]? with
  | some none => true
  | _ => false
def rankC (pl : List (Option (Nat × AV))) (i : Nat) : Nat := (List.range i).countP (isSt pl)
def DepC (ops : Array Oper) (pl : List (Option (Nat × AV))) (env0 : Env) (i : Nat) (env : Env) : Prop :=
  (∀ j, relB ops i j = false → ∀ d v, pl[j]? = some (some (d, v)) → env d = v) ∧ ∀ t, notDst pl t = true → env t = env0 t
def topM (ops : Array Oper) (pl : List (Option (Nat × AV))) (M i : Nat) : Nat := ((List.range pl.length).filter fun j => isSt pl j && !relB ops j i).foldl (fun a j => min a (rankC pl j)) M
def StepC (P : Program) (w0 : World) (N : Nat) (Q : APost) (ops : Array Oper) (pl : List (Option (Nat × AV))) (Ss : Nat → List Blk) (M : Nat) (env0 : Env) (i : Nat) : Prop :=
  match pl[i]? with
  | some (some (d, v)) => ∀ m, m ≤ topM ops pl M i → ∀ env, DepC ops pl env0 i env → OpA P w0 N ops Q i (fun env' S' => env' = upd env d v ∧ S' = Ss m) env (Ss m)
  | some none => ∀ env, DepC ops pl env0 i env → OpA P w0 N ops Q i (fun env' S' => env' = env ∧ S' = Ss (rankC pl i + 1)) env (Ss (rankC pl i))
  | none => True
def chainB (ops : Array Oper) (pl : List (Option (Nat × AV))) (M : Nat) : Bool :=
  ((List.range pl.length).all fun i => !isSt pl i || (decide (rankC pl i < M) && (rankC pl i == 0 || (List.range i).any fun j => isSt pl j && (rankC pl j + 1 == rankC pl i) && !relB ops i j))) &&
  (List.range M).all fun m => (List.range pl.length).any fun i => isSt pl i && rankC pl i == m
theorem rank_inj {pl : List (Option (Nat × AV))} {i j : Nat} (hi : isSt pl i = true) (hj : isSt pl j = true) (h : rankC pl i = rankC pl j) : i = j := by
  have key : ∀ a b, isSt pl a = true → a < b → rankC pl a < rankC pl b := by
    intro a b ha hab
    unfold rankC
    have h1 : (List.range (a + 1)).countP (isSt pl) = (List.range a).countP (isSt pl) + 1 := by
      rw [List.range_succ, List.countP_append, List.countP_singleton, if_pos ha]
    have h2 : (List.range (a + 1)).countP (isSt pl) ≤ (List.range b).countP (isSt pl) := by
      refine List.Sublist.countP_le ?_
      exact List.range_sublist.2 (by omega)
    omega
  rcases Nat.lt_trichotomy i j with hlt | heq | hgt
  · have := key i j hi hlt; omega
  · exact heq
  · have := key j i hj hgt; omega
theorem foldl_min_le {f : Nat → Nat} : ∀ (l : List Nat) (a x : Nat), x ≤ l.foldl (fun a j => min a (f j)) a ↔ x ≤ a ∧ ∀ j ∈ l, x ≤ f j
  | [], a, x => by simp
  | j :: l, a, x => by
    rw [List.foldl_cons, foldl_min_le l]
    simp only [List.mem_cons, forall_eq_or_imp, Nat.le_min, and_assoc]
theorem d_chain (pl : List (Option (Nat × AV))) (Ss : Nat → List Blk) (M : Nat) {n : Nat} {env0 : Env} {S0 : List Blk} (hS0 : Ss 0 = S0) (hn : ops.size = n) (hpl : pl.length = n) (hnd : decide ((pl.filterMap fun p => p.map Prod.fst).Nodup) = true) (hdep : depsOk ops = true) (hch : chainB ops pl M = true)
    (hstep : allFrom (StepC P w0 N Q ops pl Ss M env0) 0 n)
    (hz : ∀ env : Env, (∀ (i d : Nat) (v : AV), pl[i]? = some (some (d, v)) → env d = v) → (∀ t, notDst pl t = true → env t = env0 t) → RunX P w0 n0 N r k Q .normal env (Ss M)) :
    AnyP P w0 n0 N r ops k Q n (Array.replicate n false) [] env0 S0 := by
  subst hS0
  have hnd : (pl.filterMap fun p => p.map Prod.fst).Nodup := by simpa using hnd
  simp only [chainB, Bool.and_eq_true, List.all_eq_true, List.mem_range, Bool.or_eq_true, Bool.not_eq_true', decide_eq_true_eq, List.any_eq_true, beq_iff_eq] at hch
  obtain ⟨hc1, hc2⟩ := hch
  have stN : ∀ {i}, isSt pl i = true → pl[i]? = some none := by
    intro i h
    unfold isSt at h
    split at h
    · assumption
    · cases h
  have nSt : ∀ {i}, pl[i]? = some none → isSt pl i = true := by
    intro i h
    unfold isSt
    rw [h]
  refine d_inv (fun listed env S => ∃ m, m ≤ M ∧ S = Ss m ∧ (∀ i, isSt pl i = true → (listed.getD i true = true ↔ rankC pl i < m)) ∧ (∀ (i d : Nat) (v : AV), pl[i]? = some (some (d, v)) → listed.getD i true = true → env d = v) ∧ (∀ t, notDst pl t = true → env t = env0 t) ∧ DownC ops listed) ?step ?fin n _ _ _ ?init ?left
  case left =>
    unfold leftN
    rw [← hn]
    exact Nat.le_trans (List.countP_le_length) (by simp)
  case init =>
    have hrep : ∀ i, i < n → (Array.replicate n false).getD i true = false := fun i hi => by simp [Array.getD, hi]
    refine ⟨0, Nat.zero_le _, rfl, fun i hi => ?_, fun i d v hi hl => ?_, fun _ _ => rfl, fun j o ho hl => ?_⟩
    · have h1 := (List.getElem?_eq_some_iff.1 (stN hi)).1
      rw [hrep i (by omega)]
      simp
    · have h1 := (List.getElem?_eq_some_iff.1 hi).1
      rw [hrep i (by omega)] at hl; cases hl
    · have h1 := (Array.getElem?_eq_some_iff.1 ho).1
      rw [hrep j (by omega)] at hl; cases hl
  case fin =>
    rintro listed env S ⟨m, h1, rfl, h3, h4, h5, _⟩ hr
    have hal := all_listed hdep hr
    have hm : m = M := by
      rcases Nat.lt_or_ge m M with hlt | hge
      · obtain ⟨i, hi, hs, hri⟩ := hc2 m hlt
        have := (h3 i hs).1 (hal i (by omega))
        omega
      · omega
    subst hm
    exact hz env (fun i d v hi => h4 i d v hi (hal i (by have := (List.getElem?_eq_some_iff.1 hi).1; omega))) h5
  case step =>
    rintro listed env S i o ⟨m, h1, rfl, h3, h4, h5, h6⟩ ho hu hd
    have hi : i < n := by have := (Array.getElem?_eq_some_iff.1 ho).1; omega
    have hdp : DepC ops pl env0 i env := by
      refine ⟨fun j hj d' v' hd' => ?_, h5⟩
      obtain ⟨e, he, hb, heq⟩ := relB_false ho hj
      have := hd e he hb
      rw [heq] at this
      exact h4 j d' v' hd' (getD_ft this)
    have h6' : DownC ops (listed.setIfInBounds i true) := by
      intro j oj hoj hl e he hb
      have hset : ∀ m, listed.getD m false = true → (listed.setIfInBounds i true).getD m false = true := by
        intro m hm
        simp only [Array.getD_eq_getD_getElem?, Array.getElem?_setIfInBounds] at hm ⊢
        split
        · split <;> simp_all
        · exact hm
      by_cases hji : j = i
      · subst hji
        rw [ho] at hoj; cases hoj
        exact hset _ (hd e he hb)
      · rw [getD_set_ne true (Ne.symm hji)] at hl
        exact hset _ (h6 j oj hoj hl e he hb)
    have hs := allFrom_get hstep (Nat.zero_le i) (by omega)
    unfold StepC at hs
    obtain ⟨f, hf⟩ : ∃ f, pl[i]? = some f := ⟨pl[i]'(by omega), List.getElem?_eq_getElem (by omega)⟩
    rw [hf] at hs
    cases f with
    | none =>
      simp only at hs
      have hst := nSt hf
      have hmr : rankC pl i = m := by
        have a1 : ¬ rankC pl i < m := fun h => by rw [(h3 i hst).2 h] at hu; cases hu
        rcases hc1 i (by omega) with h | ⟨h, h' | ⟨j, hj, ⟨hj1, hj2⟩, hj3⟩⟩
        · rw [hst] at h; cases h
        · omega
        · obtain ⟨e, he, hb, heq⟩ := relB_false ho hj3
          have := hd e he hb
          rw [heq] at this
          have := (h3 j hj1).1 (getD_ft this)
          omega
      have hM : rankC pl i < M := by
        rcases hc1 i (by omega) with h | ⟨h, _⟩
        · rw [hst] at h; cases h
        · exact h
      rw [← hmr]
      refine (hs env hdp).mono ?_
      rintro env' S' ⟨rfl, rfl⟩
      refine ⟨rankC pl i + 1, by omega, rfl, fun j hj => ?_, fun j d' v' hj hl => ?_, h5, h6'⟩
      · by_cases hji : j = i
        · subst hji
          have hl : (listed.setIfInBounds j true).getD j true = true := by
            simp only [Array.getD_eq_getD_getElem?, Array.getElem?_setIfInBounds]
            by_cases hs : j < listed.size <;> simp [hs]
          simp [hl]
        · rw [getD_set_ne true (Ne.symm hji), h3 j hj, ← hmr]
          have : rankC pl j ≠ rankC pl i := fun e => hji (rank_inj hj hst e)
          omega
      · by_cases hji : j = i
        · subst hji; rw [hf] at hj; cases hj
        · rw [getD_set_ne true (Ne.symm hji)] at hl
          exact h4 j d' v' hj hl
    | some p =>
      obtain ⟨d, v⟩ := p
      simp only at hs
      have htop : m ≤ topM ops pl M i := by
        unfold topM
        rw [foldl_min_le]
        refine ⟨h1, fun j hj => ?_⟩
        simp only [List.mem_filter, List.mem_range, Bool.and_eq_true, Bool.not_eq_true'] at hj
        obtain ⟨hjn, hjs, hjr⟩ := hj
        rcases Nat.lt_or_ge (rankC pl j) m with hlt | hge
        · have hl := (h3 j hjs).2 hlt
          obtain ⟨oj, hoj⟩ : ∃ oj, ops[j]? = some oj := ⟨ops[j]'(by omega), Array.getElem?_eq_getElem (by omega)⟩
          obtain ⟨e, he, hb, heq⟩ := relB_false hoj hjr
          have := h6 j oj hoj hl e he hb
          rw [heq] at this
          rw [getD_ft this] at hu; cases hu
        · exact hge
      refine (hs m htop env hdp).mono ?_
      rintro env' S' ⟨rfl, rfl⟩
      refine ⟨m, h1, rfl, fun j hj => ?_, fun j d' v' hj hl => ?_, fun t ht => ?_, h6'⟩
      · have hji : i ≠ j := by rintro rfl; rw [stN hj] at hf; cases hf
        rw [getD_set_ne true hji]
        exact h3 j hj
      · by_cases hji : j = i
        · subst hji
          rw [hf] at hj; cases hj
          simp [upd]
        · have hde : d' ≠ d := by
            rintro rfl
            obtain ⟨a, b, hab⟩ : ∃ a b, (a < b ∧ pl[a]? = some (some (d', if a = j then v' else v)) ∧ pl[b]? = some (some (d', if b = j then v' else v))) := by
              rcases Nat.lt_or_gt_of_ne hji with h | h
              · exact ⟨j, i, h, by rw [if_pos rfl]; exact hj, by rw [if_neg (Ne.symm hji)]; exact hf⟩
              · exact ⟨i, j, h, by rw [if_neg (Ne.symm hji)]; exact hf, by rw [if_pos rfl]; exact hj⟩
            obtain ⟨hlt, ha, hb⟩ := hab
            have e1 : pl = pl.take b ++ pl.drop b := (List.take_append_drop b pl).symm
            rw [e1, List.filterMap_append, List.nodup_append] at hnd
            refine hnd.2.2 d' ?_ d' ?_ rfl
            · exact List.mem_filterMap.2 ⟨_, List.mem_of_getElem? (i := a) (by rw [List.getElem?_take, if_pos hlt]; exact ha), rfl⟩
            · exact List.mem_filterMap.2 ⟨_, List.mem_of_getElem? (i := 0) (by rw [List.getElem?_drop]; exact hb), rfl⟩
          rw [show upd env d v d' = env d' by simp [upd, hde]]
          rw [getD_set_ne true (Ne.symm hji)] at hl
          exact h4 j d' v' hj hl
      · have hne : t ≠ d := by
          rintro rfl
          have := List.all_eq_true.1 ht _ (List.mem_of_getElem? hf)
          simp at this
        rw [show upd env d v t = env t by simp [upd, hne]]
        exact h5 t ht
end
end Go.Fen
namespace Go.Fen
open Go.RowKit Go.MapKept
section
variable {P : Program} {w0 w : World} {ι : List Pl} {ψ : Psi} {S : List Blk}
theorem born_idx {l : List MapEntry} (hn : (l.map (·.born)).Nodup) {j : Nat} {m : MapEntry} (hj : l[j]? = some m) : l.findIdx? (fun e => (e.born : Int) == (m.born : Int)) = some j := by
  rw [List.findIdx?_eq_some_iff_getElem]
  have hl := (List.getElem?_eq_some_iff.1 hj).1
  refine ⟨hl, ?_, fun i hi => ?_⟩
  · rw [(List.getElem?_eq_some_iff.1 hj).2]; simp
  · simp only [beq_iff_eq, Int.natCast_inj]
    intro e
    have e1 : (l.map (·.born))[i]? = some m.born := by
      rw [List.getElem?_map, List.getElem?_eq_getElem (by omega)]; simp [e]
    have e2 : (l.map (·.born))[j]? = some m.born := by rw [List.getElem?_map, hj]; rfl
    have := (List.getElem?_inj (i := i) (j := j) (by simp; omega) hn).1 (e1.trans e2.symm)
    omega
theorem entry_pair (h : Rel w0 ι ψ S w) {t kt et : TypeId} {m k v z : AV} {cm ck cv : Value} {S' : List Blk} (hu : P.underlying t = some (.map kt et)) (hz : zeroV P et = some z) (hm : VR ι ψ m cm) (hk : VR ι ψ k ck) (hv : VR ι ψ v cv) (he : mapUpdateA P S t m k v = some S') :
    ∃ zv b w1 w', (Instr.mapEntry t cm ck).run P w = .ok (.tuple #[zv, goInt b]) w1 ∧ (Instr.entryStore t cm (goInt b) cv).run P w1 = .ok () w' ∧ Rel w0 ι ψ S' w' := by
  obtain ⟨w', hw', hR'⟩ := mapUpdateA_sound (P := P) h hm hk hv he
  obtain ⟨zc, hzc, _⟩ := zeroV_sound (P := P) (w := w) (ι := ι) (ψ := ψ) hz
  unfold mapUpdateA at he
  cases m <;> simp only [hu] at he <;> try (cases he; done)
  · next a =>
    split at he
    · next es hS =>
      split at he
      · next hc =>
        simp only [Bool.and_eq_true, List.all_eq_true] at hc
        cases hm with
        | mown _ pl hpl =>
          obtain ⟨h0, hn, ⟨me, clk, l, h1, h2, h3, h4, h5⟩, h6⟩ := h.blk a _ pl hS hpl
          have hck : (Instr.checkKey false 10000 kt ck).run P w = .ok () w := key_check hc.1 hk false w
          have hlt := lt_of_heap h1
          rcases find_spec (P := P) hk h3 hn h4 hc.1 hc.2 with ⟨e1, e2⟩ | ⟨j, e, m, e1, e2, e3, e4, e5, e6⟩
          · have hf := e2 w
            simp [Instr.mapUpdate, run_underlying hu, MapKept.run_getObj_map h1, hck, hf, run_setObj_map _ h1] at hw'
            have hidx : (me.push { key := ck, val := zc, born := clk }).findIdx? (fun e => (e.born : Int) == (clk : Int)) = some me.size := by
              rw [← Array.toArray_toList (xs := Array.push _ _), List.findIdx?_toArray]
              have hnd : ((me.push { key := ck, val := zc, born := clk }).toList.map (·.born)).Nodup := by
                simp only [Array.toList_push, List.map_append, List.nodup_append]
                refine ⟨h2.2, by simp, ?_⟩
                intro x hx y hy
                simp at hy; subst hy
                obtain ⟨m, hm, rfl⟩ := List.mem_map.1 hx
                have := h2.1 m hm
                omega
              exact born_idx hnd (m := { key := ck, val := zc, born := clk }) (by simp)
            refine ⟨zc, clk, w.putObj pl.blk (.map (me.push { key := ck, val := zc, born := clk }) (clk + 1)), w', ?_, ?_, hR'⟩
            · simp [Instr.mapEntry, run_underlying hu, MapKept.run_getObj_map h1, hck, hf, hzc, run_setObj_map _ h1, World.putObj]
            · have g1 : (w.putObj pl.blk (.map (me.push { key := ck, val := zc, born := clk }) (clk + 1))).heap[pl.blk]? = some (.map (me.push { key := ck, val := zc, born := clk }) (clk + 1)) := World.putObj_heap_same hlt
              have hmod : (me.push { key := ck, val := zc, born := clk }).modify me.size (fun e => { e with val := cv }) = me.push { key := ck, val := cv, born := clk } := by
                apply Array.ext_getElem?
                intro i
                rw [Array.getElem?_modify]
                by_cases hi : me.size = i
                · subst hi; simp
                · rw [if_neg hi]; simp [Array.getElem?_push, Ne.symm hi]
              simp [Instr.entryStore, MapKept.run_getObj_map g1, goInt, asInt, asIntOf, hidx, run_setObj_map _ g1, hmod]
              rw [← hw']
              simp [World.putObj]
          · have hf := e6 w
            have hjl : j < me.size := by have := (List.getElem?_eq_some_iff.1 e3).1; simpa using this
            have hmj : me[j]? = some m := by simpa using e3
            have hmj' : me[j] = m := by simpa [hjl] using hmj
            have hst : (Instr.keyThatStays ck ck).run P w = .ok ck w := key_stays hc.1 hk w
            simp [Instr.mapUpdate, run_underlying hu, MapKept.run_getObj_map h1, hck, hf, run_setObj_map _ h1, hjl, hmj', e4, hst] at hw'
            have hb : (me.modify j fun e => { e with key := ck }).toList.map (·.born) = me.toList.map (·.born) := by
              apply List.ext_getElem?
              intro i
              simp only [List.getElem?_map, Array.getElem?_toList, Array.getElem?_modify]
              split
              · cases me[i]? <;> rfl
              · rfl
            have hidx : (me.modify j fun e => { e with key := ck }).findIdx? (fun e => (e.born : Int) == (m.born : Int)) = some j := by
              rw [← Array.toArray_toList (xs := Array.modify _ _ _), List.findIdx?_toArray]
              exact born_idx (m := { m with key := ck }) (by rw [hb]; exact h2.2) (by simp [Array.getElem?_modify, hmj])
            refine ⟨m.val, m.born, w.putObj pl.blk (.map (me.modify j fun e => { e with key := ck }) clk), w', ?_, ?_, hR'⟩
            · simp [Instr.mapEntry, run_underlying hu, MapKept.run_getObj_map h1, hck, hf, run_setObj_map _ h1, World.putObj, hjl, hmj', e4, hst]
            · have g1 : (w.putObj pl.blk (.map (me.modify j fun e => { e with key := ck }) clk)).heap[pl.blk]? = some (.map (me.modify j fun e => { e with key := ck }) clk) := World.putObj_heap_same hlt
              have hmod : (me.modify j fun e => { e with key := ck }).modify j (fun e => { e with val := cv }) = me.modify j (fun e => { e with key := ck, val := cv }) := by
                apply Array.ext_getElem?
                intro i
                rw [Array.getElem?_modify, Array.getElem?_modify, Array.getElem?_modify]
                split
                · cases me[i]? <;> rfl
                · rfl
              simp [Instr.entryStore, MapKept.run_getObj_map g1, goInt, asInt, asIntOf, hidx, run_setObj_map _ g1, hmod]
              rw [← hw']
              simp [World.putObj]
      · cases he
    · cases he
end
def tmpNe : Operand → Nat → Bool
  | .tmp s, t => !(s == t)
  | _, _ => true
theorem tmpNe_ne {x : Operand} {t : Nat} (h : tmpNe x t = true) : x ≠ .tmp t := by
  rintro rfl
  simp [tmpNe] at h
theorem x_entry3 {P : Program} {w0 : World} {n0 N : Nat} {r : Option Nat} {Q : APost} {k : List TI} {env : Env} {S S' : List Blk} {all : Array Oper} {o1 o2 o3 : Oper} {l : List Oper} {t kt et : TypeId} {d e : Nat} {om ok ox : Operand} {z : AV}
    (h1 : o1.op = .mapEntry t om ok) (h2 : o2.op = .extract (.tmp d) 1) (h3 : o3.op = .entryStore t om (.tmp e) ox) (d1 : o1.dst = some d) (d2 : o2.dst = some e) (d3 : o3.dst = none) (g1 : o1.guard = none) (g2 : o2.guard = none) (g3 : o3.guard = none)
    (hN : decide (d < N ∧ e < N ∧ N ≤ DS) = true) (hne : (tmpNe om d && tmpNe om e && tmpNe ox d && tmpNe ox e) = true)
    (hu : P.underlying t = some (.map kt et)) (hz : zeroV P et = some z) (hs : mapUpdateA P S t (evalA w0 env om) (evalA w0 env ok) (evalA w0 env ox) = some S')
    (h : RunX P w0 n0 N r (.it (.ops all l) :: k) Q .normal (upd (upd env d .junk) e .junk) S') : RunX P w0 n0 N r (.it (.ops all (o1 :: o2 :: o3 :: l)) :: k) Q .normal env S := by
  intro ι ψ w a hR hE
  simp only [decide_eq_true_eq] at hN
  simp only [Bool.and_eq_true] at hne
  obtain ⟨hdN, heN, hND⟩ := hN
  obtain ⟨⟨⟨n1, n2⟩, n3⟩, n4⟩ := hne
  replace n1 := tmpNe_ne n1
  replace n2 := tmpNe_ne n2
  replace n3 := tmpNe_ne n3
  replace n4 := tmpNe_ne n4
  obtain ⟨zv, b, w1, w', r1, r2, hR'⟩ := entry_pair (P := P) hR hu hz (hE.eval hR om) (hE.eval hR ok) (hE.eval hR ox) hs
  have wt : ∀ (o : Oper) (y : Nat → Option Bool), o.guard = none → Region.wanted o y = true := fun o y hg => by simp [Region.wanted, hg]
  have hda : d < a.tmps.size := by have := hE.size; omega
  have ev : ∀ (x : Operand) (t : Nat) (c : Value), x ≠ .tmp t → (a.put (some t) c).eval x = a.eval x := by
    intro x t c hx
    cases x with
    | tmp s =>
      have hst : t ≠ s := fun q => hx (by rw [q])
      simp [Act.eval, Act.put, Array.getD_eq_getD_getElem?, Array.getElem?_setIfInBounds_ne hst]
    | _ => rfl
  have ev2 : ∀ (x : Operand) (t s : Nat) (c c' : Value), x ≠ .tmp t → x ≠ .tmp s → ((a.put (some t) c).put (some s) c').eval x = a.eval x := by
    intro x t s c c' hx hx'
    cases x with
    | tmp q =>
      have hq1 : t ≠ q := fun y => hx (by rw [y])
      have hq2 : s ≠ q := fun y => hx' (by rw [y])
      simp [Act.eval, Act.put, Array.getD_eq_getD_getElem?, Array.getElem?_setIfInBounds_ne hq1, Array.getElem?_setIfInBounds_ne hq2]
    | _ => rfl
  refine wpListIn_do (wt _ _ g1) (fun c hc => by rw [hc] at h1; cases h1) ?_
  have s1 : (execOp a.eval o1).run P w = .ok (.value (.tuple #[zv, goInt b])) w1 := by simp [execOp, h1, r1]
  rw [s1]
  show wpListIn (FR r) 0 P all _ (o2 :: o3 :: l) (a.put o1.dst (.tuple #[zv, goInt b])) w1
  rw [d1]
  refine wpListIn_do (wt _ _ g2) (fun c hc => by rw [hc] at h2; cases h2) ?_
  have s2 : (execOp (a.put (some d) (.tuple #[zv, goInt b])).eval o2).run P w1 = .ok (.value (goInt b)) w1 := by
    have : (a.put (some d) (.tuple #[zv, goInt b])).eval (.tmp d) = .tuple #[zv, goInt b] := by
      simp [Act.eval, Act.put, Array.getD_eq_getD_getElem?, hda]
    simp [execOp, h2, this, Instr.extract]
  rw [s2]
  show wpListIn (FR r) 0 P all _ (o3 :: l) ((a.put (some d) (.tuple #[zv, goInt b])).put o2.dst (goInt b)) w1
  rw [d2]
  refine wpListIn_do (wt _ _ g3) (fun c hc => by rw [hc] at h3; cases h3) ?_
  have s3 : (execOp ((a.put (some d) (.tuple #[zv, goInt b])).put (some e) (goInt b)).eval o3).run P w1 = .ok .skip w' := by
    have e1 : ((a.put (some d) (.tuple #[zv, goInt b])).put (some e) (goInt b)).eval (.tmp e) = goInt b := by
      have : e < a.tmps.size := by have := hE.size; omega
      simp [Act.eval, Act.put, Array.getD_eq_getD_getElem?, this]
    simp [execOp, h3, ev2 om _ _ _ _ n1 n2, ev2 ox _ _ _ _ n3 n4, e1, r2]
  rw [s3]
  show wpListIn (FR r) 0 P all _ l (((a.put (some d) (.tuple #[zv, goInt b])).put (some e) (goInt b)).put o3.dst undef) w'
  rw [d3]
  have hE' : EnvR ι ψ N (upd (upd env d .junk) e .junk) ((a.put (some d) (.tuple #[zv, goInt b])).put (some e) (goInt b)) :=
    (hE.put (.junk _) hdN).put (.junk _) heN
  exact h ι ψ w' _ hR' hE'
end Go.Fen
namespace Go.Fen
open Go.RowKit
theorem x_cut {P : Program} {w0 : World} {n0 N : Nat} {r : Option Nat} {Q : APost} {k : List TI} {env : Env} {S : List Blk} {i : KI} (Q' : APost) (h1 : RunX P w0 n0 N r [.it i] Q' .normal env S) (h2 : ∀ x env' S', Q' x env' S' → RunX P w0 n0 N r k Q x env' S') :
    RunX P w0 n0 N r (.it i :: k) Q .normal env S := by
  intro ι ψ w a hR hE
  refine KI.mono (h1 ι ψ w a hR hE) fun e a2 w2 hp => ?_
  obtain ⟨ι', ψ', x, env', S', e1, e2, e3, e4, e5⟩ := hp
  exact ⟨ι', ψ', x, env', S', e1, e2, e3, e4, h2 _ _ _ e5⟩
end Go.Fen
namespace Go.Fen
open Go.RowKit
variable {P : Program} {w0 : World} {n0 N : Nat} {r : Option Nat} {Q : APost} {k : List TI} {env : Env} {S : List Blk}
theorem Rel.recast {ι : List Pl} {ψ : Psi} {w : World} (h : Rel w0 ι ψ S w) {a : Nat} {e : TypeId} {sz fz g : Nat} {els els' : List AV} (hS : S[a]? = some (.arr e sz fz g els)) (hc : els'.map AV.cells = els.map AV.cells) :
    Rel w0 ι ψ (S.set a (.arr e sz fz g els')) w := by
  have hl : els'.length = els.length := by simpa using congrArg List.length hc
  have hf : flat els' = flat els := by simp only [flat, List.flatMap_def, hc]
  have hal : a < S.length := (List.getElem?_eq_some_iff.1 hS).1
  have get : ∀ (j : Nat) (C : Blk) (p : Pl), (S.set a (.arr e sz fz g els'))[j]? = some C → (j = a ∧ C = .arr e sz fz g els') ∨ (j ≠ a ∧ S[j]? = some C) := by
    intro j C p hC
    by_cases hj : j = a
    · subst hj
      rw [List.getElem?_set_self hal] at hC
      exact .inl ⟨rfl, (Option.some.inj hC).symm⟩
    · rw [List.getElem?_set_ne (Ne.symm hj)] at hC
      exact .inr ⟨hj, hC⟩
  refine ⟨h.below, h.psi, h.psim, by simp [h.len], fun j C p hC hp => ?_, h.old, fun i j C D p q k hC hD hp hq hk1 hk2 => ?_⟩
  · rcases get j C p hC with ⟨rfl, rfl⟩ | ⟨_, hC⟩
    · obtain ⟨h1, h2, h3, h4, ⟨xs, h5, h6⟩, h7⟩ := h.blk j _ p hS hp
      refine ⟨h1, fun x hx => ?_, h3, by rw [hl]; exact h4, ⟨xs, by rw [hl]; exact h5, by rw [hf]; exact h6⟩, h7⟩
      have hm : x.cells ∈ els'.map AV.cells := List.mem_map_of_mem hx
      rw [hc] at hm
      obtain ⟨y, hy, e⟩ := List.mem_map.1 hm
      rw [← e]; exact h2 y hy
    · exact h.blk j C p hC hp
  · have old : ∀ (j : Nat) (C : Blk) (p : Pl) (k : Nat), (S.set a (.arr e sz fz g els'))[j]? = some C → C.at p = some k → ∃ C', S[j]? = some C' ∧ C'.at p = some k := by
      intro j C p k hC hk
      rcases get j C p hC with ⟨rfl, rfl⟩ | ⟨_, hC⟩
      · exact ⟨_, hS, hk⟩
      · exact ⟨C, hC, hk⟩
    obtain ⟨C', g1, g2⟩ := old i C p k hC hk1
    obtain ⟨D', g3, g4⟩ := old j D q k hD hk2
    exact h.inj i j C' D' p q k g1 g3 hp hq g2 g4
theorem x_recast {i : KI} {a : Nat} {e : TypeId} {sz fz g : Nat} {els : List AV} {S1 : List Blk} (els' : List AV) (hS : S[a]? = some (.arr e sz fz g els)) (hc : els'.map AV.cells = els.map AV.cells) (h1 : S.set a (.arr e sz fz g els') = S1)
    (h : RunX P w0 n0 N r (.it i :: k) Q .normal env S1) : RunX P w0 n0 N r (.it i :: k) Q .normal env S := by
  subst h1
  intro ι ψ w ac hR hE
  exact h ι ψ w ac (hR.recast hS hc) hE
end Go.Fen
namespace Go.Fen
open Go.RowKit
section
variable {P : Program} {w0 : World} {n0 N : Nat} {r : Option Nat} {Q : APost} {k : List TI} {env : Env} {S : List Blk}
theorem x_rstr {all : Array Oper} {o : Oper} {l : List Oper} {src dst : TypeId} {x : Operand} {ik : IntKind} {n : Int} {s : List UInt8} (hg : guardA all env o = some true) (ho : o.op = .convert src dst x) (hs : P.underlying src = some (.int ik)) (hd : P.underlying dst = some .string)
    (hx : evalA w0 env x = .int ik n) (he : (Utf8.encode n).data.toList = s) (hds : dstOk N o.dst = true) (h : RunX P w0 n0 N r (.it (.ops all l) :: k) Q .normal (putA env o.dst (.str s)) S) : RunX P w0 n0 N r (.it (.ops all (o :: l)) :: k) Q .normal env S := by
  intro ι ψ w a hR hE
  have hw := guardA_sound hE hg
  refine wpListIn_do hw (fun c hc => by rw [hc] at ho; cases ho) ?_
  have hv := hE.eval hR x
  rw [hx] at hv
  generalize hcx : a.eval x = cx at hv
  cases hv with
  | int _ _ =>
    have hres : (execOp a.eval o).run P w = .ok (.value (.string (Utf8.encode n))) w := by
      have : (convert src dst (.int ik n)).run P w = .ok (.string (Utf8.encode n)) w := by
        simp [convert, run_underlying hs, run_underlying hd, Conv.intToString, Result.andThen]
      simp [execOp, ho, hcx, this, Result.andThen]
    rw [hres]
    exact h ι ψ w _ hR (hE.putA (.str _ _ he) hds)
theorem x_rangeS {all : Array Oper} {o : Oper} {l : List Oper} {t : TypeId} {x : Operand} {s : List UInt8} (hg : guardA all env o = some true) (ho : o.op = .range t x) (hu : P.underlying t = some .string)
    (hx : evalA w0 env x = .str s) (hds : dstOk N o.dst = true) (h : RunX P w0 n0 N r (.it (.ops all l) :: k) Q .normal (putA env o.dst (.own S.length 0)) (S ++ [.obj (.stringIter ⟨s.toArray⟩ 0)])) : RunX P w0 n0 N r (.it (.ops all (o :: l)) :: k) Q .normal env S := by
  intro ι ψ w a hR hE
  have hw := guardA_sound hE hg
  refine wpListIn_do hw (fun c hc => by rw [hc] at ho; cases ho) ?_
  have hv := hE.eval hR x
  rw [hx] at hv
  generalize hcx : a.eval x = cx at hv
  cases hv with
  | str _ b hb =>
    obtain rfl : b = ⟨s.toArray⟩ := by rw [← hb]
    have hres : (execOp a.eval o).run P w = .ok (.value (.pointer (some ⟨w.heap.size, 0, none⟩))) (w.alloc (.stringIter ⟨s.toArray⟩ 0)) := by
      have : (Instr.range t (.string ⟨s.toArray⟩)).run P w = .ok (.pointer (some ⟨w.heap.size, 0, none⟩)) (w.alloc (.stringIter ⟨s.toArray⟩ 0)) := by
        simp [Instr.range, run_underlying hu]
      simp [execOp, ho, hcx, this, Result.andThen]
    rw [hres]
    have hx' : Ext ι ψ (ι ++ [⟨w.heap.size, 0, undef, 0⟩]) ψ := Ext.push ι ψ _
    have hR' := hR.newBlk (.stringIter ⟨s.toArray⟩ 0) (.obj (.stringIter ⟨s.toArray⟩ 0)) (fun _ => rfl) ⟨hR.n0, World.alloc_heap_new w _, (by intro e; cases e), fun k => hR.psi_new (Nat.le_refl _) k, hR.psim_new (Nat.le_refl _)⟩
    have hv' : VR (ι ++ [⟨w.heap.size, 0, undef, 0⟩]) ψ (.own S.length 0) (.pointer (some ⟨w.heap.size, 0, none⟩)) := VR.own (ι := ι ++ [⟨w.heap.size, 0, undef, 0⟩]) (ψ := ψ) S.length 0 ⟨w.heap.size, 0, undef, 0⟩ (by rw [← hR.len]; simp)
    exact KI.mono (h _ ψ _ _ hR' ((hE.mono hx').putA hv' hds)) fun e a2 w2 hp => hp.chain (hx'.take n0)
theorem x_nextS {all : Array Oper} {o : Oper} {l : List Oper} {it : Operand} {a pos wd : Nat} {b : ByteArray} {c : Nat} (hg : guardA all env o = some true) (ho : o.op = .next it true) (hit : evalA w0 env it = .own a 0)
    (hS : S[a]? = some (.obj (.stringIter b pos))) (hp : pos < b.size) (hdc : Utf8.decode b pos = (c, wd)) (hds : dstOk N o.dst = true)
    (h : RunX P w0 n0 N r (.it (.ops all l) :: k) Q .normal (putA env o.dst (.tup [.bool true, .int .i64 pos, .int .i32 c])) (S.set a (.obj (.stringIter b (pos + wd))))) : RunX P w0 n0 N r (.it (.ops all (o :: l)) :: k) Q .normal env S := by
  intro ι ψ w ac hR hE
  have hw := guardA_sound hE hg
  refine wpListIn_do hw (fun c hc => by rw [hc] at ho; cases ho) ?_
  have hv := hE.eval hR it
  rw [hit] at hv
  generalize hc : ac.eval it = cv at hv
  cases hv with
  | own _ _ pl hpl =>
    obtain ⟨q0, q1, q2, q3, q4⟩ := hR.blk a _ pl hS hpl
    have hR' := hR.putObj hS hpl (o' := .stringIter b (pos + wd)) rfl
    have hres : (execOp ac.eval o).run P w = .ok (.value (.tuple #[.bool true, .int .i64 pos, .int .i32 c])) { w with heap := w.heap.setIfInBounds pl.blk (.stringIter b (pos + wd)) } := by
      have : (Instr.next (.pointer (some ⟨pl.blk, 0, none⟩)) true o.type).run P w = .ok (.tuple #[.bool true, .int .i64 pos, .int .i32 c]) { w with heap := w.heap.setIfInBounds pl.blk (.stringIter b (pos + wd)) } := by
        simp [Instr.next, getObj, setObj, Sem.run, q1, hp, hdc, goInt, Result.andThen]
      simp [execOp, ho, hc, this, Result.andThen]
    rw [hres]
    refine h ι ψ _ _ hR' (hE.putA (.tup _ _ rfl fun j x v hx hv => ?_) hds)
    match j with
    | 0 => simp at hx hv; subst hx; subst hv; exact .bool _
    | 1 => simp at hx hv; subst hx; subst hv; exact .int _ _
    | 2 => simp at hx hv; subst hx; subst hv; exact .int _ _
    | j + 3 => simp at hx
theorem x_nextE {all : Array Oper} {o : Oper} {l : List Oper} {it : Operand} {a pos : Nat} {b : ByteArray} (hg : guardA all env o = some true) (ho : o.op = .next it true) (hit : evalA w0 env it = .own a 0)
    (hS : S[a]? = some (.obj (.stringIter b pos))) (hp : ¬ pos < b.size) (hds : dstOk N o.dst = true)
    (h : RunX P w0 n0 N r (.it (.ops all l) :: k) Q .normal (putA env o.dst (.tup [.bool false])) S) : RunX P w0 n0 N r (.it (.ops all (o :: l)) :: k) Q .normal env S := by
  intro ι ψ w ac hR hE
  have hw := guardA_sound hE hg
  refine wpListIn_do hw (fun c hc => by rw [hc] at ho; cases ho) ?_
  have hv := hE.eval hR it
  rw [hit] at hv
  generalize hc : ac.eval it = cv at hv
  cases hv with
  | own _ _ pl hpl =>
    obtain ⟨q0, q1, q2, q3, q4⟩ := hR.blk a _ pl hS hpl
    have hres : (execOp ac.eval o).run P w = .ok (.value (.tuple #[.bool false])) w := by
      have : (Instr.next (.pointer (some ⟨pl.blk, 0, none⟩)) true o.type).run P w = .ok (.tuple #[.bool false]) w := by
        simp [Instr.next, getObj, Sem.run, q1, hp, Result.andThen]
      simp [execOp, ho, hc, this, Result.andThen]
    rw [hres]
    refine h ι ψ _ _ hR (hE.putA (.tup _ _ rfl fun j x v hx hv => ?_) hds)
    match j with
    | 0 => simp at hx hv; subst hx; subst hv; exact .bool _
    | j + 1 => simp at hx
theorem stepR_scope {b : Frame} {a : Act} {k : List Item} {cs : List Frame} {w : World} {c : Code} : step P (lone (b.atR a (.code (.scope c) :: k)) cs w) = .next (lone (b.atR a (.code c :: .inScope c :: k)) cs w) :=
  step_lone_go (by simp [stepG, stepG.exec, Frame.atR])
theorem stepR_inScope {b : Frame} {a : Act} {k : List Item} {cs : List Frame} {w : World} {c : Code} : step P (lone (b.atR a (.inScope c :: k)) cs w) = .next (lone (b.atR a k) cs w) :=
  step_lone_go (by simp [stepG, stepG.exec, Frame.atR])
theorem wpIn_scope {Q : Exit → Act → World → Prop} {c : Code} {a : Act} {w : World} (h : c.wpIn (FR r) 0 P (fun e a w => (∀ l, e ≠ .goto l) ∧ Q e a w) a w) : (Code.scope c).wpIn (FR r) 0 P Q a w := by
  intro b k cs hb _ _
  obtain ⟨e, a₁, w₁, ⟨hg, hq⟩, harr⟩ := h b (.inScope c :: k) cs hb trivial (room_FR _ _)
  have s1 : StepsIn (Machine.fenced P (FR r)) P (lone (b.atR a (.code (.scope c) :: k)) cs w) (lone (b.atR a (.code c :: .inScope c :: k)) cs w) :=
    .one (fenced_calm (n := 0) (fr := b.atR a (.code (.scope c) :: k)) trivial (room_FR _ _) rfl) stepR_scope
  refine ⟨e, a₁, w₁, hq, .of_steps s1 ?_⟩
  cases e with
  | normal => exact StepsIn.trans harr (.one (fenced_calm (n := 0) (fr := b.atR a₁ (.inScope c :: k)) trivial (room_FR _ _) rfl) stepR_inScope)
  | exit id => exact ⟨fun k' hk => harr.1 k' (by simpa [exitTo] using hk), fun hr hk => harr.2 hr (by simpa [exitTo] using hk)⟩
  | goto l => exact absurd rfl (hg l)
  | ret => exact harr
  | panic chain => exact harr
  | outgrown => exact harr
theorem x_scope {c : Code} (hg : ∀ l env S, ¬ RunX P w0 n0 N r k Q (.goto l) env S) (h : RunX P w0 n0 N r (.it (.code c) :: k) Q .normal env S) : RunX P w0 n0 N r (.it (.code (.scope c)) :: k) Q .normal env S := by
  intro ι ψ w a hR hE
  refine wpIn_scope (wpIn_mono (h ι ψ w a hR hE) fun e a' w' hp => ⟨fun l e1 => ?_, hp⟩)
  subst e1
  obtain ⟨ι2, ψ2, x, env2, S2, _, _, _, hx, hq⟩ := hp
  cases x with
  | goto i => exact hg i env2 S2 hq
  | normal | exit | ret | panic => exact hx
end
@[go_sem] theorem get_newS (S L : List Blk) (a : Nat) (X : Blk) : (S.set a X ++ L)[S.length]? = L[0]? := by
  have := List.getElem?_append_right (l₁ := S.set a X) (l₂ := L) (i := S.length) (by simp)
  simpa using this
@[go_sem] theorem get_newSi (S L : List Blk) (a i : Nat) (X : Blk) : (S.set a X ++ L)[S.length + i]? = L[i]? := by
  have := List.getElem?_append_right (l₁ := S.set a X) (l₂ := L) (i := S.length + i) (by simp)
  simpa using this
@[go_sem] theorem set_newS (S L : List Blk) (a : Nat) (X B : Blk) : (S.set a X ++ L).set S.length B = S.set a X ++ L.set 0 B := by
  have := set_new (S.set a X) L 0 B
  simpa using this
@[go_sem] theorem set_newSi (S L : List Blk) (a i : Nat) (X B : Blk) : (S.set a X ++ L).set (S.length + i) B = S.set a X ++ L.set i B := by
  have := set_new (S.set a X) L i B
  simpa using this
theorem f_panicO {P : Program} {F : Func} {S0 S S2 L : List Blk} {R : AOut → List Blk → Prop} {ms : List AV} {env : Env} {v v' : AV} (h0 : env DS = .dfr ms) (h01 : leaveM ms S = some (S2 ++ L)) (hl : S2.length = S0.length) (hO : OuterOk S2)
    (h3 : conv (S2 ++ L) (fun a => decide (S2.length ≤ a)) 4 v = v') (h4 : v'.lt S2.length = true) (h : R (.panic v') S2) : FPost P F S0 R (.panic v) env S := by
  subst h3
  refine ⟨ms, S2 ++ L, h0, h01, okOuter_of hO hl, ?_, ?_⟩
  · rw [← hl]; exact h4
  · rw [← hl, List.take_left]; exact h
end Go.Fen
namespace Go.Fen
open Go.RowKit Go.ChangeShapes
inductive Sk where
  | int (k : IntKind)
  | bool
  | str
  | sl (e : Sk)
  | nil
  | cons (a : Sk) (r : Sk)
namespace Sk
def size : Sk → Nat
  | nil => 0
  | cons a r => a.size + r.size
  | _ => 1
def isAgg : Sk → Bool
  | nil | cons _ _ => true
  | _ => false
def mk (s : Sk) (cs : List AV) : AV := if s.isAgg then .agg cs else cs.headD .junk
def has : Sk → List AV → Prop
  | int k, xs => ∃ n, xs = [.int k n] ∧ (Lit.int k n).wf = true
  | bool, xs => ∃ b, xs = [.bool b]
  | str, xs => ∃ s, xs = [.str s] ∧ s.length ≤ maxLen
  | sl e, xs => ∃ els : List (List AV), xs = [.sval false (els.map e.mk)] ∧ els.length ≤ maxLen ∧ ∀ y ∈ els, e.has y
  | nil, xs => xs = []
  | cons a r, xs => ∃ y z, xs = y ++ z ∧ a.has y ∧ r.has z
def rep (s : Sk) : Nat → Sk
  | 0 => nil
  | n + 1 => cons s (rep s n)
def fields (P : Program) (f : TypeId → Option Sk) : Nat → List Field → Option Sk
  | _, [] => some nil
  | o, x :: l => match f x.type with
    | some s => if x.offset = o ∧ P.cellsOf x.type = s.size then (fields P f (o + s.size) l).map (cons s) else none
    | none => none
def of (P : Program) : Nat → TypeId → Option Sk
  | 0, _ => none
  | n + 1, t => match P.underlying t with
    | some (.int k) => some (.int k)
    | some .bool => some .bool
    | some .string => some .str
    | some (.slice e) => match of P n e with
      | some s => if P.cellsOf e = s.size ∧ 0 < s.size then some (sl s) else none
      | none => none
    | some (.struct fs) => match fields P (of P n) 0 fs.toList with
      | some s => if P.cellsOf t = s.size then some s else none
      | none => none
    | some (.array m e) => match of P n e with
      | some s => if P.cellsOf e = s.size ∧ P.cellsOf t = m * s.size then some (rep s m) else none
      | none => none
    | _ => none
theorem has_size : ∀ {s : Sk} {xs : List AV}, s.has xs → xs.length = s.size
  | int _, _, ⟨_, h, _⟩ => by subst h; rfl
  | bool, _, ⟨_, h⟩ => by subst h; rfl
  | str, _, ⟨_, h, _⟩ => by subst h; rfl
  | sl _, _, ⟨_, h, _⟩ => by subst h; rfl
  | nil, _, h => by cases h; rfl
  | cons _ _, _, ⟨y, z, h, h1, h2⟩ => by subst h; simp [size, has_size h1, has_size h2]
theorem mk_cells {s : Sk} {xs : List AV} (h : s.has xs) : (s.mk xs).cells = xs := by
  cases s <;> try rfl
  · obtain ⟨n, rfl, _⟩ := h; rfl
  · obtain ⟨n, rfl⟩ := h; rfl
  · obtain ⟨n, rfl, _⟩ := h; rfl
  · obtain ⟨n, rfl, _⟩ := h; rfl
end Sk
def psi0 (W : World) : Psi := ⟨fun b o => W.cell? ⟨b, o, none⟩, fun _ => none⟩
theorem Rel.start (W : World) : Rel W [] (psi0 W) [] W := by
  refine ⟨Below.refl _ _, fun _ _ _ h => h, fun b es c h => (by cases h), rfl, fun i B pl h => (by simp at h), fun _ _ _ _ h => h, fun i j B C p q k h => (by simp at h)⟩
section
variable {H : Type} {enc : TypeId × Value → H} {P : Program} {W : World} {base : Nat} {spare : Nat → Bool} {held : Bool}
def CellsR (W : World) (xs : List AV) (cs : List Value) : Prop := xs.length = cs.length ∧ ∀ (j : Nat) (x : AV) (v : Value), xs[j]? = some x → cs[j]? = some v → x.leaf = true ∧ VR [] (psi0 W) x v
theorem CellsR.one {x : AV} {v : Value} (hl : x.leaf = true) (h : VR [] (psi0 W) x v) : CellsR W [x] [v] :=
  ⟨rfl, fun j y u h1 h2 => by
    cases j with
    | zero => cases h1; cases h2; exact ⟨hl, h⟩
    | succ j => simp at h1⟩
theorem CellsR.append {xs ys : List AV} {cs ds : List Value} (h : CellsR W xs cs) (h' : CellsR W ys ds) : CellsR W (xs ++ ys) (cs ++ ds) := by
  refine ⟨by simp [h.1, h'.1], fun j x v h1 h2 => ?_⟩
  by_cases hj : j < xs.length
  · rw [List.getElem?_append_left hj] at h1
    rw [List.getElem?_append_left (by rw [← h.1]; exact hj)] at h2
    exact h.2 j x v h1 h2
  · rw [List.getElem?_append_right (by omega)] at h1
    rw [List.getElem?_append_right (by rw [← h.1]; omega), ← h.1] at h2
    exact h'.2 _ x v h1 h2
theorem spot_of_cell {a : Addr} {v : Value} (h : W.cell? a = some v) : a.spot = none := by
  unfold World.cell? at h
  split at h
  · split at h
    · cases h
    · next hs => simpa using hs
  · cases h
theorem cells?_get {a : Addr} {n : Nat} {l : List Value} (h : W.cells? base a n = some l) : l.length = n ∧ ∀ j v, l[j]? = some v → W.cell? (a.add j) = some v := by
  unfold World.cells? at h
  split at h
  · refine ⟨by simpa using Lib.mapM_length h, fun j v hv => ?_⟩
    have hj : j < n := by have := (List.getElem?_eq_some_iff.1 hv).1; have h2 := Lib.mapM_length h; simp at h2; omega
    obtain ⟨b, hb, hf⟩ := Lib.mapM_at h j j (by simp [hj])
    rw [hv] at hb; cases hb
    exact hf
  · cases h
theorem seg {cs : List Value} {o n m : Nat} (h : cs.length = o + (n + m)) : (cs.drop o).take n ++ cs.drop (o + n) = cs.drop o := by
  rw [← List.drop_drop, List.take_append_drop]
theorem open_fields {n : Nat} {fuel : Nat} (ih : ∀ (t : TypeId) (s : Sk) (cs : List Value) (x : DataW H × List MemPlace), Sk.of P n t = some s → DataW.trod enc P W base spare held fuel t cs = some x → cs.length = s.size ∧ ∃ xs, s.has xs ∧ CellsR W xs cs) :
    ∀ (fs : List Field) (o : Nat) (s : Sk) (cs : List Value) (r : List (DataW H × List MemPlace)), Sk.fields P (Sk.of P n) o fs = some s → (fs.mapM fun f => DataW.trod enc P W base spare held fuel f.type ((cs.drop f.offset).take (P.cellsOf f.type))) = some r →
      cs.length = o + s.size → ∃ xs, s.has xs ∧ CellsR W xs (cs.drop o) := by
  intro fs
  induction fs with
  | nil =>
    intro o s cs r hs _ hl
    cases hs
    refine ⟨[], rfl, ?_⟩
    rw [List.drop_of_length_le (by simp [Sk.size] at hl; omega)]
    exact ⟨rfl, fun j x v h => by simp at h⟩
  | cons f fs ihf =>
    intro o s cs r hs hm hl
    simp only [Sk.fields] at hs
    split at hs
    · next s1 h1 =>
      split at hs
      · next hc =>
        obtain ⟨hc1, hc2⟩ := hc
        obtain ⟨s2, h2, rfl⟩ := Option.map_eq_some_iff.1 hs
        simp only [List.mapM_cons, Option.bind_eq_bind, Option.bind_eq_some_iff, Option.pure_def, Option.some.injEq] at hm
        obtain ⟨b, hb, r', hr', rfl⟩ := hm
        simp only [Sk.size] at hl
        rw [hc1, hc2] at hb
        obtain ⟨_, ys, hy, hyr⟩ := ih f.type s1 _ b h1 hb
        obtain ⟨zs, hz, hzr⟩ := ihf (o + s1.size) s2 cs r' h2 hr' (by omega)
        refine ⟨ys ++ zs, ⟨ys, zs, rfl, hy, hz⟩, ?_⟩
        rw [← seg (o := o) (n := s1.size) (m := s2.size) (by omega)]
        exact hyr.append hzr
      · cases hs
    · cases hs
theorem open_rep {s : Sk} {c : Nat} (hc : c = s.size) {g : List Value → Option (DataW H × List MemPlace)} (ih : ∀ (cs : List Value) (x : DataW H × List MemPlace), g cs = some x → cs.length = s.size ∧ ∃ xs, s.has xs ∧ CellsR W xs cs) :
    ∀ (m k : Nat) (cs : List Value), (∀ i, i < m → ∃ x, g ((cs.drop ((k + i) * c)).take c) = some x) → cs.length = (k + m) * c → ∃ xs, (s.rep m).has xs ∧ CellsR W xs (cs.drop (k * c)) := by
  intro m
  induction m with
  | zero =>
    intro k cs _ hl
    refine ⟨[], rfl, ?_⟩
    rw [List.drop_of_length_le (by simp at hl; omega)]
    exact ⟨rfl, fun j x v h => by simp at h⟩
  | succ m ihm =>
    intro k cs hm hl
    obtain ⟨x, hx⟩ := hm 0 (by omega)
    simp only [Nat.add_zero] at hx
    obtain ⟨_, ys, hy, hyr⟩ := ih _ x hx
    obtain ⟨zs, hz, hzr⟩ := ihm (k + 1) cs (fun i hi => by
      obtain ⟨x, hx⟩ := hm (i + 1) (by omega)
      exact ⟨x, by rw [show k + 1 + i = k + (i + 1) by omega]; exact hx⟩) (by rw [hl]; congr 1; omega)
    refine ⟨ys ++ zs, ⟨ys, zs, rfl, hy, hz⟩, ?_⟩
    have hk : (k + 1) * c = k * c + c := by rw [Nat.add_mul, Nat.one_mul]
    rw [hk] at hzr
    have hl2 : cs.length = k * c + (c + m * c) := by rw [hl, show k + (m + 1) = k + 1 + m by omega, Nat.add_mul, hk]; omega
    rw [← seg (o := k * c) (n := c) (m := m * c) hl2]
    exact hyr.append hzr
theorem add_add {a : Addr} (h : a.spot = none) (i j : Nat) : (a.add i).add j = ⟨a.block, a.off + i + j, none⟩ := by
  obtain ⟨b, o, s⟩ := a
  simp only at h
  subst h
  unfold Addr.add
  by_cases hi : i = 0 <;> by_cases hj : j = 0 <;> simp [hi, hj]
theorem rep_size (s : Sk) : ∀ m, (s.rep m).size = m * s.size
  | 0 => by simp [Sk.rep, Sk.size]
  | m + 1 => by simp [Sk.rep, Sk.size, rep_size s m, Nat.add_mul]; omega
theorem open_cells : ∀ (n : Nat) (t : TypeId) (s : Sk) (fuel : Nat) (cs : List Value) (x : DataW H × List MemPlace), Sk.of P n t = some s → DataW.trod enc P W base spare held fuel t cs = some x → cs.length = s.size ∧ ∃ xs, s.has xs ∧ CellsR W xs cs := by
  intro n
  induction n with
  | zero => intro t s fuel cs x h; cases h
  | succ n ih =>
    intro t s fuel cs x hs ht
    cases fuel with
    | zero => simp [DataW.trod] at ht
    | succ fuel =>
    simp only [Sk.of] at hs
    split at hs
    · next k hu =>
      cases hs
      simp only [DataW.trod, hu] at ht
      match cs, ht with
      | [.int k' m], ht =>
        simp only at ht
        split at ht
        · next h => obtain ⟨rfl, hw⟩ := h; exact ⟨rfl, _, ⟨m, rfl, hw⟩, .one rfl (.int _ _)⟩
        · cases ht
    · next hu =>
      cases hs
      simp only [DataW.trod, hu] at ht
      match cs, ht with
      | [.bool b], ht => exact ⟨rfl, _, ⟨b, rfl⟩, .one rfl (.bool _)⟩
    · next hu =>
      cases hs
      simp only [DataW.trod, hu] at ht
      match cs, ht with
      | [.string b], ht =>
        simp only at ht
        split at ht
        · next h => exact ⟨rfl, _, ⟨b.data.toList, rfl, by simpa using h⟩, .one rfl (.str _ _ rfl)⟩
        · cases ht
    · next e hu =>
      split at hs
      · next s1 h1 =>
        split at hs
        · next hc =>
          obtain ⟨hce, hpos⟩ := hc
          cases hs
          simp only [DataW.trod, hu] at ht
          match cs, ht with
          | [.slice none 0 0], ht => exact ⟨rfl, _, ⟨[], rfl, by simp, by simp⟩, .one rfl (.svnil _)⟩
          | [.slice (some a) len cap], ht =>
            simp only at ht
            split at ht
            · next hle =>
              obtain ⟨_, hlc, hcm⟩ := hle
              obtain ⟨els, hels, _⟩ := Option.bind_eq_some_iff.1 ht
              have hlen : els.length = len := by simpa using Lib.mapM_length hels
              by_cases hlen0 : len = 0
              · subst hlen0
                exact ⟨rfl, _, ⟨[], rfl, by simp, by simp⟩, .one rfl (.sve _ a cap (by simp))⟩
              have hspot : a.spot = none := by
                obtain ⟨y, _, hy⟩ := Lib.mapM_at hels 0 0 (List.getElem?_range (by omega))
                obtain ⟨ds, hd, _⟩ := Option.bind_eq_some_iff.1 hy
                obtain ⟨g1, g2⟩ := cells?_get hd
                obtain ⟨v, hv⟩ : ∃ v, ds[0]? = some v := ⟨_, List.getElem?_eq_getElem (by omega)⟩
                have := g2 0 v hv
                rw [Nat.zero_mul] at this
                exact spot_of_cell (by simpa [Addr.add] using this)
              have each : ∀ i, ∃ q : List AV × List Value, i < len → s1.has q.1 ∧ CellsR W q.1 q.2 ∧ W.cells? base (a.add (i * s1.size)) s1.size = some q.2 := by
                intro i
                by_cases hi : i < len
                · obtain ⟨y, _, hy⟩ := Lib.mapM_at hels i i (by simp [hi])
                  obtain ⟨ds, hd, hy⟩ := Option.bind_eq_some_iff.1 hy
                  rw [hce] at hd
                  obtain ⟨_, xs, hx, hxr⟩ := ih e s1 fuel ds y h1 hy
                  exact ⟨(xs, ds), fun _ => ⟨hx, hxr, hd⟩⟩
                · exact ⟨([], []), fun h => absurd h hi⟩
              obtain ⟨f, hf⟩ := Classical.skolem.1 each
              have hL : (((List.range len).map fun i => (f i).1).map s1.mk).length = len := by simp
              have get : ∀ (i : Nat) (e : AV), (((List.range len).map fun i => (f i).1).map s1.mk)[i]? = some e → i < len ∧ e.cells = (f i).1 := by
                intro i e he
                have hi : i < len := by have := (List.getElem?_eq_some_iff.1 he).1; omega
                simp only [List.map_map, List.getElem?_map] at he
                rw [List.getElem?_range hi] at he
                cases he
                exact ⟨hi, Sk.mk_cells (hf i hi).1⟩
              have at' : ∀ (i : Nat) (e : AV) (j : Nat) (x : AV), (((List.range len).map fun i => (f i).1).map s1.mk)[i]? = some e → e.cells[j]? = some x → x.leaf = true ∧ (psi0 W).c a.block (a.off + i * s1.size + j) = some ((f i).2.getD j undef) ∧ VR [] (psi0 W) x ((f i).2.getD j undef) := by
                intro i e j x he hx
                obtain ⟨hi, hc⟩ := get i e he
                rw [hc] at hx
                obtain ⟨g1, g2, g3⟩ := hf i hi
                obtain ⟨v, hv⟩ : ∃ v, (f i).2[j]? = some v := ⟨_, List.getElem?_eq_getElem (by rw [← g2.1]; exact (List.getElem?_eq_some_iff.1 hx).1)⟩
                obtain ⟨k1, k2⟩ := g2.2 j x v hx hv
                have k3 := (cells?_get g3).2 j v hv
                have : (f i).2.getD j undef = v := by simp [List.getD, hv]
                rw [this]
                refine ⟨k1, ?_, k2⟩
                rw [add_add hspot] at k3
                exact k3
              refine ⟨rfl, _, ⟨(List.range len).map fun i => (f i).1, rfl, by simpa using Nat.le_trans hlc hcm, fun y hy => ?_⟩, .one rfl ?_⟩
              · obtain ⟨i, hi, rfl⟩ := List.mem_map.1 hy
                exact (hf i (by simpa using hi)).1
              · have key := VR.sval (ι := []) (ψ := psi0 W) s1.size false (((List.range len).map fun i => (f i).1).map s1.mk) a.block a.off cap (fun i j => (f i).2.getD j undef) (fun i e he => ?_) (by omega) (by simp) (fun i e j x he hx => ⟨(at' i e j x he hx).1, (at' i e j x he hx).2.1⟩) (fun i e j x he hx => (at' i e j x he hx).2.2)
                · rw [hL] at key
                  rw [show (some a : Option Addr) = some ⟨a.block, a.off, none⟩ by rw [← hspot]]
                  exact key
                · obtain ⟨hi, hc⟩ := get i e he
                  rw [hc]; exact Sk.has_size (hf i hi).1
            · cases ht
        · cases hs
      · cases hs
    · next fs hu =>
      split at hs
      · next s1 h1 =>
        split at hs
        · next hc =>
          have hs' := Option.some.inj hs
          subst hs'
          simp only [DataW.trod, hu] at ht
          split at ht
          · next hl =>
            obtain ⟨xs, hm, _⟩ := Option.map_eq_some_iff.1 ht
            obtain ⟨ys, hy, hyr⟩ := open_fields (fun t s cs x => ih t s fuel cs x) fs.toList 0 s1 cs xs h1 hm (by omega)
            exact ⟨by omega, ys, hy, by simpa using hyr⟩
          · cases ht
        · cases hs
      · cases hs
    · next m e hu =>
      split at hs
      · next s1 h1 =>
        split at hs
        · next hc =>
          obtain ⟨hc1, hc2⟩ := hc
          have hs' := Option.some.inj hs
          subst hs'
          simp only [DataW.trod, hu] at ht
          split at ht
          · next hl =>
            obtain ⟨xs, hm, _⟩ := Option.map_eq_some_iff.1 ht
            obtain ⟨ys, hy, hyr⟩ := open_rep (s := s1) hc1 (g := DataW.trod enc P W base spare held fuel e) (fun cs x hx => ih e s1 fuel cs x h1 hx) m 0 cs (fun i hi => by
              obtain ⟨y, _, hy⟩ := Lib.mapM_at hm i i (by simp [hi])
              exact ⟨y, by simpa using hy⟩) (by rw [hl, hc2, hc1]; simp)
            refine ⟨by rw [hl, hc2, rep_size], ys, hy, by simpa using hyr⟩
          · cases ht
        · cases hs
      · cases hs
    · cases hs
def Sk.pln : Sk → Bool
  | .int _ => true
  | .bool => true
  | .nil => true
  | .cons a r => a.pln && r.pln
  | _ => false
def lits : Nat → DataW H → List Value
  | _ + 1, .lit (.int k n) => [.int k n]
  | _ + 1, .lit (.bool b) => [.bool b]
  | m + 1, .agg l => l.flatMap (lits m)
  | _, _ => []
theorem pln_rep {s : Sk} : ∀ m, (s.rep m).pln = true → m = 0 ∨ s.pln = true
  | 0, _ => .inl rfl
  | m + 1, h => by
    simp only [Sk.rep, Sk.pln, Bool.and_eq_true] at h
    exact .inr h.1
theorem lits_rep {c M : Nat} {cs : List Value} : ∀ (xs : List (DataW H × List MemPlace)) (k : Nat), (∀ i b, xs[i]? = some b → lits M b.1 = (cs.drop ((k + i) * c)).take c) → cs.length = (k + xs.length) * c → (xs.map (·.1)).flatMap (lits M) = cs.drop (k * c)
  | [], k, _, hl => by
    rw [List.drop_of_length_le (by rw [hl]; simp)]
    rfl
  | x :: xs, k, h, hl => by
    have h0 := h 0 x rfl
    have ih := lits_rep (c := c) (M := M) (cs := cs) xs (k + 1) (fun i b hb => by rw [show k + 1 + i = k + (i + 1) by omega]; exact h (i + 1) b (by simpa using hb)) (by rw [hl, List.length_cons]; congr 1; omega)
    have hk : (k + 1) * c = k * c + c := by rw [Nat.add_mul, Nat.one_mul]
    rw [List.map_cons, List.flatMap_cons, h0, ih, hk, Nat.add_zero]
    exact seg (m := xs.length * c) (by rw [hl, List.length_cons, show k + (xs.length + 1) = k + 1 + xs.length by omega, Nat.add_mul, hk]; omega)
theorem trod_lits : ∀ (fuel n : Nat) (t : TypeId) (s : Sk) (cs : List Value) (x : DataW H × List MemPlace), Sk.of P n t = some s → s.pln = true → DataW.trod enc P W base spare held fuel t cs = some x → ∀ M, fuel ≤ M → lits M x.1 = cs := by
  intro fuel
  induction fuel with
  | zero => intro n t s cs x _ _ ht; simp [DataW.trod] at ht
  | succ fuel ih =>
    intro n t s cs x hs hp ht M hM
    obtain ⟨M, rfl⟩ : ∃ M', M = M' + 1 := ⟨M - 1, by omega⟩
    have hsz := (open_cells n t s (fuel + 1) cs x hs ht).1
    cases n with
    | zero => cases hs
    | succ n =>
    simp only [Sk.of] at hs
    split at hs
    · next k hu =>
      simp only [DataW.trod, hu] at ht
      match cs, ht with
      | [.int k' m], ht =>
        simp only at ht
        split at ht
        · next h => obtain ⟨rfl, _⟩ := h; cases ht; rfl
        · cases ht
    · next hu =>
      simp only [DataW.trod, hu] at ht
      match cs, ht with
      | [.bool b], ht => cases ht; rfl
    · cases hs; cases hp
    · split at hs
      · split at hs
        · cases hs; cases hp
        · cases hs
      · cases hs
    · next fs hu =>
      split at hs
      · next s1 h1 =>
        split at hs
        · next hc =>
          have hs' := Option.some.inj hs
          subst hs'
          simp only [DataW.trod, hu] at ht
          split at ht
          · next hl =>
            obtain ⟨xs, hm, rfl⟩ := Option.map_eq_some_iff.1 ht
            have key : ∀ (fs : List Field) (o : Nat) (s : Sk) (r : List (DataW H × List MemPlace)), Sk.fields P (Sk.of P n) o fs = some s → s.pln = true → (fs.mapM fun f => DataW.trod enc P W base spare held fuel f.type ((cs.drop f.offset).take (P.cellsOf f.type))) = some r →
                cs.length = o + s.size → (r.map (·.1)).flatMap (lits M) = cs.drop o := by
              intro fs
              induction fs with
              | nil =>
                intro o s r hs _ hm hl
                cases hs
                simp at hm
                subst hm
                rw [List.drop_of_length_le (by simp [Sk.size] at hl; omega)]
                rfl
              | cons f fs ihf =>
                intro o s r hs hp hm hl
                simp only [Sk.fields] at hs
                split at hs
                · next s2 h2 =>
                  split at hs
                  · next hc =>
                    obtain ⟨hc1, hc2⟩ := hc
                    obtain ⟨s3, h3, rfl⟩ := Option.map_eq_some_iff.1 hs
                    simp only [List.mapM_cons, Option.bind_eq_bind, Option.bind_eq_some_iff, Option.pure_def, Option.some.injEq] at hm
                    obtain ⟨b, hb, r', hr', rfl⟩ := hm
                    simp only [Sk.size] at hl
                    simp only [Sk.pln, Bool.and_eq_true] at hp
                    rw [hc1, hc2] at hb
                    have e1 := ih n f.type s2 _ b h2 hp.1 hb M (by omega)
                    have e2 := ihf (o + s2.size) s3 r' h3 hp.2 hr' (by omega)
                    rw [List.map_cons, List.flatMap_cons, e1, e2]
                    exact seg (m := s3.size) (by omega)
                  · cases hs
                · cases hs
            have := key fs.toList 0 s1 xs h1 hp hm (by omega)
            simpa [lits] using this
          · cases ht
        · cases hs
      · cases hs
    · next m e hu =>
      split at hs
      · next s1 h1 =>
        split at hs
        · next hc =>
          obtain ⟨hc1, hc2⟩ := hc
          have hs' := Option.some.inj hs
          subst hs'
          simp only [DataW.trod, hu] at ht
          split at ht
          · next hl =>
            obtain ⟨xs, hm, rfl⟩ := Option.map_eq_some_iff.1 ht
            have hxl : xs.length = m := by simpa using Lib.mapM_length hm
            have := lits_rep (c := P.cellsOf e) (M := M) (cs := cs) xs 0 (fun i b hb => by
              have hi : i < m := by have := (List.getElem?_eq_some_iff.1 hb).1; omega
              obtain ⟨y, hy1, hy2⟩ := Lib.mapM_at hm i i (by simp [hi])
              rw [hb] at hy1; cases hy1
              rcases pln_rep m hp with h0 | h0
              · omega
              · rw [Nat.zero_add]; exact ih n e s1 _ b h1 h0 hy2 M (by omega)) (by rw [hl, hc2, hc1, hxl]; simp)
            simpa [lits] using this
          · cases ht
        · cases hs
      · cases hs
    · cases hs
end
end Go.Fen
namespace Go.Fen
open Go.RowKit Go.ChangeShapes
section
variable {H : Type} {enc : TypeId × Value → H} {P : Program} {W : World} {base : Nat} {spare : Nat → Bool} {held : Bool}
theorem openArg {b2 n : Nat} {t : TypeId} {s : Sk} {v : Value} {d : DataW H} {ps : List MemPlace} (hs : Sk.of P n t = some s) (h : DataW.Trod enc P W base spare held t v d ps) (hok : Value.okWide P W .any b2 t v) : ∃ xs, s.has xs ∧ VR [] (psi0 W) (s.mk xs) v := by
  obtain ⟨fuel, ht⟩ := h
  unfold Value.okWide at hok
  by_cases hag : (∃ fs, P.underlying t = some (.struct fs)) ∨ ∃ m e, P.underlying t = some (.array m e)
  · have hv : ∃ cs, v = .agg cs ∧ cs.size = P.cellsOf t ∧ Row.okWide P W .any b2 t cs := by
      rcases hag with ⟨fs, hu⟩ | ⟨m, e, hu⟩ <;> rw [hu] at hok <;> exact hok
    obtain ⟨cs, rfl, _, ts, _, _, hrow⟩ := hv
    obtain ⟨hl, xs, hx, hr⟩ := open_cells n t s fuel _ _ hs ht
    refine ⟨xs, hx, ?_⟩
    have hagg : s.mk xs = .agg xs := by
      cases n with
      | zero => cases hs
      | succ n =>
      simp only [Sk.of] at hs
      rcases hag with ⟨fs, hu⟩ | ⟨m, e, hu⟩
      · simp only [hu] at hs
        split at hs
        · next s1 h1 =>
          split at hs
          · have hs' := Option.some.inj hs
            subst hs'
            cases fl : fs.toList with
            | nil => rw [fl] at h1; cases h1; rfl
            | cons f l =>
              rw [fl] at h1
              simp only [Sk.fields] at h1
              split at h1
              · split at h1
                · obtain ⟨s2, _, rfl⟩ := Option.map_eq_some_iff.1 h1; rfl
                · cases h1
              · cases h1
          · cases hs
        · cases hs
      · simp only [hu] at hs
        split at hs
        · split at hs
          · have hs' := Option.some.inj hs
            subst hs'
            cases m <;> rfl
          · cases hs
        · cases hs
    rw [hagg]
    refine .agg xs cs (by simpa [Value.cells] using hr.1) fun j x v h1 h2 => (hr.2 j x v h1 (by simpa [Value.cells] using h2)).2
  · have hcell : Cell.okWide P W .any b2 t v := by
      split at hok
      · next fs hu => exact absurd (.inl ⟨fs, hu⟩) hag
      · next m e hu => exact absurd (.inr ⟨m, e, hu⟩) hag
      · exact hok
    have hnotagg : ∀ cs, v ≠ .agg cs := by
      rintro cs rfl
      have h2 : Cell.ok P W .any b2 t (.agg cs) := by
        unfold Cell.okWide at hcell
        split at hcell <;> first | exact hcell | (rename_i h3; cases h3) | (rename_i h3 h4; cases h4)
      unfold Cell.ok at h2
      split at h2 <;> first | (rename_i h3 h4; cases h4; done) | cases h2
    have hc : v.cells.toList = [v] := by
      cases v <;> first | rfl | exact absurd rfl (hnotagg _)
    rw [hc] at ht
    obtain ⟨hl, xs, hx, hr⟩ := open_cells n t s fuel _ _ hs ht
    refine ⟨xs, hx, ?_⟩
    have hna : s.isAgg = false := by
      cases n with
      | zero => cases hs
      | succ n =>
      simp only [Sk.of] at hs
      split at hs
      · cases hs; rfl
      · cases hs; rfl
      · cases hs; rfl
      · split at hs
        · split at hs
          · cases hs; rfl
          · cases hs
        · cases hs
      · next fs hu => exact absurd (.inl ⟨fs, hu⟩) hag
      · next m e hu => exact absurd (.inr ⟨m, e, hu⟩) hag
      · cases hs
    have h1 : xs.length = 1 := hr.1
    match xs, h1 with
    | [x], _ =>
      have : s.mk [x] = x := by simp [Sk.mk, hna]
      rw [this]
      exact (hr.2 0 x v rfl rfl).2
def ArgsH : List Sk → List AV → Prop
  | [], [] => True
  | s :: l, x :: r => (∃ xs, s.has xs ∧ x = s.mk xs) ∧ ArgsH l r
  | _, _ => False
theorem ArgsH.cons' {s : Sk} {l : List Sk} {avs : List AV} (h : ArgsH (s :: l) avs) : ∃ y r, s.has y ∧ avs = s.mk y :: r ∧ ArgsH l r := by
  cases avs with
  | nil => exact h.elim
  | cons x r =>
    obtain ⟨⟨xs, hx, e⟩, h2⟩ := h
    exact ⟨xs, r, hx, by rw [e], h2⟩
theorem ArgsH.nil' {avs : List AV} (h : ArgsH [] avs) : avs = [] := by
  cases avs with
  | nil => rfl
  | cons x r => exact h.elim
theorem openArgs {b2 n : Nat} : ∀ (ts : List TypeId) (vs : List Value) (ds : List (DataW H)) (ps : List MemPlace) (sks : List Sk), DataW.TrodAll enc P W base spare held ts vs ds ps → ts.map (Sk.of P n) = sks.map some →
    (∀ (j : Nat) t v, ts[j]? = some t → vs[j]? = some v → Value.okWide P W .any b2 t v) → ∃ avs, ArgsH sks avs ∧ avs.length = vs.length ∧ ∀ (j : Nat) (x : AV) (v : Value), avs[j]? = some x → vs[j]? = some v → VR [] (psi0 W) x v := by
  intro ts
  induction ts with
  | nil =>
    intro vs ds ps sks h hsk _
    obtain ⟨rfl, rfl, rfl⟩ := trodAll_nil h
    cases sks with
    | nil => exact ⟨[], trivial, rfl, fun j x v h => by simp at h⟩
    | cons _ _ => simp at hsk
  | cons t ts ih =>
    intro vs ds ps sks h hsk hok
    obtain ⟨v, vs', d, ds', p, q, rfl, rfl, rfl, h0, hr⟩ := trodAll_cons h
    cases sks with
    | nil => simp at hsk
    | cons s sks =>
      simp only [List.map_cons, List.cons.injEq] at hsk
      obtain ⟨xs, hx, hv⟩ := openArg hsk.1 h0 (hok 0 t v rfl rfl)
      obtain ⟨avs, ha, hl, hvr⟩ := ih vs' ds' q sks hr hsk.2 (fun j t v h1 h2 => hok (j + 1) t v h1 h2)
      refine ⟨s.mk xs :: avs, ⟨⟨xs, hx, rfl⟩, ha⟩, by simp [hl], fun j x u h1 h2 => ?_⟩
      cases j with
      | zero => cases h1; cases h2; exact hv
      | succ j => exact hvr j x u h1 h2
theorem trodAll_below (hl : laidOutB P = true) {W' : World} (hb : Below W.heap.size W W') : ∀ (ts : List TypeId) (vs : List Value) (ds : List (DataW H)) (ps : List MemPlace), (∀ t ∈ ts, P.readableRec t = true ∧ t < P.types.size) →
    DataW.TrodAll enc P W 0 (fun _ => true) true ts vs ds ps → (∀ x ∈ ps, x.block < W.heap.size) → DataW.TrodAll enc P W' 0 (fun b => decide (b < W.heap.size)) true ts vs ds ps := by
  intro ts
  induction ts with
  | nil =>
    intro vs ds ps _ h _
    obtain ⟨rfl, rfl, rfl⟩ := trodAll_nil h
    exact rfl
  | cons t ts ih =>
    intro vs ds ps hr h hlt
    obtain ⟨v, vs', d, ds', p, q, rfl, rfl, rfl, h0, hrest⟩ := trodAll_cons h
    exact ⟨p, q, Below.trod hl (hr t (List.mem_cons_self ..)).1 (hr t (List.mem_cons_self ..)).2 h0 hb (fun x hx => hlt x (by simp [hx])), ih vs' ds' q (fun t ht => hr t (List.mem_cons_of_mem _ ht)) hrest (fun x hx => hlt x (by simp [hx])), rfl⟩
theorem law_close {f : FuncId} {fn : Func} {s : ChangeSpec} {n : Nat} (sks : List Sk) {fresh handsOn : Bool} (hl : laidOutB P = true) (hps : ∀ t ∈ fn.params.toList, P.readableRec t = true ∧ t < P.types.size) (hsk : fn.params.toList.map (Sk.of P n) = sks.map some)
    {tb : TypeId} (hres : fn.resultTypes = #[tb]) (htb : P.underlying tb = some .bool) (hvars : s.vars = [])
    {args : Array Value} {ds gs : List (DataW H)} {before : List MemPlace} (hspec : ds.length = fn.params.size → s.fn H (ds ++ []) = { results := [.lit (.bool true)], args := ds })
    (hW : DataW.Whole enc P fn.params.toList s.vars false W args.toList ds gs before) (hval : ∀ (j : Nat) t v, fn.params[j]? = some t → args[j]? = some v → Value.okWide P W .any base t v)
    (k : ∀ avs, ArgsH sks avs → ACall P W f avs [] (fun out _ => out = .ret (.bool true))) :
    Calls P f args W fun e W' => ∃ v, e = .returned v ∧ s.post enc P fn false fresh handsOn false W args v W' := by
  have hW' := hW
  obtain ⟨p, q, hA, hV, hbq, hfz, hnd⟩ := hW
  have hlt : ∀ x ∈ before, x.block < W.heap.size := fun x hx => by simpa using hW'.lt x hx
  have hlen : ds.length = fn.params.size := by
    have key : ∀ (ts : List TypeId) (vs : List Value) (ds : List (DataW H)) (ps : List MemPlace), DataW.TrodAll enc P W 0 (fun _ => true) true ts vs ds ps → ds.length = ts.length := by
      intro ts
      induction ts with
      | nil => intro vs ds ps h; obtain ⟨_, rfl, _⟩ := trodAll_nil h; rfl
      | cons t ts ih => intro vs ds ps h; obtain ⟨v, vs', d, ds', p, q, _, rfl, _, _, hr⟩ := trodAll_cons h; simp [ih _ _ _ hr]
    simpa using key _ _ _ _ hA
  rw [hvars] at hV
  cases gs with
  | cons _ _ => exact absurd hV (by simp [DataW.TrodVars])
  | nil =>
  obtain rfl : q = [] := by simpa [DataW.TrodVars] using hV
  obtain ⟨avs, ha, hal, hvr⟩ := openArgs (b2 := base) _ _ _ _ sks hA hsk (fun j t v h1 h2 => hval j t v (by simpa using h1) (by simpa using h2))
  obtain ⟨_, hk⟩ := k avs ha
  refine (hk [] (psi0 W) W args (Rel.start W) (by simpa using hal) (fun j x c h1 h2 => hvr j x c h1 (by simpa using h2))).mono ?_
  rintro e W' ⟨ι', ψ', out, S', _, hR, ho, rfl⟩
  have he : e = .returned (.bool true) := by
    cases e with
    | returned v => rw [VR.bool_inv (show VR ι' ψ' (.bool true) v from ho)]
    | _ => exact absurd ho (by simp [OutR])
  subst he
  refine ⟨_, rfl, ds, [], before, [], before, [], hW', ?_, ?_, ?_, hR.below.frame _, fun h => by cases h⟩
  · rw [hspec hlen, hres]
    simp only [List.size_toArray, List.length_cons, List.length_nil]
    exact trodAll_mk1 (shut_bool htb _)
  · rw [hspec hlen, hbq, List.append_nil]
    exact trodAll_below hl hR.below _ _ _ _ hps hA (fun x hx => hlt x (by rw [hbq]; simp [hx]))
  · rw [hspec hlen, hvars]
    exact rfl
end
end Go.Fen
namespace Go.Fen.Ex
open Go.RowKit Go.Fen
inductive Tr where
  | nil
  | node (v : AV) (l r : Tr)
def pathF : Nat → Nat → List Bool
  | 0, _ => []
  | f + 1, k => cond (Nat.beq k 0) [] (Nat.beq (k % 2) 1 :: pathF f ((k - 1) / 2))
def path (k : Nat) : List Bool := pathF k k
def unpath : List Bool → Nat
  | [] => 0
  | b :: l => 2 * unpath l + cond b 1 2
theorem unpath_pathF : ∀ (f k : Nat), k ≤ f → unpath (pathF f k) = k := by
  intro f
  induction f with
  | zero => intro k h; simp only [pathF, unpath]; omega
  | succ f ih =>
    intro k h
    simp only [pathF]
    cases h0 : Nat.beq k 0 with
    | true => simp only [cond_true, unpath]; exact (Nat.eq_of_beq_eq_true h0).symm
    | false =>
      have hk : k ≠ 0 := fun e => by rw [e] at h0; cases h0
      simp only [cond_false, unpath]
      rw [ih _ (by omega)]
      cases h1 : Nat.beq (k % 2) 1 with
      | true => have : k % 2 = 1 := Nat.eq_of_beq_eq_true h1
                simp only [cond_true]; omega
      | false => have : k % 2 ≠ 1 := fun e => by rw [e] at h1; cases h1
                 simp only [cond_false]; omega
theorem path_inj {i j : Nat} (h : path i = path j) : i = j := by
  rw [← unpath_pathF i i (Nat.le_refl _), ← unpath_pathF j j (Nat.le_refl _)]
  exact congrArg unpath h
def Tr.get : List Bool → Tr → AV
  | _, .nil => .junk
  | [], .node v _ _ => v
  | b :: p, .node _ l r => Tr.get p (cond b l r)
def Tr.set : List Bool → AV → Tr → Tr
  | [], x, .nil => .node x .nil .nil
  | [], x, .node _ l r => .node x l r
  | true :: p, x, .nil => .node .junk (Tr.set p x .nil) .nil
  | false :: p, x, .nil => .node .junk .nil (Tr.set p x .nil)
  | true :: p, x, .node v l r => .node v (Tr.set p x l) r
  | false :: p, x, .node v l r => .node v l (Tr.set p x r)
theorem Tr.get_nil (p : List Bool) : Tr.get p .nil = .junk := by cases p <;> rfl
theorem Tr.get_set : ∀ (q p : List Bool) (x : AV) (t : Tr), Tr.get p (Tr.set q x t) = if p = q then x else Tr.get p t := by
  intro q
  induction q with
  | nil =>
    intro p x t
    cases t <;> cases p <;> simp [Tr.get, Tr.set, Tr.get_nil]
  | cons c q ih =>
    intro p x t
    cases c <;> cases t <;> cases p <;> simp [Tr.get, Tr.set]
    all_goals
      next b p => cases b <;> simp [Tr.get_nil, ih]
structure St where
  e : Tr
  ds : List AV
  S : List Blk
def St.env (s : St) : Env := fun t => if t = DS then .dfr s.ds else s.e.get (path t)
def St.put (s : St) (d : Option Nat) (v : AV) (S : List Blk) : St := match d with
  | some t => ⟨s.e.set (path t) v, s.ds, S⟩
  | none => ⟨s.e, s.ds, S⟩
theorem St.put_S {s : St} {d : Option Nat} {v : AV} {S : List Blk} : (s.put d v S).S = S := by cases d <;> rfl
theorem St.put_ds {s : St} {d : Option Nat} {v : AV} {S : List Blk} : (s.put d v S).ds = s.ds := by cases d <;> rfl
theorem St.env_put {s : St} {d : Option Nat} {v : AV} {S : List Blk} {N : Nat} (hd : dstOk N d = true) (hN : N ≤ DS) : (s.put d v S).env = putA s.env d v := by
  cases d with
  | none => rfl
  | some t =>
    have ht : t < N := by simpa [dstOk] using hd
    funext u
    simp only [St.put, St.env, putA, upd]
    by_cases hu : u = DS
    · subst hu
      rw [if_pos rfl, if_neg (by omega)]; rfl
    · rw [if_neg hu, Tr.get_set]
      by_cases hut : u = t
      · subst hut; simp
      · rw [if_neg (fun e => hut (path_inj e)), if_neg hut, if_neg hu]
def GOk (G : Nat → AV) (w0 : World) : Prop := ∀ g, G g = .junk ∨ G g = gl w0 g
def evalX (G : Nat → AV) (s : St) : Operand → AV
  | .tmp t => cond (Nat.beq t DS) .junk (s.e.get (path t))
  | .const v => ofV v
  | .global g => G g
  | .func f => .fn (.func f) [] []
theorem evalX_cases {G : Nat → AV} {w0 : World} (hG : GOk G w0) (s : St) (x : Operand) : evalX G s x = .junk ∨ evalX G s x = evalA w0 s.env x := by
  cases x with
  | tmp t =>
    simp only [evalX, evalA, St.env]
    cases h : Nat.beq t DS with
    | true => exact .inl rfl
    | false =>
      have : t ≠ DS := fun e => by rw [e] at h; exact absurd h (by rw [Nat.beq_refl]; decide)
      right; rw [if_neg this]; rfl
  | const v => exact .inr rfl
  | global g => exact hG g
  | func f => exact .inr rfl
theorem evalX_eq {G : Nat → AV} {w0 : World} (hG : GOk G w0) {s : St} {x : Operand} {v : AV} (h : evalX G s x = v) (hv : v ≠ .junk) : evalA w0 s.env x = v := by
  rcases evalX_cases hG s x with e | e
  · rw [e] at h; exact absurd h.symm hv
  · rw [← e]; exact h
theorem evalX_sound {G : Nat → AV} {w0 w : World} (hG : GOk G w0) {s : St} {ι : List Pl} {ψ : Psi} {S : List Blk} {N : Nat} {a : Act} (hR : Rel w0 ι ψ S w) (hE : EnvR ι ψ N s.env a) (x : Operand) : VR ι ψ (evalX G s x) (a.eval x) := by
  rcases evalX_cases hG s x with e | e
  · rw [e]; exact .junk _
  · rw [e]; exact hE.eval hR x
def okOp (G : Nat → AV) : Operand → Bool
  | .tmp t => !(Nat.beq t DS)
  | .global g => !(G g).isJunk
  | _ => true
theorem okOp_eq {G : Nat → AV} {w0 : World} (hG : GOk G w0) {s : St} {x : Operand} (h : okOp G x = true) : evalX G s x = evalA w0 s.env x := by
  cases x with
  | tmp t =>
    simp only [okOp, Bool.not_eq_true'] at h
    simp only [evalX, evalA, St.env, h, cond_false]
    have : t ≠ DS := fun e => by rw [e] at h; exact absurd h (by rw [Nat.beq_refl]; decide)
    rw [if_neg this]
  | const v => rfl
  | global g =>
    rcases hG g with e | e
    · simp only [okOp, e, AV.isJunk] at h; cases h
    · exact e
  | func f => rfl
theorem okOps_eq {G : Nat → AV} {w0 : World} (hG : GOk G w0) {s : St} : ∀ {l : List Operand}, l.all (okOp G) = true → l.map (evalX G s) = l.map (evalA w0 s.env)
  | [], _ => rfl
  | x :: l, h => by
    simp only [List.all_cons, Bool.and_eq_true] at h
    simp only [List.map_cons, okOp_eq hG h.1, okOps_eq hG h.2]
end Go.Fen.Ex
namespace Go.Fen.Ex
open Go.RowKit Go.Fen
abbrev Res := Option (AX × St)
abbrev Kt := Tr → List AV → List Blk → Res
section
variable {β : Type}
noncomputable def fN (n : Nat) (k : Nat → β) : β := Nat.rec (motive := fun _ => β) (k 0) (fun m _ => k (Nat.succ m)) n
theorem fN_eq (n : Nat) (k : Nat → β) : fN n k = k n := by cases n <;> rfl
noncomputable def fI (n : Int) (k : Int → β) : β := Int.rec (motive := fun _ => β) (fun m => fN m fun m => k (.ofNat m)) (fun m => fN m fun m => k (.negSucc m)) n
theorem fI_eq (n : Int) (k : Int → β) : fI n k = k n := by cases n <;> simp only [fI, fN_eq]
noncomputable def fB (b : Bool) (k : Bool → β) : β := Bool.rec (motive := fun _ => β) (k false) (k true) b
theorem fB_eq (b : Bool) (k : Bool → β) : fB b k = k b := by cases b <;> rfl
end
noncomputable def asInt (x : AV) (f : (IntKind → Int → Res)) (e : Res) : Res := AV.rec (motive_1 := fun _ => (IntKind → Int → Res) → Res → Res) (motive_2 := fun _ => Unit) (motive_3 := fun _ => Unit) (motive_4 := fun _ => Unit) (fun k n => fun f _ => f k n) (fun _ => fun _ e => e) (fun _ => fun _ e => e) (fun _ e => e) (fun _ _ => fun _ e => e) (fun _ _ _ _ => fun _ e => e) (fun _ _ => fun _ e => e) (fun _ e => e) (fun _ _ _ => fun _ e => e) (fun _ _ _ => fun _ e => e) (fun _ e => e) (fun _ => fun _ e => e) (fun _ _ => fun _ e => e) (fun _ _ _ _ _ => fun _ e => e) (fun _ e => e) (fun _ => fun _ e => e) (fun _ _ _ => fun _ e => e) (fun _ e => e) (fun _ _ => fun _ e => e) (fun _ _ => fun _ e => e) (fun _ _ => fun _ e => e) (fun _ => fun _ e => e) (fun _ e => e) () (fun _ _ _ _ => ()) () (fun _ _ _ _ => ()) (fun _ _ _ _ => ()) x f e
theorem asInt_eq (x : AV) (f : (IntKind → Int → Res)) (e : Res) : asInt x f e = (match x with | .int k n => f k n | _ => e) := by cases x <;> rfl
noncomputable def asBool (x : AV) (f : (Bool → Res)) (e : Res) : Res := AV.rec (motive_1 := fun _ => (Bool → Res) → Res → Res) (motive_2 := fun _ => Unit) (motive_3 := fun _ => Unit) (motive_4 := fun _ => Unit) (fun _ _ => fun _ e => e) (fun b => fun f _ => f b) (fun _ => fun _ e => e) (fun _ e => e) (fun _ _ => fun _ e => e) (fun _ _ _ _ => fun _ e => e) (fun _ _ => fun _ e => e) (fun _ e => e) (fun _ _ _ => fun _ e => e) (fun _ _ _ => fun _ e => e) (fun _ e => e) (fun _ => fun _ e => e) (fun _ _ => fun _ e => e) (fun _ _ _ _ _ => fun _ e => e) (fun _ e => e) (fun _ => fun _ e => e) (fun _ _ _ => fun _ e => e) (fun _ e => e) (fun _ _ => fun _ e => e) (fun _ _ => fun _ e => e) (fun _ _ => fun _ e => e) (fun _ => fun _ e => e) (fun _ e => e) () (fun _ _ _ _ => ()) () (fun _ _ _ _ => ()) (fun _ _ _ _ => ()) x f e
theorem asBool_eq (x : AV) (f : (Bool → Res)) (e : Res) : asBool x f e = (match x with | .bool b => f b | _ => e) := by cases x <;> rfl
noncomputable def asAgg (x : AV) (f : (List AV → Res)) (e : Res) : Res := AV.rec (motive_1 := fun _ => (List AV → Res) → Res → Res) (motive_2 := fun _ => Unit) (motive_3 := fun _ => Unit) (motive_4 := fun _ => Unit) (fun _ _ => fun _ e => e) (fun _ => fun _ e => e) (fun _ => fun _ e => e) (fun _ e => e) (fun _ _ => fun _ e => e) (fun _ _ _ _ => fun _ e => e) (fun _ _ => fun _ e => e) (fun _ e => e) (fun _ _ _ => fun _ e => e) (fun _ _ _ => fun _ e => e) (fun _ e => e) (fun _ => fun _ e => e) (fun _ _ => fun _ e => e) (fun _ _ _ _ _ => fun _ e => e) (fun _ e => e) (fun _ => fun _ e => e) (fun _ _ _ => fun _ e => e) (fun _ e => e) (fun cs _ => fun f _ => f cs) (fun _ _ => fun _ e => e) (fun _ _ => fun _ e => e) (fun _ => fun _ e => e) (fun _ e => e) () (fun _ _ _ _ => ()) () (fun _ _ _ _ => ()) (fun _ _ _ _ => ()) x f e
theorem asAgg_eq (x : AV) (f : (List AV → Res)) (e : Res) : asAgg x f e = (match x with | .agg cs => f cs | _ => e) := by cases x <;> rfl
noncomputable def asTup (x : AV) (f : (List AV → Res)) (e : Res) : Res := AV.rec (motive_1 := fun _ => (List AV → Res) → Res → Res) (motive_2 := fun _ => Unit) (motive_3 := fun _ => Unit) (motive_4 := fun _ => Unit) (fun _ _ => fun _ e => e) (fun _ => fun _ e => e) (fun _ => fun _ e => e) (fun _ e => e) (fun _ _ => fun _ e => e) (fun _ _ _ _ => fun _ e => e) (fun _ _ => fun _ e => e) (fun _ e => e) (fun _ _ _ => fun _ e => e) (fun _ _ _ => fun _ e => e) (fun _ e => e) (fun _ => fun _ e => e) (fun _ _ => fun _ e => e) (fun _ _ _ _ _ => fun _ e => e) (fun _ e => e) (fun _ => fun _ e => e) (fun _ _ _ => fun _ e => e) (fun _ e => e) (fun _ _ => fun _ e => e) (fun vs _ => fun f _ => f vs) (fun _ _ => fun _ e => e) (fun _ => fun _ e => e) (fun _ e => e) () (fun _ _ _ _ => ()) () (fun _ _ _ _ => ()) (fun _ _ _ _ => ()) x f e
theorem asTup_eq (x : AV) (f : (List AV → Res)) (e : Res) : asTup x f e = (match x with | .tup vs => f vs | _ => e) := by cases x <;> rfl
noncomputable def asSval (x : AV) (f : (Bool → List AV → Res)) (e : Res) : Res := AV.rec (motive_1 := fun _ => (Bool → List AV → Res) → Res → Res) (motive_2 := fun _ => Unit) (motive_3 := fun _ => Unit) (motive_4 := fun _ => Unit) (fun _ _ => fun _ e => e) (fun _ => fun _ e => e) (fun _ => fun _ e => e) (fun _ e => e) (fun _ _ => fun _ e => e) (fun _ _ _ _ => fun _ e => e) (fun _ _ => fun _ e => e) (fun _ e => e) (fun fu els _ => fun f _ => f fu els) (fun _ _ _ => fun _ e => e) (fun _ e => e) (fun _ => fun _ e => e) (fun _ _ => fun _ e => e) (fun _ _ _ _ _ => fun _ e => e) (fun _ e => e) (fun _ => fun _ e => e) (fun _ _ _ => fun _ e => e) (fun _ e => e) (fun _ _ => fun _ e => e) (fun _ _ => fun _ e => e) (fun _ _ => fun _ e => e) (fun _ => fun _ e => e) (fun _ e => e) () (fun _ _ _ _ => ()) () (fun _ _ _ _ => ()) (fun _ _ _ _ => ()) x f e
theorem asSval_eq (x : AV) (f : (Bool → List AV → Res)) (e : Res) : asSval x f e = (match x with | .sval fu els => f fu els | _ => e) := by cases x <;> rfl
noncomputable def asStr (x : AV) (f : (List UInt8 → Res)) (e : Res) : Res := AV.rec (motive_1 := fun _ => (List UInt8 → Res) → Res → Res) (motive_2 := fun _ => Unit) (motive_3 := fun _ => Unit) (motive_4 := fun _ => Unit) (fun _ _ => fun _ e => e) (fun _ => fun _ e => e) (fun s => fun f _ => f s) (fun _ e => e) (fun _ _ => fun _ e => e) (fun _ _ _ _ => fun _ e => e) (fun _ _ => fun _ e => e) (fun _ e => e) (fun _ _ _ => fun _ e => e) (fun _ _ _ => fun _ e => e) (fun _ e => e) (fun _ => fun _ e => e) (fun _ _ => fun _ e => e) (fun _ _ _ _ _ => fun _ e => e) (fun _ e => e) (fun _ => fun _ e => e) (fun _ _ _ => fun _ e => e) (fun _ e => e) (fun _ _ => fun _ e => e) (fun _ _ => fun _ e => e) (fun _ _ => fun _ e => e) (fun _ => fun _ e => e) (fun _ e => e) () (fun _ _ _ _ => ()) () (fun _ _ _ _ => ()) (fun _ _ _ _ => ()) x f e
theorem asStr_eq (x : AV) (f : (List UInt8 → Res)) (e : Res) : asStr x f e = (match x with | .str s => f s | _ => e) := by cases x <;> rfl
noncomputable def asPro (x : AV) (f : (List AV → Res)) (e : Res) : Res := AV.rec (motive_1 := fun _ => (List AV → Res) → Res → Res) (motive_2 := fun _ => Unit) (motive_3 := fun _ => Unit) (motive_4 := fun _ => Unit) (fun _ _ => fun _ e => e) (fun _ => fun _ e => e) (fun _ => fun _ e => e) (fun _ e => e) (fun _ _ => fun _ e => e) (fun _ _ _ _ => fun _ e => e) (fun cs _ => fun f _ => f cs) (fun _ e => e) (fun _ _ _ => fun _ e => e) (fun _ _ _ => fun _ e => e) (fun _ e => e) (fun _ => fun _ e => e) (fun _ _ => fun _ e => e) (fun _ _ _ _ _ => fun _ e => e) (fun _ e => e) (fun _ => fun _ e => e) (fun _ _ _ => fun _ e => e) (fun _ e => e) (fun _ _ => fun _ e => e) (fun _ _ => fun _ e => e) (fun _ _ => fun _ e => e) (fun _ => fun _ e => e) (fun _ e => e) () (fun _ _ _ _ => ()) () (fun _ _ _ _ => ()) (fun _ _ _ _ => ()) x f e
theorem asPro_eq (x : AV) (f : (List AV → Res)) (e : Res) : asPro x f e = (match x with | .pro cs => f cs | _ => e) := by cases x <;> rfl
noncomputable def asOwn (x : AV) (f : (Nat → Nat → Res)) (e : Res) : Res := AV.rec (motive_1 := fun _ => (Nat → Nat → Res) → Res → Res) (motive_2 := fun _ => Unit) (motive_3 := fun _ => Unit) (motive_4 := fun _ => Unit) (fun _ _ => fun _ e => e) (fun _ => fun _ e => e) (fun _ => fun _ e => e) (fun _ e => e) (fun a o => fun f _ => f a o) (fun _ _ _ _ => fun _ e => e) (fun _ _ => fun _ e => e) (fun _ e => e) (fun _ _ _ => fun _ e => e) (fun _ _ _ => fun _ e => e) (fun _ e => e) (fun _ => fun _ e => e) (fun _ _ => fun _ e => e) (fun _ _ _ _ _ => fun _ e => e) (fun _ e => e) (fun _ => fun _ e => e) (fun _ _ _ => fun _ e => e) (fun _ e => e) (fun _ _ => fun _ e => e) (fun _ _ => fun _ e => e) (fun _ _ => fun _ e => e) (fun _ => fun _ e => e) (fun _ e => e) () (fun _ _ _ _ => ()) () (fun _ _ _ _ => ()) (fun _ _ _ _ => ()) x f e
theorem asOwn_eq (x : AV) (f : (Nat → Nat → Res)) (e : Res) : asOwn x f e = (match x with | .own a o => f a o | _ => e) := by cases x <;> rfl
noncomputable def asOel (x : AV) (f : (Nat → Nat → Nat → Nat → Res)) (e : Res) : Res := AV.rec (motive_1 := fun _ => (Nat → Nat → Nat → Nat → Res) → Res → Res) (motive_2 := fun _ => Unit) (motive_3 := fun _ => Unit) (motive_4 := fun _ => Unit) (fun _ _ => fun _ e => e) (fun _ => fun _ e => e) (fun _ => fun _ e => e) (fun _ e => e) (fun _ _ => fun _ e => e) (fun a g i o => fun f _ => f a g i o) (fun _ _ => fun _ e => e) (fun _ e => e) (fun _ _ _ => fun _ e => e) (fun _ _ _ => fun _ e => e) (fun _ e => e) (fun _ => fun _ e => e) (fun _ _ => fun _ e => e) (fun _ _ _ _ _ => fun _ e => e) (fun _ e => e) (fun _ => fun _ e => e) (fun _ _ _ => fun _ e => e) (fun _ e => e) (fun _ _ => fun _ e => e) (fun _ _ => fun _ e => e) (fun _ _ => fun _ e => e) (fun _ => fun _ e => e) (fun _ e => e) () (fun _ _ _ _ => ()) () (fun _ _ _ _ => ()) (fun _ _ _ _ => ()) x f e
theorem asOel_eq (x : AV) (f : (Nat → Nat → Nat → Nat → Res)) (e : Res) : asOel x f e = (match x with | .oel a g i o => f a g i o | _ => e) := by cases x <;> rfl
noncomputable def asSown (x : AV) (f : (Nat → Nat → Nat → Res)) (e : Res) : Res := AV.rec (motive_1 := fun _ => (Nat → Nat → Nat → Res) → Res → Res) (motive_2 := fun _ => Unit) (motive_3 := fun _ => Unit) (motive_4 := fun _ => Unit) (fun _ _ => fun _ e => e) (fun _ => fun _ e => e) (fun _ => fun _ e => e) (fun _ e => e) (fun _ _ => fun _ e => e) (fun _ _ _ _ => fun _ e => e) (fun _ _ => fun _ e => e) (fun _ e => e) (fun _ _ _ => fun _ e => e) (fun a g n => fun f _ => f a g n) (fun _ e => e) (fun _ => fun _ e => e) (fun _ _ => fun _ e => e) (fun _ _ _ _ _ => fun _ e => e) (fun _ e => e) (fun _ => fun _ e => e) (fun _ _ _ => fun _ e => e) (fun _ e => e) (fun _ _ => fun _ e => e) (fun _ _ => fun _ e => e) (fun _ _ => fun _ e => e) (fun _ => fun _ e => e) (fun _ e => e) () (fun _ _ _ _ => ()) () (fun _ _ _ _ => ()) (fun _ _ _ _ => ()) x f e
theorem asSown_eq (x : AV) (f : (Nat → Nat → Nat → Res)) (e : Res) : asSown x f e = (match x with | .sown a g n => f a g n | _ => e) := by cases x <;> rfl
noncomputable def fH0 (x : AV) (f : AV → Res) : Res := AV.rec (motive_1 := fun _ => (AV → Res) → Res) (motive_2 := fun _ => Unit) (motive_3 := fun _ => Unit) (motive_4 := fun _ => Unit) (fun k n => fun f => fI n fun n => f (.int k n)) (fun b => fun f => fB b fun b => f (.bool b)) (fun s => fun f => f (.str s)) (fun f => f .nilp) (fun a o => fun f => fN a fun a => fN o fun o => f (.own a o)) (fun a g i o => fun f => fN a fun a => fN g fun g => fN i fun i => fN o fun o => f (.oel a g i o)) (fun cs _ => fun f => f (.pro cs)) (fun f => f .snil) (fun fu els _ => fun f => fB fu fun fu => f (.sval fu els)) (fun a g n => fun f => fN a fun a => fN g fun g => fN n fun n => f (.sown a g n)) (fun f => f .mnil) (fun a => fun f => fN a fun a => f (.mown a)) (fun es _ => fun f => f (.mval es)) (fun f fs cp _ _ => fun f1 => f1 (.fn f fs cp)) (fun f => f .fnil) (fun a => fun f => fN a fun a => f (.yld a)) (fun t v _ => fun f => f (.ifc t v)) (fun f => f .inil) (fun cs _ => fun f => f (.agg cs)) (fun vs _ => fun f => f (.tup vs)) (fun l _ => fun f => f (.dfr l)) (fun v => fun f => f (.val v)) (fun f => f .junk) () (fun _ _ _ _ => ()) () (fun _ _ _ _ => ()) (fun _ _ _ _ => ()) x f
theorem fH0_eq (x : AV) (f : AV → Res) : fH0 x f = f x := by cases x <;> simp only [fH0, fI_eq, fB_eq, fN_eq]
noncomputable def fL (l : List AV) (f : List AV → Res) : Res := List.rec (motive := fun _ => (List AV → Res) → Res) (fun f => f []) (fun x _ ih f => fH0 x fun x => ih fun l => f (x :: l)) l f
theorem fL_eq (l : List AV) : ∀ (f : List AV → Res), fL l f = f l := by
  induction l with
  | nil => intro f; rfl
  | cons x l ih => intro f; show fH0 x _ = _; rw [fH0_eq]; exact ih _
noncomputable def fH (x : AV) (f : AV → Res) : Res := AV.rec (motive_1 := fun _ => (AV → Res) → Res) (motive_2 := fun _ => Unit) (motive_3 := fun _ => Unit) (motive_4 := fun _ => Unit) (fun k n => fun f => fI n fun n => f (.int k n)) (fun b => fun f => fB b fun b => f (.bool b)) (fun s => fun f => f (.str s)) (fun f => f .nilp) (fun a o => fun f => fN a fun a => fN o fun o => f (.own a o)) (fun a g i o => fun f => fN a fun a => fN g fun g => fN i fun i => fN o fun o => f (.oel a g i o)) (fun cs _ => fun f => fL cs fun cs => f (.pro cs)) (fun f => f .snil) (fun fu els _ => fun f => fB fu fun fu => fL els fun els => f (.sval fu els)) (fun a g n => fun f => fN a fun a => fN g fun g => fN n fun n => f (.sown a g n)) (fun f => f .mnil) (fun a => fun f => fN a fun a => f (.mown a)) (fun es _ => fun f => f (.mval es)) (fun f fs cp _ _ => fun f1 => fL fs fun fs => fL cp fun cp => f1 (.fn f fs cp)) (fun f => f .fnil) (fun a => fun f => fN a fun a => f (.yld a)) (fun t v _ => fun f => fH0 v fun v => f (.ifc t v)) (fun f => f .inil) (fun cs _ => fun f => fL cs fun cs => f (.agg cs)) (fun vs _ => fun f => fL vs fun vs => f (.tup vs)) (fun l _ => fun f => f (.dfr l)) (fun v => fun f => f (.val v)) (fun f => f .junk) () (fun _ _ _ _ => ()) () (fun _ _ _ _ => ()) (fun _ _ _ _ => ()) x f
theorem fH_eq (x : AV) (f : AV → Res) : fH x f = f x := by cases x <;> simp only [fH, fI_eq, fB_eq, fN_eq, fL_eq, fH0_eq]
noncomputable def getT (p : List Bool) : Tr → AV :=
  List.rec (motive := fun _ => Tr → AV) (fun t => Tr.rec (motive := fun _ => AV) .junk (fun v _ _ _ _ => v) t)
    (fun b _ ih t => Tr.rec (motive := fun _ => AV) .junk (fun _ l r _ _ => ih (Bool.rec (motive := fun _ => Tr) r l b)) t) p
theorem getT_eq : ∀ (p : List Bool) (t : Tr), getT p t = Tr.get p t
  | [], t => by cases t <;> rfl
  | b :: p, t => by
    cases t with
    | nil => rfl
    | node v l r => cases b <;> exact getT_eq p _
noncomputable def setK (p : List Bool) (x : AV) (t : Tr) (f : Tr → Res) : Res :=
  List.rec (motive := fun _ => AV → Tr → (Tr → Res) → Res)
    (fun x t f => Tr.rec (motive := fun _ => AV → (Tr → Res) → Res) (fun x f => f (.node x .nil .nil)) (fun _ l r _ _ x f => f (.node x l r)) t x f)
    (fun b _ ih x t f => Bool.rec (motive := fun _ => Res)
      (Tr.rec (motive := fun _ => Res) (ih x .nil fun r => f (.node .junk .nil r)) (fun v l r _ _ => ih x r fun r => f (.node v l r)) t)
      (Tr.rec (motive := fun _ => Res) (ih x .nil fun l => f (.node .junk l .nil)) (fun v l r _ _ => ih x l fun l => f (.node v l r)) t) b) p x t f
theorem setK_eq : ∀ (p : List Bool) (x : AV) (t : Tr) (f : Tr → Res), setK p x t f = f (Tr.set p x t)
  | [], x, t, f => by cases t <;> rfl
  | b :: p, x, t, f => by
    cases b <;> cases t <;> exact setK_eq p x _ _
noncomputable def putK (d : Option Nat) (v : AV) (S : List Blk) (e : Tr) (ds : List AV) (k : Kt) : Res :=
  Option.rec (motive := fun _ => Res) (k e ds S) (fun t => setK (path t) v e fun e => k e ds S) d
theorem putK_eq (d : Option Nat) (v : AV) (S : List Blk) (e : Tr) (ds : List AV) (S0 : List Blk) (k : Kt) : putK d v S e ds k = k (St.put ⟨e, ds, S0⟩ d v S).e ds S := by
  cases d with
  | none => rfl
  | some t => exact setK_eq _ _ _ _
noncomputable def evT (G : Nat → AV) (e : Tr) (x : Operand) : AV :=
  Operand.rec (motive := fun _ => (Nat → AV) → Tr → AV) (fun t _ e => getT (path t) e) (fun v _ _ => ofV v) (fun g G _ => G g) (fun f _ _ => .fn (.func f) [] []) x G e
theorem evT_eq {G : Nat → AV} {w0 : World} (hG : GOk G w0) {s : St} {x : Operand} (h : okOp G x = true) : evT G s.e x = evalA w0 s.env x := by
  cases x with
  | tmp t =>
    simp only [okOp, Bool.not_eq_true'] at h
    have : t ≠ DS := fun e => by rw [e] at h; exact absurd h (by rw [Nat.beq_refl]; decide)
    show getT (path t) s.e = _
    rw [getT_eq]
    simp only [evalA, St.env]
    rw [if_neg this]
  | const v => rfl
  | global g =>
    rcases hG g with e | e
    · simp only [okOp, e, AV.isJunk] at h; cases h
    · exact e
  | func f => rfl
theorem evTs_eq {G : Nat → AV} {w0 : World} (hG : GOk G w0) {s : St} : ∀ {l : List Operand}, l.all (okOp G) = true → l.map (evT G s.e) = l.map (evalA w0 s.env)
  | [], _ => rfl
  | x :: l, h => by
    simp only [List.all_cons, Bool.and_eq_true] at h
    simp only [List.map_cons, evT_eq hG h.1, evTs_eq hG h.2]
noncomputable def getK (p : List Bool) (t : Tr) (f : AV → Res) : Res :=
  List.rec (motive := fun _ => Tr → (AV → Res) → Res) (fun t f => Tr.rec (motive := fun _ => Res) (f .junk) (fun v _ _ _ _ => f v) t)
    (fun b _ ih t f => Tr.rec (motive := fun _ => Res) (f .junk) (fun _ l r _ _ => Bool.rec (motive := fun _ => Res) (ih r f) (ih l f) b) t) p t f
theorem getK_eq : ∀ (p : List Bool) (t : Tr) (f : AV → Res), getK p t f = f (Tr.get p t)
  | [], t, f => by cases t <;> rfl
  | b :: p, t, f => by
    cases t with
    | nil => rfl
    | node v l r => cases b <;> exact getK_eq p _ f
noncomputable def evK (G : Nat → AV) (e : Tr) (x : Operand) (f : AV → Res) : Res :=
  Operand.rec (motive := fun _ => (Nat → AV) → Tr → (AV → Res) → Res) (fun t _ e f => getK (path t) e f) (fun v _ _ f => fH (ofV v) f) (fun g G _ f => f (G g)) (fun n _ _ f => f (.fn (.func n) [] [])) x G e f
theorem evK_eq (G : Nat → AV) (e : Tr) (x : Operand) (f : AV → Res) : evK G e x f = f (evT G e x) := by
  cases x with
  | tmp t => show getK _ _ _ = _; rw [getK_eq]; show _ = f (getT _ _); rw [getT_eq]
  | const v => exact fH_eq _ _
  | global g => rfl
  | func n => rfl
noncomputable def evLK (G : Nat → AV) (e : Tr) (l : List Operand) (f : List AV → Res) : Res := List.rec (motive := fun _ => (List AV → Res) → Res) (fun f => f []) (fun x _ ih f => evK G e x fun v => ih fun vs => f (v :: vs)) l f
theorem evLK_eq (G : Nat → AV) (e : Tr) : ∀ (l : List Operand) (f : List AV → Res), evLK G e l f = f (l.map (evT G e))
  | [], f => rfl
  | x :: l, f => by show evK G e x _ = _; rw [evK_eq]; exact evLK_eq G e l _
noncomputable def nthK (l : List Blk) (n : Nat) (f : Blk → Res) (z : Res) : Res :=
  List.rec (motive := fun _ => Nat → (Blk → Res) → Res → Res) (fun _ _ z => z) (fun B _ ih n f z => Nat.rec (motive := fun _ => Res) (f B) (fun m _ => ih m f z) n) l n f z
theorem nthK_eq : ∀ (l : List Blk) (n : Nat) (f : Blk → Res) (z : Res), nthK l n f z = (match l[n]? with | some B => f B | none => z)
  | [], n, f, z => rfl
  | B :: l, 0, f, z => rfl
  | B :: l, n + 1, f, z => by
    rw [List.getElem?_cons_succ]
    exact nthK_eq l n f z
noncomputable def nthA (l : List AV) (n : Nat) (f : AV → Res) (z : Res) : Res :=
  List.rec (motive := fun _ => Nat → (AV → Res) → Res → Res) (fun _ _ z => z) (fun B _ ih n f z => Nat.rec (motive := fun _ => Res) (f B) (fun m _ => ih m f z) n) l n f z
theorem nthA_eq : ∀ (l : List AV) (n : Nat) (f : AV → Res) (z : Res), nthA l n f z = (match l[n]? with | some B => f B | none => z)
  | [], n, f, z => rfl
  | B :: l, 0, f, z => rfl
  | B :: l, n + 1, f, z => by
    rw [List.getElem?_cons_succ]
    exact nthA_eq l n f z
noncomputable def setB (l : List Blk) (n : Nat) (B : Blk) (f : List Blk → Res) : Res :=
  List.rec (motive := fun _ => Nat → Blk → (List Blk → Res) → Res) (fun _ _ f => f []) (fun C l ih n B f => Nat.rec (motive := fun _ => Res) (f (B :: l)) (fun m _ => ih m B fun l => f (C :: l)) n) l n B f
theorem setB_eq : ∀ (l : List Blk) (n : Nat) (B : Blk) (f : List Blk → Res), setB l n B f = f (l.set n B)
  | [], n, B, f => rfl
  | C :: l, 0, B, f => rfl
  | C :: l, n + 1, B, f => setB_eq l n B _
noncomputable def appB (l : List Blk) (B : Blk) (f : List Blk → Res) : Res :=
  List.rec (motive := fun _ => Blk → (List Blk → Res) → Res) (fun B f => f [B]) (fun C _ ih B f => ih B fun l => f (C :: l)) l B f
theorem appB_eq : ∀ (l : List Blk) (B : Blk) (f : List Blk → Res), appB l B f = f (l ++ [B])
  | [], B, f => rfl
  | C :: l, B, f => appB_eq l B _
noncomputable def dropK (n : Nat) (l : List AV) (f : List AV → Res) : Res :=
  Nat.rec (motive := fun _ => List AV → (List AV → Res) → Res) (fun l f => f l) (fun _ ih l f => List.rec (motive := fun _ => Res) (f []) (fun _ l _ => ih l f) l) n l f
theorem dropK_eq : ∀ (n : Nat) (l : List AV) (f : List AV → Res), dropK n l f = f (l.drop n)
  | 0, l, f => by rw [List.drop_zero]; rfl
  | n + 1, [], f => rfl
  | n + 1, x :: l, f => dropK_eq n l f
noncomputable def takeK (n : Nat) (l : List AV) (f : List AV → Res) (z : Res) : Res :=
  Nat.rec (motive := fun _ => List AV → (List AV → Res) → Res → Res) (fun _ f _ => f []) (fun _ ih l f z => List.rec (motive := fun _ => Res) z (fun x l _ => ih l (fun l => f (x :: l)) z) l) n l f z
theorem takeK_eq : ∀ (n : Nat) (l : List AV) (f : List AV → Res) (z : Res), takeK n l f z = if n ≤ l.length then f (l.take n) else z
  | 0, l, f, z => by rw [if_pos (Nat.zero_le _), List.take_zero]; rfl
  | n + 1, [], f, z => by rw [if_neg (by simp)]; rfl
  | n + 1, x :: l, f, z => by
    have : takeK (n + 1) (x :: l) f z = takeK n l (fun l => f (x :: l)) z := rfl
    rw [this, takeK_eq n l]
    simp only [List.length_cons, Nat.add_le_add_iff_right, List.take_succ_cons]
noncomputable def partK (ag : Bool) (n : Nat) (cs : List AV) (f : AV → Res) (z : Res) : Res :=
  Bool.rec (motive := fun _ => Res) (List.rec (motive := fun _ => Res) z (fun x _ _ => f x) cs) (takeK n cs (fun l => f (.agg l)) z) ag
theorem partK_eq (ag : Bool) (n : Nat) (cs : List AV) (f : AV → Res) (z : Res) : partK ag n cs f z = (match partA ag n cs with | some v => f v | none => z) := by
  cases ag with
  | false =>
    cases cs with
    | nil => rfl
    | cons x l => rfl
  | true =>
    show takeK n cs _ z = _
    rw [takeK_eq]
    simp only [partA, if_true]
    split <;> rfl
noncomputable def fSp (l : List AV) (f : List AV → Res) : Res := List.rec (motive := fun _ => (List AV → Res) → Res) (fun f => f []) (fun x _ ih f => ih fun l => f (x :: l)) l f
theorem fSp_eq : ∀ (l : List AV) (f : List AV → Res), fSp l f = f l
  | [], f => rfl
  | x :: l, f => fSp_eq l _
noncomputable def fHs (x : AV) (f : AV → Res) : Res := AV.rec (motive_1 := fun _ => (AV → Res) → Res) (motive_2 := fun _ => Unit) (motive_3 := fun _ => Unit) (motive_4 := fun _ => Unit) (fun k n => fun f => fI n fun n => f (.int k n)) (fun b => fun f => fB b fun b => f (.bool b)) (fun s => fun f => f (.str s)) (fun f => f .nilp) (fun a o => fun f => fN a fun a => fN o fun o => f (.own a o)) (fun a g i o => fun f => fN a fun a => fN g fun g => fN i fun i => fN o fun o => f (.oel a g i o)) (fun cs _ => fun f => fSp cs fun cs => f (.pro cs)) (fun f => f .snil) (fun fu els _ => fun f => fB fu fun fu => fSp els fun els => f (.sval fu els)) (fun a g n => fun f => fN a fun a => fN g fun g => fN n fun n => f (.sown a g n)) (fun f => f .mnil) (fun a => fun f => fN a fun a => f (.mown a)) (fun es _ => fun f => f (.mval es)) (fun f fs cp _ _ => fun f1 => fSp fs fun fs => fSp cp fun cp => f1 (.fn f fs cp)) (fun f => f .fnil) (fun a => fun f => fN a fun a => f (.yld a)) (fun t v _ => fun f => fH0 v fun v => f (.ifc t v)) (fun f => f .inil) (fun cs _ => fun f => fSp cs fun cs => f (.agg cs)) (fun vs _ => fun f => fL vs fun vs => f (.tup vs)) (fun l _ => fun f => f (.dfr l)) (fun v => fun f => f (.val v)) (fun f => f .junk) () (fun _ _ _ _ => ()) () (fun _ _ _ _ => ()) (fun _ _ _ _ => ()) x f
theorem fHs_eq (x : AV) (f : AV → Res) : fHs x f = f x := by cases x <;> simp only [fHs, fI_eq, fB_eq, fN_eq, fSp_eq, fL_eq, fH0_eq]
noncomputable def leafB (x : AV) : Bool := AV.leaf x
noncomputable def replK (n : Nat) (vs cs : List AV) (f : List AV → Res) (z : Res) : Res :=
  Nat.rec (motive := fun _ => List AV → List AV → (List AV → Res) → Res → Res) (fun vs cs f z => List.rec (motive := fun _ => Res) (f cs) (fun _ _ _ => z) vs)
    (fun _ ih vs cs f z => List.rec (motive := fun _ => Res) z (fun v vs _ => List.rec (motive := fun _ => Res) z (fun _ cs _ => Bool.rec (motive := fun _ => Res) z (ih vs cs (fun l => f (v :: l)) z) (AV.leaf v)) cs) vs) n vs cs f z
theorem replK_eq : ∀ (n : Nat) (vs cs : List AV) (f : List AV → Res) (z : Res), replK n vs cs f z = if vs.length = n ∧ allLeaf vs = true ∧ n ≤ cs.length then f (vs ++ cs.drop n) else z
  | 0, [], cs, f, z => by rw [if_pos ⟨rfl, rfl, Nat.zero_le _⟩]; rfl
  | 0, v :: vs, cs, f, z => by rw [if_neg (by simp)]; rfl
  | n + 1, [], cs, f, z => by rw [if_neg (by simp)]; rfl
  | n + 1, v :: vs, [], f, z => by rw [if_neg (by simp)]; rfl
  | n + 1, v :: vs, c :: cs, f, z => by
    show Bool.rec (motive := fun _ => Res) z (replK n vs cs (fun l => f (v :: l)) z) (AV.leaf v) = _
    cases hv : AV.leaf v with
    | false => rw [if_neg (by simp [allLeaf, hv])]
    | true =>
      show replK n vs cs (fun l => f (v :: l)) z = _
      rw [replK_eq n]
      by_cases hc : vs.length = n ∧ allLeaf vs = true ∧ n ≤ cs.length
      · rw [if_pos hc, if_pos ⟨by simp [hc.1], by simp only [allLeaf, List.all_cons, hv, Bool.true_and]; exact hc.2.1, by simp [hc.2.2]⟩]
        rfl
      · rw [if_neg hc, if_neg]
        rintro ⟨a, b, d⟩
        refine hc ⟨by simpa using a, ?_, by simpa using d⟩
        simp only [allLeaf, List.all_cons, hv, Bool.true_and] at b
        exact b
noncomputable def splK (off n : Nat) (vs cs : List AV) (f : List AV → Res) (z : Res) : Res :=
  Nat.rec (motive := fun _ => List AV → (List AV → Res) → Res) (fun cs f => replK n vs cs f z) (fun _ ih cs f => List.rec (motive := fun _ => Res) z (fun c cs _ => ih cs fun l => f (c :: l)) cs) off cs f
theorem splK_eq (n : Nat) (vs : List AV) (z : Res) : ∀ (off : Nat) (cs : List AV) (f : List AV → Res), splK off n vs cs f z = if vs.length = n ∧ allLeaf vs = true ∧ off + n ≤ cs.length then f (splice cs off vs) else z
  | 0, cs, f => by
    show replK n vs cs f z = _
    rw [replK_eq, Nat.zero_add]
    by_cases hc : vs.length = n ∧ allLeaf vs = true ∧ n ≤ cs.length
    · rw [if_pos hc, if_pos hc]
      unfold splice
      rw [List.take_zero, List.nil_append, Nat.zero_add, hc.1]
    · rw [if_neg hc, if_neg hc]
  | off + 1, [], f => by rw [if_neg (by simp)]; rfl
  | off + 1, c :: cs, f => by
    show splK off n vs cs (fun l => f (c :: l)) z = _
    rw [splK_eq n vs z off cs]
    by_cases hc : vs.length = n ∧ allLeaf vs = true ∧ off + n ≤ cs.length
    · rw [if_pos hc, if_pos ⟨hc.1, hc.2.1, by simp; omega⟩]
      have e : off + 1 + vs.length = (off + vs.length) + 1 := by omega
      simp only [splice, List.take_succ_cons, List.cons_append, e, List.drop_succ_cons]
    · rw [if_neg hc, if_neg]
      rintro ⟨a, b, d⟩
      exact hc ⟨a, b, by simp at d; omega⟩
noncomputable def cellsK (B : Blk) (f : List AV → Option TypeId → Res) (z : Res) : Res :=
  Blk.rec (motive := fun _ => (List AV → Option TypeId → Res) → Res → Res) (fun cs ty f _ => f cs ty) (fun _ _ _ _ _ _ z => z) (fun _ _ z => z) (fun _ _ _ _ _ _ _ _ z => z) (fun _ _ _ z => z) (fun _ _ _ z => z) (fun _ z => z) B f z
theorem cellsK_eq (B : Blk) (f : List AV → Option TypeId → Res) (z : Res) : cellsK B f z = (match B with | .cells cs ty => f cs ty | _ => z) := by cases B <;> rfl
noncomputable def fPr (l : List (AV × AV)) (f : List (AV × AV) → Res) : Res := List.rec (motive := fun _ => (List (AV × AV) → Res) → Res) (fun f => f []) (fun p _ ih f => Prod.rec (motive := fun _ => Res) (fun a b => ih fun l => f ((a, b) :: l)) p) l f
theorem fPr_eq : ∀ (l : List (AV × AV)) (f : List (AV × AV) → Res), fPr l f = f l
  | [], f => rfl
  | (a, b) :: l, f => fPr_eq l _
noncomputable def fBlkS (B : Blk) (f : Blk → Res) : Res :=
  Blk.rec (motive := fun _ => (Blk → Res) → Res) (fun cs ty f => fSp cs fun cs => f (.cells cs ty)) (fun e sz fz g els f => fN sz fun sz => fN fz fun fz => fN g fun g => fSp els fun els => f (.arr e sz fz g els)) (fun o f => f (.obj o))
    (fun st pend N tm ps asg body f => f (.loop st pend N tm ps asg body)) (fun fz es f => fB fz fun fz => fPr es fun es => f (.mp fz es)) (fun c r f => f (.mit c r)) (fun f => f .dead) B f
theorem fBlkS_eq (B : Blk) (f : Blk → Res) : fBlkS B f = f B := by cases B <;> simp only [fBlkS, fSp_eq, fN_eq, fB_eq, fPr_eq]
noncomputable def fBlk (B : Blk) (f : Blk → Res) : Res :=
  Blk.rec (motive := fun _ => (Blk → Res) → Res) (fun cs ty f => fL cs fun cs => f (.cells cs ty)) (fun e sz fz g els f => fN sz fun sz => fN fz fun fz => fN g fun g => fL els fun els => f (.arr e sz fz g els)) (fun o f => f (.obj o))
    (fun st pend N tm ps asg body f => f (.loop st pend N tm ps asg body)) (fun fz es f => f (.mp fz es)) (fun c r f => f (.mit c r)) (fun f => f .dead) B f
theorem fBlk_eq (B : Blk) (f : Blk → Res) : fBlk B f = f B := by cases B <;> simp only [fBlk, fL_eq, fN_eq]
noncomputable def fS (S : List Blk) (f : List Blk → Res) : Res := List.rec (motive := fun _ => (List Blk → Res) → Res) (fun f => f []) (fun B _ ih f => fBlk B fun B => ih fun l => f (B :: l)) S f
theorem fS_eq : ∀ (S : List Blk) (f : List Blk → Res), fS S f = f S
  | [], f => rfl
  | B :: S, f => by show fBlk B _ = _; rw [fBlk_eq]; exact fS_eq S _
end Go.Fen.Ex
