/- YthdbijpefkapnaaGreatDoorOfWalk100. Texts of the proof of a law about texts: a layer of abstract values above the worlds, the types, the walks of the functions that the law reaches, the law and its card. Own work of an AI agent. -/
import Derived.Test.YthdbijpefkapnaaGreatDoorOfWalk24
set_option linter.all false
set_option maxHeartbeats 40000000
open Bool renaming and_true → cG
open Go.Value renaming okWide → rt
open List renaming all_eq_true → aD, map_cons → al, mem_cons → bD, mem_cons_of_mem → iv, mem_cons_self → dG
open Option.some renaming inj → bg
namespace Go.Proofs.YthdbijpefkapnaaGreatDoor
open Go Go.Fen Go.Proofs.Tryz
attribute [local irreducible] aX WP ao dS i7 cJ aU cC
set_option maxRecDepth 8000
theorem Lc:∀ els:List (List AV),(∀ y∈els,(Sk.int .u8).has y)→∃ l:List Nat,els.map (Sk.int .u8).mk=l.map By∧∀ b∈l,b<256:=by
 intro els
 induction els with
 | nil=>intro _;exact⟨[],rfl,χ⟩
 | cons y els ih =>
  intro hh
  obtain⟨x,rfl,hx⟩:=hh y (dG ..)
  obtain⟨l,hl,hb⟩:=ih fun z hz=>hh z (iv _ hz)
  have hx1:=Ju hx
  have hu:IntKind.u8.max=255:=δ
  have qn:=yM hx rfl
  refine⟨x.toNat::l, ?_,fun b hm=>?_⟩
  ·simp only [al,hl,By,qn];rfl
  ·rcases bD.1 hm with rfl|hm
   ·omega
   ·exact hb b hm
end Go.Proofs.YthdbijpefkapnaaGreatDoor
