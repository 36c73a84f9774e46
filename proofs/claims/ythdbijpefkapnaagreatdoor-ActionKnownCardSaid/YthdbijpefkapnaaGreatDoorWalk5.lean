/- YthdbijpefkapnaaGreatDoorWalk5. Texts of the proof of a law about texts: a layer of abstract values above the worlds, the types, the walks of the functions that the law reaches, the law and its card. Own work of an AI agent. -/
import Derived.Test.YthdbijpefkapnaaGreatDoorWalk4
import Derived.Test.YthdbijpefkapnaaGreatDoorWalk3
import Derived.Test.YthdbijpefkapnaaGreatDoorCore2
import Derived.Test.YthdbijpefkapnaaGreatDoorWalk2
import Derived.Test.YthdbijpefkapnaaGreatDoorCards
import Derived.Test.YthdbijpefkapnaaGreatDoorTie
import Derived.ProofKit
import Derived.OpenShut
import Derived.LaidMore
import Derived.Lay
import Derived.SevenTiedAt
import Derived.Stop.Joined
set_option linter.all false
set_option maxHeartbeats 40000000
open And renaming intro → dw
open Array renaming getElem?_toList → a7
open BitVec renaming ofInt → ai
open Bool renaming and_eq_true → aj, false_eq_true → bJ, not_eq_false' → aG, not_eq_true' → az, or_eq_false_iff → bj, or_eq_true → ef
open Go.IntKind renaming i64 → af, u8 → aW
open Go.IntWalk renaming i64_in → au, u8_in → en
open Go.Lib renaming cells_of_tab → pH, hid → ae, mapM_at → Cl, mapM_length → up
open Go.Value renaming int → dn, okWide → nQ, oneCell' → ul
open Go.World renaming var?_cell → Am
open List renaming all_eq_true → aq, append_assoc → aK, append_nil → aE, cons_append → cz, flatMap_cons → kW, foldl_cons → ee, getElem?_append_right → aw, getElem?_drop → bQ, getElem?_eq_getElem → al, getElem?_eq_none → bz, getElem?_map → aF, getElem?_take → aV, length → dM, length_append → ah, length_cons → aI, length_eq_zero_iff → mM, length_map → aY, length_nil → aU, length_take_le → Ap, map_append → bg, map_cons → aA, map_map → Ag, map_nil → aC, mem_cons → bA, mem_cons_of_mem → fa, mem_map → aH, mem_of_getElem? → ar, mem_of_mem_take → mL, nil_append → cU, take_add_one → eP, take_of_length_le → cA, take_zero → co
open List.cons renaming injEq → iI
open Nat renaming le_trans → dB, zero_add → di, zero_le → bx
open Option renaming bind_some → Cg, map_eq_some_iff → aJ, map_some → cu
open Option.some renaming inj → bi, injEq → a8
open Prod renaming fst → bZ
open UInt8 renaming toNat → aR
namespace Go.Proofs.YthdbijpefkapnaaGreatDoor
open Go Go.Fen
attribute [local irreducible] aX WP ao er nF dt bK fD
set_option maxRecDepth 8000
namespace ActionKnown
theorem contract (H:Type) (enc:TypeId × Value→H) (W:World) (base:Nat) (args:Array Value) (ds gs:List (DataW H)) (before:List MemPlace)
  (hval:∀ (j:Nat) t v,Tryz.f8.params[j]? = some t→args[j]? = some v→nQ Tryz.prog W .any base t v)
  (hW:DataW.Whole enc Tryz.prog Tryz.f8.params.toList Rows.actionKnownSpec.vars false W args.toList ds gs before) (hL:laidMetH Tryz.prog cD W) :
  Calls Tryz.prog 8 args W fun e W'=>∃ v,e=.returned v∧Rows.actionKnownSpec.post enc Tryz.prog Tryz.f8 false true false false W args v W':=by
 refine xj (n:=20) (tb:=4) [] BF ?_ (by rw [Tryz.params8];kernel_rfl) (by kernel_rfl) FT rfl ?_ hW hval ?_
 ·rw [Tryz.params8]
  have:([].all fun t=>Tryz.prog.readableRec t&&decide (t<Tryz.prog.types.size))=true:=by kernel_rfl
  intro t ht
  simpa using aq.1 this t (by simpa using ht)
 ·intro h
  rw [Tryz.params8] at h
  match ds,h with
  | [],_=>rfl
 ·intro avs ha
  have e1:=qJ.nil' ha
  rw [e1]
  exact DN W (B4 hL) [] _ rfl
def wit:Array Value:=#[]
set_option maxRecDepth 100000 in
theorem lifted (os:Os) (started:os.Started) (H:Type) (enc:TypeId × Value→H) :
  ReturnsInHanded {} Tryz.checked os 8 .any (fun w args=>(Rows.actionKnownSpec.pre enc Tryz.prog Tryz.f8 Rows.actionKnownRow.domain false w args∧laidMetH Tryz.prog cD w)∧sizedMet enc Tryz.prog Tryz.f8 (OpenSpec.ofChange Rows.actionKnownSpec) false w args)
   (Rows.actionKnownSpec.post enc Tryz.prog Tryz.f8 false true false false):=by
 refine returnsInHanded_of_change_and (C:=Tryz.checked) (X:=fun w _=>laidMetH Tryz.prog cD w) (fun _ _ _ hh h=>h.of_heap hh) own started (by kernel_rfl) Tryz.func8
  (ChangeSpec.witness_shaped (enc:=enc) (C:=Tryz.checked) (os:=os) (X:=fun w _=>laidMetH Tryz.prog cD w) false (World.laidAll Tryz.prog os cD) wit 8 (World.laidAll_os _ _ _)
   (World.shaped_of_ZipB (by kernel_rfl) (by kernel_rfl)) (by kernel_rfl) (by kernel_rfl) (by kernel_rfl)
   (by rw [MakeChecks.laidMetH_plain _ _ _ (by kernel_rfl)];exact laidMet_laidAll _ (by kernel_rfl) (by kernel_rfl))) ?_
 intro W base args ds gs before hval hW _ _ hL _
 exact contract H enc W base args ds gs before hval hW hL
theorem j1:(Rows.actionKnownRow.inPlace==Tryz.prog.inPlace 8)=true:=by kernel_rfl
theorem j2:(Rows.actionKnownRow.unfollowed==Tryz.prog.unfollowed 8)=true:=by kernel_rfl
theorem j3:(Rows.actionKnownRow.recurses==Tryz.prog.recurses 8)=true:=by kernel_rfl
theorem j4:(Rows.actionKnownRow.named==Tryz.prog.varsNamed 8)=true:=by kernel_rfl
theorem j5:joinedFacts Tryz.prog 8 Tryz.f8 Rows.actionKnownSpec Rows.actionKnownRow=true:=by
 simp only [joinedFacts,j1,j2,j3,j4,Bool.and_true]
 kernel_rfl
theorem said:Rows.ActionKnownSaid :=
 OpenClaim.holds_of_wide 8 Tryz.f8 rfl rfl rfl rfl rfl rfl rfl ⟨rfl,rfl,rfl,rfl,rfl⟩ rfl rfl rfl rfl rfl (by kernel_rfl) Tryz.func8 j5
  (of_decide_eq_true (by kernel_rfl)) (by unfold Func.isWrapper;first | (rw [if_pos (by decide +kernel)];kernel_rfl) | (rw [if_neg (by decide +kernel)];exact⟨rfl,rfl⟩))
  (fun os started H enc _=>lifted os started H enc)
theorem plainF (f:FuncId) (fn:Func) (hf:Tryz.pinned.checked.prog.funcNamed "fenestra/fenestralaw10.ActionKnown" = some f) (hfn:Tryz.pinned.checked.prog.funcs[f]? = some fn) :
  true=Tryz.pinned.checked.prog.looks []∧∀ (j:Nat) t,fn.params[j]? = some t→Tryz.pinned.checked.prog.wantsStandIn t=false:=by
 obtain rfl:f=8:=bi ((show Tryz.prog.funcNamed "fenestra/fenestralaw10.ActionKnown" = some 8 by kernel_rfl).symm.trans hf) |>.symm
 obtain rfl:fn=Tryz.f8:=(bi (Tryz.func8.symm.trans hfn)).symm
 refine⟨by kernel_rfl,fun j t ht=>?_⟩
 rw [Tryz.params8] at ht
 have hm:t∈[]:=by simpa using Array.mem_of_getElem? ht
 have hall:([].all fun u=>!Tryz.prog.wantsStandIn u)=true:=by kernel_rfl
 exact(show Tryz.prog.wantsStandIn t=false by simpa using aq.1 hall t hm)
end ActionKnown
end Go.Proofs.YthdbijpefkapnaaGreatDoor
