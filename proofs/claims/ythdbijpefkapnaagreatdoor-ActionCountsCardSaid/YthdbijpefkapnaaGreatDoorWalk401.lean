/- YthdbijpefkapnaaGreatDoorWalk401. Texts of the proof of a law about texts: a layer of abstract values above the worlds, the types, the walks of the functions that the law reaches, the law and its card. Own work of an AI agent. -/
import Derived.Test.YthdbijpefkapnaaGreatDoorWalk400
import Derived.Test.YthdbijpefkapnaaGreatDoorWalk17
import Derived.Test.YthdbijpefkapnaaGreatDoorWalk12
set_option linter.all false
set_option maxHeartbeats 40000000
open Bool renaming and_true → dh
open Go.Value renaming okWide → wj
open List renaming all_eq_true → aF
open Option.some renaming inj → bp
namespace Go.Proofs.YthdbijpefkapnaaGreatDoor
open Go Go.Fen
attribute [local irreducible] ba WP az dI ie cU aR cw
set_option maxRecDepth 8000
namespace ActionCounts
theorem contract (H:Type) (enc:TypeId × Value→H) (W:World) (base:Nat) (args:Array Value) (ds gs:List (DataW H)) (before:List MemPlace)
  (hval:∀ (j:Nat) t v,Tryz.f9.params[j]? = some t→args[j]? = some v→wj Tryz.prog W .any base t v)
  (hW:DataW.Whole enc Tryz.prog Tryz.f9.params.toList Rows.actionCountsSpec.vars false W args.toList ds gs before) (hL:laidMetH Tryz.prog bW W) :
  Calls Tryz.prog 9 args W fun e W'=>∃ v,e=.returned v∧Rows.actionCountsSpec.post enc Tryz.prog Tryz.f9 false true false false W args v W':=by
 refine nD (n:=20) (tb:=4) [(.int .u16),(.int .u16)] rl ?_ (by rw [Tryz.params9];kernel_rfl) (by kernel_rfl) EZ rfl ?_ hW hval ?_
 ·rw [Tryz.params9]
  have:([26,26].all fun t=>Tryz.prog.readableRec t&&decide (t<Tryz.prog.types.size))=true:=by kernel_rfl
  intro t ht
  simpa using aF.1 this t (by simpa using ht)
 ·intro h
  rw [Tryz.params9] at h
  match ds,h with
  | [d1,d2],_=>rfl
 ·intro avs ha
  obtain⟨y1,r1,h1,e1,ha1⟩:=iG.cons' ha
  obtain⟨y2,r2,h2,e2,ha2⟩:=iG.cons' ha1
  have e3:=iG.nil' ha2
  rw [e1,e2,e3]
  obtain⟨a,rfl,hu⟩:=h1
  obtain⟨b,rfl,hv⟩:=h2
  have hu1:=rH hu
  have hv1:=rH hv
  have hu2:IntKind.u16.max=65535:=by decide
  have hu3:=lF hu rfl
  have hv3:=lF hv rfl
  exact GC W (ru hL) (CP hL) a b ⟨by omega,by omega⟩ ⟨by omega,by omega⟩ [] _ rfl
def wit:Array Value:=#[.int .u16 0,.int .u16 0]
set_option maxRecDepth 100000 in
theorem lifted (os:Os) (started:os.Started) (H:Type) (enc:TypeId × Value→H) :
  ReturnsInHanded {} Tryz.checked os 9 .any (fun w args=>(Rows.actionCountsSpec.pre enc Tryz.prog Tryz.f9 Rows.actionCountsRow.domain false w args∧laidMetH Tryz.prog bW w)∧sizedMet enc Tryz.prog Tryz.f9 (OpenSpec.ofChange Rows.actionCountsSpec) false w args)
   (Rows.actionCountsSpec.post enc Tryz.prog Tryz.f9 false true false false):=by
 refine returnsInHanded_of_change_and (C:=Tryz.checked) (X:=fun w _=>laidMetH Tryz.prog bW w) (fun _ _ _ hh h=>h.of_heap hh) own started (by kernel_rfl) Tryz.func9
  (ChangeSpec.witness_shaped (enc:=enc) (C:=Tryz.checked) (os:=os) (X:=fun w _=>laidMetH Tryz.prog bW w) false (World.laidAll Tryz.prog os bW) wit 8 (World.laidAll_os _ _ _)
   (World.shaped_of_ZipB (by kernel_rfl) (by kernel_rfl)) (by kernel_rfl) (by kernel_rfl) (by kernel_rfl)
   (by rw [MakeChecks.laidMetH_plain _ _ _ (by kernel_rfl)];exact laidMet_laidAll _ (by kernel_rfl) (by kernel_rfl))) ?_
 intro W base args ds gs before hval hW _ _ hL _
 exact contract H enc W base args ds gs before hval hW hL
theorem j1:(Rows.actionCountsRow.inPlace==Tryz.prog.inPlace 9)=true:=by kernel_rfl
theorem j2:(Rows.actionCountsRow.unfollowed==Tryz.prog.unfollowed 9)=true:=by kernel_rfl
theorem j3:(Rows.actionCountsRow.recurses==Tryz.prog.recurses 9)=true:=by kernel_rfl
theorem j4:(Rows.actionCountsRow.named==Tryz.prog.varsNamed 9)=true:=by kernel_rfl
theorem j5:joinedFacts Tryz.prog 9 Tryz.f9 Rows.actionCountsSpec Rows.actionCountsRow=true:=by
 simp only [joinedFacts,j1,j2,j3,j4,dh]
 kernel_rfl
theorem said:Rows.ActionCountsSaid :=
 OpenClaim.holds_of_wide 9 Tryz.f9 rfl rfl rfl rfl rfl rfl rfl ⟨rfl,rfl,rfl,rfl,rfl⟩ rfl rfl rfl rfl rfl (by kernel_rfl) Tryz.func9 j5
  (of_decide_eq_true (by kernel_rfl)) (by unfold Func.isWrapper;first | (rw [if_pos (by decide +kernel)];kernel_rfl) | (rw [if_neg (by decide +kernel)];exact⟨rfl,rfl⟩))
  (fun os started H enc _=>lifted os started H enc)
theorem plainF (f:FuncId) (fn:Func) (hf:Tryz.pinned.checked.prog.funcNamed "fenestra/fenestralaw10.ActionCounts" = some f) (hfn:Tryz.pinned.checked.prog.funcs[f]? = some fn) :
  true=Tryz.pinned.checked.prog.looks []∧∀ (j:Nat) t,fn.params[j]? = some t→Tryz.pinned.checked.prog.wantsStandIn t=false:=by
 obtain rfl:f=9:=bp ((show Tryz.prog.funcNamed "fenestra/fenestralaw10.ActionCounts" = some 9 by kernel_rfl).symm.trans hf) |>.symm
 obtain rfl:fn=Tryz.f9:=(bp (Tryz.func9.symm.trans hfn)).symm
 refine⟨by kernel_rfl,fun j t ht=>?_⟩
 rw [Tryz.params9] at ht
 have hm:t∈[26,26]:=by simpa using Array.mem_of_getElem? ht
 have hall:([26,26].all fun u=>!Tryz.prog.wantsStandIn u)=true:=by kernel_rfl
 exact(show Tryz.prog.wantsStandIn t=false by simpa using aF.1 hall t hm)
end ActionCounts
end Go.Proofs.YthdbijpefkapnaaGreatDoor
