/- YthdbijpefkapnaaGreatDoorWalk101. Texts of the proof of a law about texts: a layer of abstract values above the worlds, the types, the walks of the functions that the law reaches, the law and its card. Own work of an AI agent. -/
import Derived.Test.YthdbijpefkapnaaGreatDoorWalk100
import Derived.Test.YthdbijpefkapnaaGreatDoorWalk13
import Derived.Test.YthdbijpefkapnaaGreatDoorWalk12
set_option linter.all false
set_option maxHeartbeats 40000000
open Bool renaming and_true → dh
open Go.Value renaming okWide → wj
open List renaming all_eq_true → aF
open Option.some renaming inj → bp
namespace Go.Proofs.YthdbijpefkapnaaGreatDoor
open Go Go.Fen
attribute [local irreducible] ba WP az dI ie cU aR cw
set_option maxRecDepth 8000
namespace ActionPlain
theorem contract (H:Type) (enc:TypeId × Value→H) (W:World) (base:Nat) (args:Array Value) (ds gs:List (DataW H)) (before:List MemPlace)
  (hval:∀ (j:Nat) t v,Tryz.f7.params[j]? = some t→args[j]? = some v→wj Tryz.prog W .any base t v)
  (hW:DataW.Whole enc Tryz.prog Tryz.f7.params.toList Rows.actionPlainSpec.vars false W args.toList ds gs before) (hL:laidMetH Tryz.prog bW W) :
  Calls Tryz.prog 7 args W fun e W'=>∃ v,e=.returned v∧Rows.actionPlainSpec.post enc Tryz.prog Tryz.f7 false true false false W args v W':=by
 refine nD (n:=20) (tb:=4) [lk,(.int .u16)] rl ?_ (by rw [Tryz.params7];kernel_rfl) (by kernel_rfl) EZ rfl ?_ hW hval ?_
 ·rw [Tryz.params7]
  have:([29,26].all fun t=>Tryz.prog.readableRec t&&decide (t<Tryz.prog.types.size))=true:=by kernel_rfl
  intro t ht
  simpa using aF.1 this t (by simpa using ht)
 ·intro h
  rw [Tryz.params7] at h
  match ds,h with
  | [d1,d2],_=>rfl
 ·intro avs ha
  obtain⟨y1,r1,h1,e1,ha1⟩:=iG.cons' ha
  obtain⟨y2,r2,h2,e2,ha2⟩:=iG.cons' ha1
  have e3:=iG.nil' ha2
  rw [e1,e2,e3]
  obtain⟨k,n,m,r,t,hn,hm,hd⟩:=o6 y1 h1
  obtain⟨u,rfl,hu⟩:=h2
  have hu1:=rH hu
  have hu2:IntKind.u16.max=65535:=by decide
  have hu3:=lF hu rfl
  rw [hd,← hu3]
  exact Kp W (ru hL) [] k n m r u.toNat t hn hm (by omega) _ rfl
def wit:Array Value:=#[.agg #[.int .u16 0,.int .u16 0,.int .u16 0,.int .u32 0,.string ⟨#[]⟩],.int .u16 0]
set_option maxRecDepth 100000 in
theorem lifted (os:Os) (started:os.Started) (H:Type) (enc:TypeId × Value→H) :
  ReturnsInHanded {} Tryz.checked os 7 .any (fun w args=>(Rows.actionPlainSpec.pre enc Tryz.prog Tryz.f7 Rows.actionPlainRow.domain false w args∧laidMetH Tryz.prog bW w)∧sizedMet enc Tryz.prog Tryz.f7 (OpenSpec.ofChange Rows.actionPlainSpec) false w args)
   (Rows.actionPlainSpec.post enc Tryz.prog Tryz.f7 false true false false):=by
 refine returnsInHanded_of_change_and (C:=Tryz.checked) (X:=fun w _=>laidMetH Tryz.prog bW w) (fun _ _ _ hh h=>h.of_heap hh) own started (by kernel_rfl) Tryz.func7
  (ChangeSpec.witness_shaped (enc:=enc) (C:=Tryz.checked) (os:=os) (X:=fun w _=>laidMetH Tryz.prog bW w) false (World.laidAll Tryz.prog os bW) wit 8 (World.laidAll_os _ _ _)
   (World.shaped_of_ZipB (by kernel_rfl) (by kernel_rfl)) (by kernel_rfl) (by kernel_rfl) (by kernel_rfl)
   (by rw [MakeChecks.laidMetH_plain _ _ _ (by kernel_rfl)];exact laidMet_laidAll _ (by kernel_rfl) (by kernel_rfl))) ?_
 intro W base args ds gs before hval hW _ _ hL _
 exact contract H enc W base args ds gs before hval hW hL
theorem j1:(Rows.actionPlainRow.inPlace==Tryz.prog.inPlace 7)=true:=by kernel_rfl
theorem j2:(Rows.actionPlainRow.unfollowed==Tryz.prog.unfollowed 7)=true:=by kernel_rfl
theorem j3:(Rows.actionPlainRow.recurses==Tryz.prog.recurses 7)=true:=by kernel_rfl
theorem j4:(Rows.actionPlainRow.named==Tryz.prog.varsNamed 7)=true:=by kernel_rfl
theorem j5:joinedFacts Tryz.prog 7 Tryz.f7 Rows.actionPlainSpec Rows.actionPlainRow=true:=by
 simp only [joinedFacts,j1,j2,j3,j4,dh]
 kernel_rfl
theorem said:Rows.ActionPlainSaid :=
 OpenClaim.holds_of_wide 7 Tryz.f7 rfl rfl rfl rfl rfl rfl rfl ⟨rfl,rfl,rfl,rfl,rfl⟩ rfl rfl rfl rfl rfl (by kernel_rfl) Tryz.func7 j5
  (of_decide_eq_true (by kernel_rfl)) (by unfold Func.isWrapper;first | (rw [if_pos (by decide +kernel)];kernel_rfl) | (rw [if_neg (by decide +kernel)];exact⟨rfl,rfl⟩))
  (fun os started H enc _=>lifted os started H enc)
theorem plainF (f:FuncId) (fn:Func) (hf:Tryz.pinned.checked.prog.funcNamed "fenestra/fenestralaw10.ActionPlain" = some f) (hfn:Tryz.pinned.checked.prog.funcs[f]? = some fn) :
  true=Tryz.pinned.checked.prog.looks []∧∀ (j:Nat) t,fn.params[j]? = some t→Tryz.pinned.checked.prog.wantsStandIn t=false:=by
 obtain rfl:f=7:=bp ((show Tryz.prog.funcNamed "fenestra/fenestralaw10.ActionPlain" = some 7 by kernel_rfl).symm.trans hf) |>.symm
 obtain rfl:fn=Tryz.f7:=(bp (Tryz.func7.symm.trans hfn)).symm
 refine⟨by kernel_rfl,fun j t ht=>?_⟩
 rw [Tryz.params7] at ht
 have hm:t∈[29,26]:=by simpa using Array.mem_of_getElem? ht
 have hall:([29,26].all fun u=>!Tryz.prog.wantsStandIn u)=true:=by kernel_rfl
 exact(show Tryz.prog.wantsStandIn t=false by simpa using aF.1 hall t hm)
end ActionPlain
end Go.Proofs.YthdbijpefkapnaaGreatDoor
