/- YthdbijpefkapnaaGreatDoorWalk101. Texts of the proof of a law about texts: a layer of abstract values above the worlds, the types, the walks of the functions that the law reaches, the law and its card. Own work of an AI agent. -/
import Derived.Test.YthdbijpefkapnaaGreatDoorWalk100
set_option linter.all false
set_option maxHeartbeats 40000000
open Bool renaming and_true → cu
open Go.Value renaming okWide → qD
open List renaming all_eq_true → aC
open Option.some renaming inj → bc
namespace Go.Proofs.YthdbijpefkapnaaGreatDoor
open Go Go.Fen Go.Proofs.Tryz
attribute [local irreducible] aW WP aj dS jl cQ aV cV
set_option maxRecDepth 8000
namespace ActionFinals
theorem contract(H:Type)(enc:TypeId × Value→H)(W:World)(base:Nat)(args:Array Value)(ds gs:List (DataW H))(before:List MemPlace)
  (hval:∀ (j:Nat) t v,Tryz.f5.params[j]? = some t→args[j]? = some v→qD prog W .any base t v)
  (hW:DataW.Whole enc prog Tryz.f5.params.toList Rows.actionFinalsSpec.vars false W args.toList ds gs before) (hL:laidMetH prog da W) :
  Calls prog 5 args W fun e W'=>∃ v,e=.returned v∧Rows.actionFinalsSpec.post enc prog Tryz.f5 false true false false W args v W':=by
 refine AR (n:=20) (tb:=4) [.sl Fy,.int .u8,.int .i64] F_ ?_ (by rw [Tryz.params5];kernel_rfl) (by kernel_rfl) LZ rfl ?_ hW hval ?_
 ·rw [Tryz.params5]
  have:([38,5,3].all fun t=>prog.readableRec t&&decide (t<prog.types.size))=true:=by kernel_rfl
  intro t ht
  simpa using aC.1 this t (by simpa using ht)
 ·intro h
  rw [Tryz.params5] at h
  match ds,h with
  | [d1,d2,d3],_=>rfl
 ·intro avs ha
  obtain⟨y1,r1,h1,e1,ha1⟩:=lK.cons' ha
  obtain⟨y2,r2,h2,e2,ha2⟩:=lK.cons' ha1
  obtain⟨y3,r3,h3,e3,ha3⟩:=lK.cons' ha2
  have e4:=lK.nil' ha3
  rw [e1,e2,e3,e4]
  obtain⟨els,rfl,_,he⟩:=h1
  obtain⟨b,rfl,hb⟩:=h2
  obtain⟨c,rfl,_⟩:=h3
  obtain⟨l,hl⟩:=JM els he
  have hb1:=H7 hb
  have hu:IntKind.u8.max=255:=by decide
  have hb3:=H6 hb rfl
  have hx:=Ga W (GF hL) (J2 hL) [] l b.toNat (by omega) c (fun o _=>o=.ret (.bool true)) rfl
  rw [hb3,← hl] at hx
  exact hx
def wit:Array Value:=#[.slice none 0 0,.int .u8 0,.int .i64 0]
set_option maxRecDepth 100000 in
theorem lifted(os:Os)(started:os.Started)(H:Type)(enc:TypeId × Value→H) :
  ReturnsInHanded {} Tryz.checked os 5 .any (fun w args=>(Rows.actionFinalsSpec.pre enc prog Tryz.f5 Rows.actionFinalsRow.domain false w args∧laidMetH prog da w)∧sizedMet enc prog Tryz.f5 (OpenSpec.ofChange Rows.actionFinalsSpec) false w args)
   (Rows.actionFinalsSpec.post enc prog Tryz.f5 false true false false):=by
 refine returnsInHanded_of_change_and (C:=Tryz.checked) (X:=fun w _=>laidMetH prog da w) (fun _ _ _ hh h=>h.of_heap hh) own started (by kernel_rfl) func5
  (ChangeSpec.witness_shaped (enc:=enc) (C:=Tryz.checked) (os:=os) (X:=fun w _=>laidMetH prog da w) false (World.laidAll prog os da) wit 8 (World.laidAll_os _ _ _)
   (World.shaped_of_ZipB (by kernel_rfl) (by kernel_rfl)) (by kernel_rfl) (by kernel_rfl) (by kernel_rfl)
   (by rw [MakeChecks.laidMetH_plain _ _ _ (by kernel_rfl)];exact laidMet_laidAll _ (by kernel_rfl) (by kernel_rfl))) ?_
 intro W base args ds gs before hval hW _ _ hL _
 exact contract H enc W base args ds gs before hval hW hL
theorem j1:(Rows.actionFinalsRow.inPlace==prog.inPlace 5)=true:=by kernel_rfl
theorem j2:(Rows.actionFinalsRow.unfollowed==prog.unfollowed 5)=true:=by kernel_rfl
theorem j3:(Rows.actionFinalsRow.recurses==prog.recurses 5)=true:=by kernel_rfl
theorem j4:(Rows.actionFinalsRow.named==prog.varsNamed 5)=true:=by kernel_rfl
theorem j5:joinedFacts prog 5 Tryz.f5 Rows.actionFinalsSpec Rows.actionFinalsRow=true:=by
 simp only [joinedFacts,j1,j2,j3,j4,cu]
 kernel_rfl
theorem said:Rows.ActionFinalsSaid :=
 OpenClaim.holds_of_wide 5 Tryz.f5 rfl rfl rfl rfl rfl rfl rfl ⟨rfl,rfl,rfl,rfl,rfl⟩ rfl rfl rfl rfl rfl (by kernel_rfl) func5 j5
  (of_decide_eq_true (by kernel_rfl)) (by unfold Func.isWrapper;first|(rw [if_pos (by decide +kernel)];kernel_rfl)|(rw [if_neg (by decide +kernel)];exact⟨rfl,rfl⟩))
  (fun os started H enc _=>lifted os started H enc)
theorem plainF(f:FuncId)(fn:Func)(hf:Tryz.pinned.checked.prog.funcNamed "fenestra/fenestralaw10.ActionFinals" = some f)(hfn:Tryz.pinned.checked.prog.funcs[f]? = some fn) :
  true=Tryz.pinned.checked.prog.looks []∧∀ (j:Nat) t,fn.params[j]? = some t→Tryz.pinned.checked.prog.wantsStandIn t=false:=by
 obtain rfl:f=5:=bc ((show prog.funcNamed "fenestra/fenestralaw10.ActionFinals" = some 5 by kernel_rfl).symm.trans hf) |>.symm
 obtain rfl:fn=Tryz.f5:=(bc (func5.symm.trans hfn)).symm
 refine⟨by kernel_rfl,fun j t ht=>?_⟩
 rw [Tryz.params5] at ht
 have hm:t∈[38,5,3]:=by simpa using Array.mem_of_getElem? ht
 have hall:([38,5,3].all fun u=>!prog.wantsStandIn u)=true:=by kernel_rfl
 exact(show prog.wantsStandIn t=false by simpa using aC.1 hall t hm)
end ActionFinals
end Go.Proofs.YthdbijpefkapnaaGreatDoor
