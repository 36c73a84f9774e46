/- YthdbijpefkapnaaGreatDoorWalk201. Texts of the proof of a law about texts: a layer of abstract values above the worlds, the types, the walks of the functions that the law reaches, the law and its card. Own work of an AI agent. -/
import Derived.Test.YthdbijpefkapnaaGreatDoorWalk200
import Derived.Test.YthdbijpefkapnaaGreatDoorWalk14
import Derived.Test.YthdbijpefkapnaaGreatDoorWalk12
set_option linter.all false
set_option maxHeartbeats 40000000
open Bool renaming and_eq_true → aB, and_true → dh
open Go.Value renaming okWide → wj
open List renaming all_eq_true → aF
open Option.some renaming inj → bp
namespace Go.Proofs.YthdbijpefkapnaaGreatDoor
open Go Go.Fen
attribute [local irreducible] ba WP az dI ie cU aR cw
set_option maxRecDepth 8000
namespace ActionChecks
theorem contract (H:Type) (enc:TypeId × Value→H) (W:World) (base:Nat) (args:Array Value) (ds gs:List (DataW H)) (before:List MemPlace)
  (hval:∀ (j:Nat) t v,Tryz.f3.params[j]? = some t→args[j]? = some v→wj Tryz.prog W .any base t v)
  (hW:DataW.Whole enc Tryz.prog Tryz.f3.params.toList Rows.actionChecksSpec.vars false W args.toList ds gs before) (hL:laidMetH Tryz.prog bW W) :
  Calls Tryz.prog 3 args W fun e W'=>∃ v,e=.returned v∧Rows.actionChecksSpec.post enc Tryz.prog Tryz.f3 false true false false W args v W':=by
 refine nD (n:=20) (tb:=4) [zx,lk,(.int .i64)] rl ?_ (by rw [Tryz.params3];kernel_rfl) (by kernel_rfl) EZ rfl ?_ hW hval ?_
 ·rw [Tryz.params3]
  have:([25,29,3].all fun t=>Tryz.prog.readableRec t&&decide (t<Tryz.prog.types.size))=true:=by kernel_rfl
  intro t ht
  simpa using aF.1 this t (by simpa using ht)
 ·intro h
  rw [Tryz.params3] at h
  match ds,h with
  | [d1,d2,d3],_=>rfl
 ·intro avs ha
  obtain⟨y1,r1,h1,e1,ha1⟩:=iG.cons' ha
  obtain⟨y2,r2,h2,e2,ha2⟩:=iG.cons' ha1
  obtain⟨y3,r3,h3,e3,ha3⟩:=iG.cons' ha2
  have e4:=iG.nil' ha3
  rw [e1,e2,e3,e4]
  obtain⟨a,ea,ha⟩:=Bk y1 h1
  obtain⟨k,n,m,r,t,hn,hm,hd⟩:=o6 y2 h2
  obtain⟨u,rfl,hu⟩:=h3
  rw [ea,hd]
  exact GD W (ru hL) [] a u k n m r t ha (Cx hu) hn hm _ rfl
def wit:Array Value:=#[.agg #[.int .i64 0,.int .i64 0,.int .i64 0,.int .i64 0,.int .i64 0,.string ⟨#[]⟩],.agg #[.int .u16 0,.int .u16 0,.int .u16 0,.int .u32 0,.string ⟨#[]⟩],.int .i64 0]
set_option maxRecDepth 100000 in
theorem lifted (os:Os) (started:os.Started) (H:Type) (enc:TypeId × Value→H) :
  ReturnsInHanded {} Tryz.checked os 3 .any (fun w args=>(Rows.actionChecksSpec.pre enc Tryz.prog Tryz.f3 Rows.actionChecksRow.domain false w args∧laidMetH Tryz.prog bW w)∧sizedMet enc Tryz.prog Tryz.f3 (OpenSpec.ofChange Rows.actionChecksSpec) false w args)
   (Rows.actionChecksSpec.post enc Tryz.prog Tryz.f3 false true false false):=by
 refine returnsInHanded_of_change_and (C:=Tryz.checked) (X:=fun w _=>laidMetH Tryz.prog bW w) (fun _ _ _ hh h=>h.of_heap hh) own started (by kernel_rfl) Tryz.func3
  (ChangeSpec.witness_shaped (enc:=enc) (C:=Tryz.checked) (os:=os) (X:=fun w _=>laidMetH Tryz.prog bW w) false (World.laidAll Tryz.prog os bW) wit 8 (World.laidAll_os _ _ _)
   (World.shaped_of_ZipB (by kernel_rfl) (by kernel_rfl)) (by kernel_rfl) (by kernel_rfl) (by kernel_rfl)
   (by rw [MakeChecks.laidMetH_plain _ _ _ (by kernel_rfl)];exact laidMet_laidAll _ (by kernel_rfl) (by kernel_rfl))) ?_
 intro W base args ds gs before hval hW _ _ hL _
 exact contract H enc W base args ds gs before hval hW hL
theorem j1:(Rows.actionChecksRow.inPlace==Tryz.prog.inPlace 3)=true:=by kernel_rfl
theorem j2:(Rows.actionChecksRow.unfollowed==Tryz.prog.unfollowed 3)=true:=by kernel_rfl
theorem j3:(Rows.actionChecksRow.recurses==Tryz.prog.recurses 3)=true:=by kernel_rfl
theorem j4:(Rows.actionChecksRow.named==Tryz.prog.varsNamed 3)=true:=by kernel_rfl
theorem j5:joinedFacts Tryz.prog 3 Tryz.f3 Rows.actionChecksSpec Rows.actionChecksRow=true:=by
 simp only [joinedFacts,j1,j2,j3,j4,dh]
 kernel_rfl
theorem said:Rows.ActionChecksSaid :=
 OpenClaim.holds_of_wide 3 Tryz.f3 rfl rfl rfl rfl rfl rfl rfl ⟨rfl,rfl,rfl,rfl,rfl⟩ rfl rfl rfl rfl rfl (by kernel_rfl) Tryz.func3 j5
  (of_decide_eq_true (by kernel_rfl)) (by unfold Func.isWrapper;first | (rw [if_pos (by decide +kernel)];kernel_rfl) | (rw [if_neg (by decide +kernel)];exact⟨rfl,rfl⟩))
  (fun os started H enc _=>lifted os started H enc)
theorem plainF (f:FuncId) (fn:Func) (hf:Tryz.pinned.checked.prog.funcNamed "fenestra/fenestralaw10.ActionChecks" = some f) (hfn:Tryz.pinned.checked.prog.funcs[f]? = some fn) :
  true=Tryz.pinned.checked.prog.looks []∧∀ (j:Nat) t,fn.params[j]? = some t→Tryz.pinned.checked.prog.wantsStandIn t=false:=by
 obtain rfl:f=3:=bp ((show Tryz.prog.funcNamed "fenestra/fenestralaw10.ActionChecks" = some 3 by kernel_rfl).symm.trans hf) |>.symm
 obtain rfl:fn=Tryz.f3:=(bp (Tryz.func3.symm.trans hfn)).symm
 refine⟨by kernel_rfl,fun j t ht=>?_⟩
 rw [Tryz.params3] at ht
 have hm:t∈[25,29,3]:=by simpa using Array.mem_of_getElem? ht
 have hall:([25,29,3].all fun u=>!Tryz.prog.wantsStandIn u)=true:=by kernel_rfl
 exact(show Tryz.prog.wantsStandIn t=false by simpa using aF.1 hall t hm)
end ActionChecks
end Go.Proofs.YthdbijpefkapnaaGreatDoor
