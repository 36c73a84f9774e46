/- YthdbijpefkapnaaGreatDoorOfWalk101. Texts of the proof of a law about texts: a layer of abstract values above the worlds, the types, the walks of the functions that the law reaches, the law and its card. Own work of an AI agent. -/
import Derived.Test.YthdbijpefkapnaaGreatDoorOfWalk100
set_option linter.all false
set_option maxHeartbeats 40000000
open Bool renaming and_true → cG
open Go.Value renaming okWide → rt
open List renaming all_eq_true → aD, map_cons → al, mem_cons → bD, mem_cons_of_mem → iv, mem_cons_self → dG
open Option.some renaming inj → bg
namespace Go.Proofs.YthdbijpefkapnaaGreatDoor
open Go Go.Fen Go.Proofs.Tryz
attribute [local irreducible] aX WP ao dS i7 cJ aU cC
set_option maxRecDepth 8000
namespace ActionOf
theorem contract(H:Type)(enc:TypeId × Value→H)(W:World)(base:Nat)(args:Array Value)(ds gs:List (DataW H))(before:List MemPlace)
  (hval:∀ (j:Nat) t v,Tryz.f4.params[j]? = some t→args[j]? = some v→rt prog W .any base t v)
  (hW:DataW.Whole enc prog Tryz.f4.params.toList Rows.actionOfSpec.vars false W args.toList ds gs before) (hL:laidMetH prog dh W) :
  Calls prog 4 args W fun e W'=>∃ v,e=.returned v∧Rows.actionOfSpec.post enc prog Tryz.f4 false true false false W args v W':=by
 refine BS (n:=20) (tb:=4) [Ic,.sl (.int .u8)] HU ?_ (by rw [Tryz.params4];kernel_rfl) (by kernel_rfl) Nr rfl ?_ hW hval ?_
 ·rw [Tryz.params4]
  have:([40,41].all fun t=>prog.readableRec t&&decide (t<prog.types.size))=true:=by kernel_rfl
  intro t ht
  simpa using aD.1 this t (by simpa using ht)
 ·intro h
  rw [Tryz.params4] at h
  match ds,h with
  | [d1,d2],_=>rfl
 ·intro avs ha
  obtain⟨y1,r1,h1,e1,ha1⟩:=nh.cons' ha
  obtain⟨y2,r2,h2,e2,ha2⟩:=nh.cons' ha1
  have e3:=nh.nil' ha2
  rw [e1,e2,e3]
  obtain⟨e,ee⟩:=GY y1 h1
  rw [ee]
  obtain⟨els,rfl,_,he⟩:=h2
  obtain⟨l,hl,hb⟩:=Lc els he
  have hx:=Rm W (IA hL) (Lv hL) [] e l hb (fun o _=>o=.ret (.bool true)) rfl
  rw [← hl] at hx
  exact hx
def wit:Array Value:=#[.agg #[.int .i64 0,.int .i64 0,.int .u8 0,.int .u8 0,.slice none 0 0,.string ⟨#[]⟩,.string ⟨#[]⟩],.slice none 0 0]
set_option maxRecDepth 100000 in
theorem lifted(os:Os)(started:os.Started)(H:Type)(enc:TypeId × Value→H) :
  ReturnsInHanded {} Tryz.checked os 4 .any (fun w args=>(Rows.actionOfSpec.pre enc prog Tryz.f4 Rows.actionOfRow.domain false w args∧laidMetH prog dh w)∧sizedMet enc prog Tryz.f4 (OpenSpec.ofChange Rows.actionOfSpec) false w args)
   (Rows.actionOfSpec.post enc prog Tryz.f4 false true false false):=by
 refine returnsInHanded_of_change_and (C:=Tryz.checked) (X:=fun w _=>laidMetH prog dh w) (fun _ _ _ hh h=>h.of_heap hh) own started (by kernel_rfl) func4
  (ChangeSpec.witness_shaped (enc:=enc) (C:=Tryz.checked) (os:=os) (X:=fun w _=>laidMetH prog dh w) false (World.laidAll prog os dh) wit 8 (World.laidAll_os _ _ _)
   (World.shaped_of_ZipB (by kernel_rfl) (by kernel_rfl)) (by kernel_rfl) (by kernel_rfl) (by kernel_rfl)
   (by rw [MakeChecks.laidMetH_plain _ _ _ (by kernel_rfl)];exact laidMet_laidAll _ (by kernel_rfl) (by kernel_rfl))) ?_
 intro W base args ds gs before hval hW _ _ hL _
 exact contract H enc W base args ds gs before hval hW hL
theorem j1:(Rows.actionOfRow.inPlace==prog.inPlace 4)=true:=by kernel_rfl
theorem j2:(Rows.actionOfRow.unfollowed==prog.unfollowed 4)=true:=by kernel_rfl
theorem j3:(Rows.actionOfRow.recurses==prog.recurses 4)=true:=by kernel_rfl
theorem j4:(Rows.actionOfRow.named==prog.varsNamed 4)=true:=by kernel_rfl
theorem j5:joinedFacts prog 4 Tryz.f4 Rows.actionOfSpec Rows.actionOfRow=true:=by
 simp only [joinedFacts,j1,j2,j3,j4,cG]
 kernel_rfl
theorem said:Rows.ActionOfSaid :=
 OpenClaim.holds_of_wide 4 Tryz.f4 rfl rfl rfl rfl rfl rfl rfl ⟨rfl,rfl,rfl,rfl,rfl⟩ rfl rfl rfl rfl rfl (by kernel_rfl) func4 j5
  (of_decide_eq_true (by kernel_rfl)) (by unfold Func.isWrapper;first|(rw [if_pos (by decide +kernel)];kernel_rfl)|(rw [if_neg (by decide +kernel)];exact⟨rfl,rfl⟩))
  (fun os started H enc _=>lifted os started H enc)
theorem plainF(f:FuncId)(fn:Func)(hf:Tryz.pinned.checked.prog.funcNamed "fenestra/fenestralaw10.ActionOf" = some f)(hfn:Tryz.pinned.checked.prog.funcs[f]? = some fn) :
  true=Tryz.pinned.checked.prog.looks []∧∀ (j:Nat) t,fn.params[j]? = some t→Tryz.pinned.checked.prog.wantsStandIn t=false:=by
 obtain rfl:f=4:=bg ((show prog.funcNamed "fenestra/fenestralaw10.ActionOf" = some 4 by kernel_rfl).symm.trans hf) |>.symm
 obtain rfl:fn=Tryz.f4:=(bg (func4.symm.trans hfn)).symm
 refine⟨by kernel_rfl,fun j t ht=>?_⟩
 rw [Tryz.params4] at ht
 have hm:t∈[40,41]:=by simpa using Array.mem_of_getElem? ht
 have hall:([40,41].all fun u=>!prog.wantsStandIn u)=true:=by kernel_rfl
 exact(show prog.wantsStandIn t=false by simpa using aD.1 hall t hm)
end ActionOf
end Go.Proofs.YthdbijpefkapnaaGreatDoor
