/- YthdbijpefkapnaaGreatDoorWalk13. Texts of the proof of a law about texts: a layer of abstract values above the worlds, the types, the walks of the functions that the law reaches, the law and its card. Own work of an AI agent. -/
import Derived.Test.YthdbijpefkapnaaGreatDoorWalk12
set_option linter.all false
set_option maxHeartbeats 40000000
open Go.IntKind renaming i64 → ar
open Go.IntWalk renaming i64_in → ay
open Go.Lib renaming hid → au
namespace Go.Proofs.YthdbijpefkapnaaGreatDoor
open Go Go.Fen
attribute [local irreducible] ba WP az dI ie cU aR cw
set_option maxRecDepth 8000
theorem Kp (w0:World) (hB:lx w0) (S:List aH) (k n m rgb u:Nat) (t:List UInt8) (hn:n<65536) (hm:m<65536) (hu:u<65536) (R:Rt) (h:R (.ret (.bool true)) S):az Tryz.prog w0 7 [bf k n m rgb t,.int .u16 u] S R:=by
 have hwk:=vG w0 hB
 have hd:=fun S'=>w9 w0 S' k n m rgb t hn hm
 have H:=au h
 have HB:=au hB
 have Hu:=au hu
 clear h hB hn hm hu
 unfold bf at hd ⊢
 refine eN Tryz.func7 rfl Tryz.ntmps7 fun hO=>?_
 repeat' first | refine st ?_ | (refine ca ?_;first | apply hwk | apply hd) | (refine br ?_ ?_<;>intro hb) | fail
 intro a ⟨g1,g2,g3,g4⟩
 obtain⟨ak,an,am,ck,cn,tx⟩:=a
 simp only at g1 g2 g3 g4
 have wu:ar.wrap (u:Int)=(u:Int):=by have:=Hu.out;exact ay _ (by omega)
 have w1:ar.wrap (-1 - (u:Int)) = -1 - (u:Int):=by have:=Hu.out;exact ay _ (by omega)
 have w2:ar.wrap (49+(u:Int))=49+(u:Int):=by have:=Hu.out;exact ay _ (by omega)
 have k1:∀ S' (R:Rt),R (.ret (.int .i64 0)) S'→az Tryz.prog w0 11 [.agg [.int .i64 ak,.int .i64 an,.int .i64 am,.int .i64 ck,.int .i64 cn,.str tx]] S' R:=fun S' R h=>ng w0 HB.out.hM HB.out.hW HB.out.hQ S' ⟨ak,an,am,ck,cn,tx⟩ (by unfold uI;simp only;omega) (by simp only;omega) R (by rw [g1];exact h)
 have k2:∀ S' (R:Rt),R (.ret (.int .i64 200)) S'→az Tryz.prog w0 11 [.agg [.int .i64 ak,.int .i64 an,.int .i64 am,.int .i64 7,.int .i64 (u:Int),.str tx]] S' R:=fun S' R h=>ng w0 HB.out.hM HB.out.hW HB.out.hQ S' ⟨ak,an,am,7,u,tx⟩ (by unfold uI;simp only;omega) (by simp only;omega) R (by rw [B2];exact h)
 have k3:∀ S' (R:Rt),R (.ret (.int .i64 200)) S'→az Tryz.prog w0 11 [.agg [.int .i64 ak,.int .i64 an,.int .i64 (-1 - (u:Int)),.int .i64 ck,.int .i64 cn,.str tx]] S' R:=fun S' R h=>ng w0 HB.out.hM HB.out.hW HB.out.hQ S' ⟨ak,an,-1 - (u:Int),ck,cn,tx⟩ (by have:=Hu.out;unfold uI;simp only;omega) (by simp only;omega) R (by rw [Mh _ _ _ _ _ _ (by omega)];exact h)
 have k4:∀ S' (R:Rt),R (.ret (.int .i64 200)) S'→az Tryz.prog w0 11 [.agg [.int .i64 (49+(u:Int)),.int .i64 an,.int .i64 am,.int .i64 ck,.int .i64 cn,.str tx]] S' R:=fun S' R h=>ng w0 HB.out.hM HB.out.hW HB.out.hQ S' ⟨49+(u:Int),an,am,ck,cn,tx⟩ (by unfold uI;simp only;omega) (by simp only;omega) R (by rw [Eu _ _ _ _ _ _ (by omega)];exact h)
 clear g1 g2 g3 g4 hwk hd
 simp only [Ac.av,aR,putA]
 repeat' ((fail_if_success (apply bA 6));first | refine st ?_ | (refine ca ?_;apply k1) | (refine br ?_ ?_<;>intro hb) | fail)
 repeat' first | refine st ?_ | (refine ca ?_;first | apply k2 | apply k3 | apply k4) | (refine br ?_ ?_<;>intro hb) | refine sd ?_ | apply aE | (apply aO;(· decide +kernel)) | refine bd ?_ ?_ | (refine cd ?_;first | apply k2 | apply k3 | apply k4) | fail
 all_goals
  refine fR Tryz.results7 ?_
  exact H.out
end Go.Proofs.YthdbijpefkapnaaGreatDoor
