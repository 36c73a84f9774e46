/- YthdbijpefkapnaaGreatDoorCore2. Texts of the proof of a law about texts: a layer of abstract values above the worlds, the types, the walks of the functions that the law reaches, the law and its card. Own work of an AI agent. -/
import Derived.Test.YthdbijpefkapnaaGreatDoorCore1
import Derived.ProofKit
import Derived.Lib.LaidTab
import Derived.Carry
import Derived.Deep.DeepHandedRow
set_option linter.all false
set_option linter.unusedVariables false
set_option linter.unusedSimpArgs false
open Array renaming any_eq_true' → mO, getD → jf, getD_eq_getD_getElem? → ay, getElem?_eq_getElem → a_, getElem?_eq_some_iff → bO, getElem?_setIfInBounds → bF, getElem?_setIfInBounds_ne → ol, replicate → bI
open Bool renaming and_eq_true → aj, false_or → uq, not_eq_false' → aG, not_eq_true' → az, not_true → x9
open Classical renaming byContradiction → iH
open Go.Instr renaming sliceAt → fe, sliceBounds → dD, sureAddr → cQ
open Go.Lib renaming mapM_at → Cl, mapM_length → up
open Go.Op renaming operands → bc
open Go.Region renaming binds → dm, ready → bM
open Go.RowKit.Below renaming refl → lq
open Go.Value renaming cells → pJ, okWide → nQ
open List renaming all_eq_true → aq, append_assoc → aK, append_nil → aE, cons_append → cz, countP_cons → Ar, countP_le_length → lf, drop_of_length_le → uv, drop_zero → fN, filterMap_cons_some → su, filter_append → Ck, foldl_cons → ee, getElem?_append_left → ap, getElem?_append_right → aw, getElem?_eq_getElem → al, getElem?_eq_some_iff → ab, getElem?_inj → pG, getElem?_map → aF, getElem?_of_mem → aQ, getElem?_take → aV, length_cons → aI, length_eq_zero_iff → mM, length_nil → aU, map_append → bg, map_cons → aA, map_map → Ag, mem_append → bv, mem_append_left → fM, mem_append_right → b9, mem_cons → bA, mem_cons_of_mem → fa, mem_cons_self → cV, mem_filter → sn, mem_filterMap → Cj, mem_map → aH, mem_map_of_mem → b_, mem_of_getElem? → ar, mem_of_mem_drop → wx, mem_of_mem_take → mL, mem_range → cP, mem_singleton → aZ, nil_append → cU, nodup_cons → iL, range → bC, range' → un, set_append_right → cZ, size_toArray → eR
open List.cons renaming injEq → iI
open Nat renaming add_assoc → qK, add_mul → eE, add_zero → kf, le_refl → aP, le_trans → dB, lt_or_ge → kT, strongRecOn → um, sub_self → p4, zero_add → di, zero_le → bx
open Option renaming bind_eq_some_iff → jy, getD_some → nR, map_eq_some_iff → aJ
open Option.some renaming inj → bi, injEq → a8
open Prod renaming fst → bZ
namespace Go.Fen
open Go.RowKit
section
variable {P:Program}{w0 w:World}{n0 N:Nat}{r:Option Nat}{Q:bN}{k:List TI}{env:cF}{S:List ax}{ι:List Pl}{ψ:cX}
theorem kQ.take {n0 n:Nat}{pl:Pl}{B:ax} (h:kQ n0 ι ψ w pl B) (hB:B.ltB n=true):kQ n0 (ι.take n) ψ w pl B:=by
 cases B with
 | cells cs ty =>
  obtain⟨h0,⟨c,T,h1,h2,h3⟩,h4,h5⟩:=h
  refine⟨h0,⟨c,T,h1,h2,fun j x e=>?_⟩,h4,h5⟩
  obtain⟨hl,v,hv,hr⟩:=h3 j x e
  exact⟨hl,v,hv,hr.take (cw.1 hB x (ar e))⟩
 | arr e sz fz g els =>
  obtain⟨hg,hsz,hpos,hfz,⟨xs,hown,hxs⟩,hps⟩:=h
  refine⟨hg,hsz,hpos,hfz,⟨xs,hown,fun j x e'=>?_⟩,hps⟩
  obtain⟨hl,v,hv,hr,hro⟩:=hxs j x e'
  obtain⟨el,he1,he2⟩:=my hsz hpos e'
  exact⟨hl,v,hv,hr.take (kC (cw.1 hB el (ar he1)) he2),hro⟩
 | obj o=>exact h
 | loop st pend N tm ps asg body =>
  obtain⟨h0,⟨fn,vs,d,h1,h2,h2'⟩,h3,h4⟩:=h
  exact⟨h0,⟨fn,vs,d,h1,h2,fun p hp=>(h2' p hp).take (aq.1 hB p hp)⟩,h3,h4⟩
 | mp fz es =>
  obtain⟨h0,hn,⟨me,c,l,h1,h2,h3,h4,h5⟩,h6⟩:=h
  refine⟨h0,hn,⟨me,c,l,h1,h2,h3,⟨h4.1,fun i e m he hm=>?_⟩,h5⟩,h6⟩
  have hme:=dz.1 hB e (h3.mem_iff.1 (ar he))
  obtain⟨a,b⟩:=h4.2 i e m he hm
  exact⟨a.take hme.1,b.take hme.2⟩
 | mit cur rest =>
  obtain⟨h0,h1,h3,h4⟩:=h
  obtain⟨q1,q2⟩:=oQ hB
  refine⟨h0, ?_,h3,h4⟩
  rcases h1 with h1 | ⟨mb,ck,me,seen,l,k1,k2,k3,k4,k5⟩
  ·exact .inl h1
  ·refine .inr ⟨mb,ck,me,seen,l,k1,k2,k3,⟨k4.1,fun i e m he hm=>?_⟩,fun e he=>?_⟩
   ·have hme:=dz.1 q1 e (k3.mem_iff.1 (ar he))
    obtain⟨a,b⟩:=k4.2 i e m he hm
    exact⟨a.take hme.1,b.take hme.2⟩
   ·obtain⟨b,m,j1,j2,j3,j4⟩:=k5 e he
    exact⟨b,m,j1,j2,j3.take (q2 e he).1,j4.take (q2 e he).2⟩
 | dead=>trivial
end
section
variable {P:Program}{w0:World}{n0 N:Nat}{r:Option Nat}{Q:bN}{k:List TI}{env:cF}{S:List ax}
variable {ops:Array Oper}{f:Nat}{listed:Array Bool}{prot:List (Nat × List Nat)}
def nh (P:Program) (w0:World) (n0 N:Nat) (r:Option Nat) (ops:Array Oper) (k:List TI) (Q:bN) (f:Nat) (listed:Array Bool) (prot:List (Nat × List Nat)) (env:cF) (S:List ax) (i:Nat):Prop :=
 ∀ j∈bM .any ops listed,i≤j→nF P w0 N ops Q j (fun env' S'=>dt ops j prot S S'∧er P w0 n0 N r ops k Q f (listed.setIfInBounds j true) prot env' S') env S
theorem KC (_h0:(match bM .any ops listed with | []=>false | [_]=>false | _=>true)=true) (h:nh P w0 n0 N r ops k Q f listed prot env S 0):er P w0 n0 N r ops k Q (f+1) listed prot env S :=
 ⟨fun e=>(by rw [e] at _h0;cases _h0),fun j hj=>h j hj (bx _)⟩
theorem aL {i:Nat} (h0:(bM .any ops listed).all (fun j=>decide (j<i))=true):nh P w0 n0 N r ops k Q f listed prot env S i :=
 fun j hj hi=>by have:=aq.1 h0 j hj;simp at this;omega
theorem Fm {i:Nat} (h0:(!(bM .any ops listed).contains i&&(bM .any ops listed).any fun j=>decide (i<j))=true) (h:nh P w0 n0 N r ops k Q f listed prot env S (i+1)):nh P w0 n0 N r ops k Q f listed prot env S i :=
 fun j hj hi=>by
  by_cases e:j=i
  ·subst e
   have:(bM .any ops listed).contains j=true:=by simpa using hj
   rw [this] at h0;cases h0
  ·exact h j hj (by omega)
theorem Gq {i:Nat} (h:nF P w0 N ops Q i (fun env' S'=>dt ops i prot S S'∧er P w0 n0 N r ops k Q f (listed.setIfInBounds i true) prot env' S') env S) (h':nh P w0 n0 N r ops k Q f listed prot env S (i+1)):nh P w0 n0 N r ops k Q f listed prot env S i :=
 fun j hj hi=>by
  by_cases e:j=i
  ·subst e;exact h
  ·exact h' j hj (by omega)
end
end Go.Fen
namespace Go.Fen
open Go.RowKit
section
variable {P:Program}{w0:World}{n0 N:Nat}{r:Option Nat}{Q:bN}{k:List TI}{env:cF}{S:List ax}{all:Array Oper}{l:List Oper}{dst:Option Nat}{v:AV}{K:cF→List ax→Prop}
theorem eZ (h:aX P w0 n0 N r (.it (.ops all l)::k) Q .normal (putA env dst v) S):bK P w0 n0 N r all l k Q env dst (.ret v) S:=h
theorem de (h:aX P w0 n0 N r k Q (.panic v) env S):bK P w0 n0 N r all l k Q env dst (.panic v) S:=h
theorem Eb (h:K (putA env dst v) S):fD Q K env dst (.ret v) S:=h
theorem zV (h:Q (.panic v) env S):fD Q K env dst (.panic v) S:=h
end
theorem st {G K:Prop} (h:K) (run:Hid K→G:=by
 intro kk
 first
 | (first | apply gp | apply eT | apply dU | apply eU | apply gq | apply cG | apply gu | apply cI | apply ct | apply dd | apply cH | apply cr | apply bU | apply gr | fail);exact kk.out
 | apply bV;(· rfl);exact kk.out
 | apply da;simp only [List.toList_toArray];exact kk.out
 | apply dN;(· rfl);(· simp only [go_sem, *];try rfl);(· rfl);simp only [putA];exact kk.out
 | apply dP;(· simp only [go_sem, *];try rfl);(· rfl);(· simp only [go_sem, *];try rfl);exact kk.out
 | apply dF;(iterate 2 (· simp only [go_sem, *];try rfl));(· rfl);simp only [putA];exact kk.out
 | apply cq;(· simp only [go_sem, *];try rfl);(· rfl);simp only [putA];exact kk.out
 | apply dQ;(· simp only [go_sem, *];try rfl);exact kk.out
 | apply dS;(· simp only [go_sem, *];try rfl);exact kk.out
 | apply eZ;simp only [putA];exact kk.out
 | apply de;exact kk.out
 | fail):G:=run h
theorem sd {G K:Prop} (h:K) (run:Hid K→G:=by
 intro kk
 first
 | apply eY;(· exact mixed);(· simp only [List.size_toArray,List.length_cons,List.length_nil,Nat.reduceAdd];try rfl);exact kk.out
 | apply vn;(· decide +kernel);exact kk.out
 | apply Ak;(repeat (apply Ee;(· decide +kernel)));apply vE;(· decide +kernel);(· first | exact ii | exact ig | exact mY | assumption);(· rfl);(iterate 3 (· simp only [go_sem, *];try rfl));(· rfl);(· simp only [go_sem, *];try rfl);simp only [putA];exact kk.out
 | apply Ak;(repeat (apply Ee;(· decide +kernel)));apply zW;(· decide +kernel);(· first | exact ii | exact ig | exact mY | assumption);(· rfl);(iterate 2 (· simp only [go_sem, *];try rfl));(· rfl);simp only [putA];exact kk.out
 | apply Ak;(repeat (apply Gu;(· decide +kernel)));apply zX;(· decide +kernel);exact kk.out
 | apply KC;(· decide +kernel);exact kk.out
 | apply Fm;(· decide +kernel);exact kk.out
 | apply ry;(iterate 3 (· simp only [go_sem, *];try rfl));(· rfl);simp only [putA];exact kk.out
 | apply y4;(iterate 2 (· simp only [go_sem, *];try rfl));(· rfl);simp only [putA];exact kk.out
 | apply Eb;simp only [putA];exact kk.out
 | apply zV;exact kk.out
 | apply uO;exact kk.out
 | apply rl;exact kk.out
 | apply fY;exact kk.out
 | apply mi;(· decide +kernel);exact kk.out
 | apply ro;(· simp only [go_sem, *];try rfl);exact kk.out
 | fail):G:=run h
theorem sx {G K:Prop} (h:K) (run:Hid K→G:=by
 intro kk
 first
 | apply Ak;(repeat (apply Ee;(· decide +kernel)));apply Ca;(· decide +kernel);(iterate 3 (· simp only [go_sem, *];try rfl));(· rfl);(· first | rfl | decide +kernel);(· simp only [go_sem, *];try rfl);simp only [putA];exact kk.out
 | apply fu;(· decide +kernel);exact kk.out
 | fail):G:=run h
theorem FM (b:Bool):(((!b)=true)=(b=false))∧(((!b)=false)=(b=true)):=by cases b<;>simp
theorem br {G K L:Prop} (h:K) (h':L) (run:Hid K→Hid L→G:=by
 intro kk ll
 first
 | apply db;(· rfl);(fail_if_success (focus (show _=some true;(· simp only [go_sem, *];try rfl))));(· simp only [go_sem, *];try rfl);(· intro hb;(try simp only [FM] at hb);revert hb;exact kk.out);(intro hb;(try simp only [FM] at hb);revert hb;exact ll.out)
 | apply dR;(· simp only [go_sem, *];try rfl);(· intro hb;(try simp only [FM] at hb);revert hb;exact kk.out);(intro hb;(try simp only [FM] at hb);revert hb;exact ll.out)
 | fail):G:=run h h'
theorem bd {G K L:Prop} (h:K) (h':L) (run:Hid K→Hid L→G:=by
 intro kk ll
 first
 | apply yT;(· exact kk.out);exact ll.out
 | apply Gq;(· exact kk.out);exact ll.out
 | fail):G:=run h h'
theorem ca {G K:Prop} (h:K) (run:Hid K→G:=by
 intro kk
 first
 | apply dT [];(· simp only [go_sem, *];try rfl);(· rfl);(· simp only [go_sem, *];try rfl);(· rfl);(iterate 2 (· simp only [go_sem, *];try rfl));exact kk.out
 | fail):G:=run h
theorem cd {G K:Prop} (h:K) (run:Hid K→G:=by
 intro kk
 first
 | apply uW [];(iterate 2 (· simp only [go_sem, *];try rfl));(· rfl);(· simp only [go_sem, *];try rfl);(· rfl);(iterate 2 (· simp only [go_sem, *];try rfl));exact kk.out
 | fail):G:=run h
theorem fR {G K p:Prop} (hr:p) (h:K) (run:Hid p→Hid K→G:=by
 intro rr kk
 apply wm
 iterate 7 (· simp only [go_sem, *,rr.out];try rfl)
 exact kk.out):G:=run hr h
theorem fE {G K p:Prop} (hr:p) (h:K) (run:Hid p→Hid K→G:=by
 intro rr kk
 apply Fe
 iterate 7 (· simp only [go_sem, *,rr.out];try rfl)
 exact kk.out):G:=run hr h
theorem fP {G K:Prop} (h:K) (run:Hid K→G:=by
 intro kk
 apply BO
 iterate 6 (· simp only [go_sem, *];try rfl)
 exact kk.out):G:=run h
theorem BP {G A B K p:Prop} (hr:p) (hO:A) (hl:B) (h:K) (run:Hid p→Hid A→Hid B→Hid K→G:=by
 intro rr aa bb kk
 apply zw
 iterate 5 (· simp only [go_sem, *,rr.out];try rfl)
 ·exact aa.out
 ·exact bb.out
 exact kk.out):G:=run hr hO hl h
theorem El {G A B K p:Prop} (hr:p) (hO:A) (hl:B) (h:K) (run:Hid p→Hid A→Hid B→Hid K→G:=by
 intro rr aa bb kk
 apply DV
 iterate 5 (· simp only [go_sem, *,rr.out];try rfl)
 ·exact aa.out
 ·exact bb.out
 exact kk.out):G:=run hr hO hl h
theorem eN {P:Program}{w0:World}{S:List ax}{f:FuncId}{F:Func}{c:Code}{args:List AV}{R:df→List ax→Prop}{n:Nat} (hf:P.funcs[f]? = some F) (hb:F.body=some c) (hn:F.ntmps=n)
 (h0:bw S→aX P w0 S.length n none [.it (.code c)] (i6 P F S R) .normal (cW args) S) (hname:(F.name == "runtime.NumGoroutine")=false:=by decide +kernel) (hargs:args.length≤n:=by simp) (hbd:n≤DS:=by decide):ao P w0 f args S R:=by
 subst hn;exact enter hf hb hname hargs hbd h0
theorem ss {p:Prop} (h:p:=by (simp only [go_sem, *];try rfl)):p:=h
end Go.Fen
namespace Go.Fen
open Go.RowKit
theorem bX (n:Nat){P:Program}{w0:World}{n0 N:Nat}{r:Option Nat}{Q:bN}{k:List TI}{env:cF}{S:List ax}{all:Array Oper}{o:Oper}{l:List Oper} (h:o.dst=some n) (hf:False):aX P w0 n0 N r (.it (.ops all (o::l))::k) Q .normal env S:=hf.elim
theorem bW (n:Nat){P:Program}{w0:World}{n0 N:Nat}{r:Option Nat}{Q:bN}{k:List TI}{env:cF}{S:List ax}{ops:Array Oper}{b:Bool} (hf:False):aX P w0 n0 N r (.it (.code (.region n ops b))::k) Q .normal env S:=hf.elim
section
variable {P:Program}{w0:World}{n0 N:Nat}{r:Option Nat}{Q:bN}{k:List TI}{ops:Array Oper}
end
end Go.Fen
namespace Go.Fen
open Go.RowKit
variable {P:Program}{w0:World}{n0 N:Nat}{r:Option Nat}{Q:bN}{k:List TI}{env:cF}{S:List ax}
theorem oo {all:Array Oper}{o:Oper}{l:List Oper}{t e:TypeId}{x:Operand}{n sz:Nat}{els:List AV} (hg:bH all env o=some true) (ho:o.op=.slice t x none none none) (ht:P.underlying t=some (.array n e)) (hs:dG P e=some sz)
  (hx:bf w0 env x=.pro (dg els)) (hl:els.length=n) (hok:∀ y∈els,y.cells.length=sz) (hds:dx N o.dst=true)
  (h:aX P w0 n0 N r (.it (.ops all l)::k) Q .normal (putA env o.dst (.sval true els)) S):aX P w0 n0 N r (.it (.ops all (o::l))::k) Q .normal env S:=by
 intro ι ψ w a hR hE
 have hw:=ce hE hg
 refine d9 hw (fun c hc=>by rw [hc] at ho;cases ho) ?_
 have hv:=hE.eval hR x
 rw [hx] at hv
 generalize hcx:a.eval x=cx at hv
 cases hv with
 | pro _ b off cv h1 h2 =>
  have hres:(execOp a.eval o).run P w=.ok (.value (.slice (some ⟨b,off,none⟩) n n)) w:=by
   by_cases hn:n=0
   ·subst hn
    simp [execOp,ho,hcx,fe,cQ,run_underlying ht,dD,bP hs]
   ·simp [execOp,ho,hcx,fe,cQ,run_underlying ht,dD,bP hs,hn,Addr.add_lit]
  rw [hres]
  have hvv:VR ι ψ (.sval true els) (.slice (some ⟨b,off,none⟩) n n):=by
   rw [← hl]
   refine .sval sz true els b off els.length (fun i j=>cv (i * sz+j)) (fun i y hy=>hok y (ar hy)) (aP _) (fun _=>rfl) (fun i y j z hy hz=>?_) (fun i y j z hy hz=>?_)
   ·have:=h1 _ _ (iz hok hy hz)
    rw [qK]
    exact this
   ·exact h2 _ _ (iz hok hy hz)
  exact KI.mono (h ι ψ _ _ hR (hE.putA hvv hds)) fun e a2 w2 hp=>hp
end Go.Fen
namespace Go.Fen
open Go.RowKit
section
variable {P:Program}{w0:World}{n0 N:Nat}{r:Option Nat}{Q:bN}{k:List TI}{ops:Array Oper}
def qi (ops:Array Oper) (listed:Array Bool):Nat:=(bC ops.size).countP fun i=>!listed.getD i true
theorem pm {p q:Nat→Bool}{i:Nat}:∀ {l:List Nat},l.Nodup→i∈l→p i=true→q i=false→(∀ j,j≠i→q j=p j)→l.countP q+1=l.countP p
 | [],_,h,_,_,_=>by cases h
 | a::l,hn,h,h1,h2,h3=>by
  rw [iL] at hn
  rcases bA.1 h with rfl | h
  ·rw [List.countP_cons_of_neg (by simp [h2]),List.countP_cons_of_pos h1]
   congr 1
   refine List.countP_congr fun j hj=>?_
   rw [h3 j (fun e=>hn.1 (e▸hj))]
  ·have ih:=pm hn.2 h h1 h2 h3
   have hai:a≠i:=fun e=>hn.1 (e▸h)
   rw [Ar,Ar,h3 a hai]
   omega
theorem zJ (I:Array Bool→cF→List ax→Prop)
  (step:∀ (listed:Array Bool) (env:cF) (S:List ax) (i:Nat) (o:Oper),I listed env S→ops[i]? = some o→listed.getD i true=false→(∀ e∈o.after,dm .any e=true→listed.getD e.on false=true)→nF P w0 N ops Q i (fun env' S'=>I (listed.setIfInBounds i true) env' S') env S)
  (fin:∀ (listed:Array Bool) (env:cF) (S:List ax),I listed env S→bM .any ops listed=[]→aX P w0 n0 N r k Q .normal env S) :
  ∀ (f:Nat) (listed:Array Bool) (env:cF) (S:List ax),I listed env S→qi ops listed≤f→er P w0 n0 N r ops k Q f listed [] env S:=by
 intro f
 induction f with
 | zero =>
  intro listed env S hI hl
  have hr:bM .any ops listed=[]:=by
   rw [List.eq_nil_iff_forall_not_mem]
   intro i hi
   obtain⟨hu,o,ho,_⟩:=mem_ready.1 hi
   have hlt:i<ops.size:=(bO.1 ho).1
   have:0<qi ops listed:=List.countP_pos_iff.2 ⟨i,cP.2 hlt,by simp [hu]⟩
   omega
  exact⟨hr,fin _ _ _ hI hr⟩
 | succ f ih =>
  intro listed env S hI hl
  refine⟨fun hr=>fin _ _ _ hI hr,fun i hi=>?_⟩
  obtain⟨hu,o,ho,hd⟩:=mem_ready.1 hi
  have hlt:i<ops.size:=(bO.1 ho).1
  refine(step listed env S i o hI ho hu hd).mono fun env' S' hI'=>⟨trivial,ih _ _ _ hI' ?_⟩
  have hsz:i<listed.size:=by
   by_cases h:i<listed.size
   ·exact h
   ·have:listed.getD i true=true:=by simp [jf,h]
    rw [this] at hu;cases hu
  have:=pm (p:=fun i=>!listed.getD i true) (q:=fun j=>!(listed.setIfInBounds i true).getD j true) (i:=i) List.nodup_range (cP.2 hlt) (by simp [hu]) (by simp [ay,hsz]) (fun j hj=>by
   simp only [ay,ol (Ne.symm hj)])
  unfold qi at hl ⊢
  omega
def rW (ops:Array Oper):Bool:=(bC ops.size).all fun i=>match ops[i]? with
 | some o=>o.after.all fun e=>!dm .any e||decide (e.on<i)
 | none=>true
theorem lR (hd:rW ops=true){listed:Array Bool} (hr:bM .any ops listed=[]):∀ i,i<ops.size→listed.getD i true=true:=by
 intro i
 induction i using um with
 | _ i ih =>
  intro hi
  cases hl:listed.getD i true with
  | true=>rfl
  | false =>
   have hm:i∈bM .any ops listed:=by
    refine mem_ready.2 ⟨hl,ops[i],a_ hi,fun e he hb=>?_⟩
    have h1:=aq.1 hd i (cP.2 hi)
    rw [a_ hi] at h1
    simp only [Array.all_eq_true_iff_forall_mem] at h1
    have h2:=h1 e he
    rw [hb] at h2
    simp only [x9,uq,decide_eq_true_eq] at h2
    have h3:=ih e.on h2 (by omega)
    have hsz:e.on<listed.size:=by
     have:i<listed.size:=by
      by_cases h:i<listed.size
      ·exact h
      ·have:listed.getD i true=true:=by simp [jf,h]
       rw [this] at hl;cases hl
     omega
    simp only [ay,a_ hsz,nR] at h3 ⊢
    exact h3
   rw [hr] at hm;cases hm
end
end Go.Fen
namespace Go.Fen
open Go.RowKit
theorem VR.mperm {ι:List Pl}{ψ:cX}{es es':List (AV × AV)}{c:Value} (h:VR ι ψ (.mval es) c) (hp:es.Perm es'):VR ι ψ (.mval es') c:=by
 cases h with
 | mval _ l b ck me hb hp' hl hn h1 h2=>exact .mval es' l b ck me hb (hp'.trans hp) hl ((hp.map bZ).nodup_iff.1 hn) h1 h2
section
variable {P:Program}{w0:World}{n0 N:Nat}{r:Option Nat}{Q:bN}{k:List TI}{env:cF}{S:List ax}
theorem ao.mperm {f:FuncId}{args:List AV}{R:df→List ax→Prop}{E:List (AV × AV)} (h:ao P w0 f args S (fun out S'=>∃ es,out=.ret (.mval es)∧es.Perm E∧R (.ret (.mval E)) S')):ao P w0 f args S R:=by
 refine⟨h.1,fun ι ψ w cargs hR hl hv=>(h.2 ι ψ w cargs hR hl hv).mono ?_⟩
 rintro e w' ⟨ι',ψ',out,S',h1,h2,h3,es,rfl,e2,e3⟩
 refine⟨ι',ψ',.ret (.mval E),S',h1,h2, ?_,e3⟩
 cases e<;>simp only [kP] at h3 ⊢
 exact h3.mperm e2
end
inductive fI where
 | val (d:Nat) (v:AV)
 | mk (d:Nat)
 | ent (k v:AV)
def fI.dst:fI→Option Nat
 | .val d _=>some d
 | .mk d=>some d
 | .ent _ _=>none
def fI.out (m:Nat):fI→AV
 | .val _ v=>v
 | .mk _=>.mown m
 | .ent _ _=>.tup []
def gW:Nat→List fI→List (Nat × AV × AV)
 | _,[]=>[]
 | i,.ent k v::r=>(i,k,v)::gW (i+1) r
 | i,_::r=>gW (i+1) r
def eL (T:List (Nat × AV × AV)) (listed:Array Bool):List (AV × AV):=(T.filter fun p=>listed.getD p.1 true).map fun p=>p.2
theorem iq {T:List (Nat × AV × AV)}{listed:Array Bool}{i:Nat} (h:∀ p∈T,p.1≠i):eL T (listed.setIfInBounds i true)=eL T listed:=by
 unfold eL
 congr 1
 refine List.filter_congr fun p hp=>?_
 rw [getD_set_ne true (Ne.symm (h p hp))]
theorem iA:∀ {l:List fI}{i:Nat},∀ p∈gW i l,i≤p.1
 | [],_,p,h=>by cases h
 | .ent k v::r,i,p,h=>by
  rcases bA.1 h with rfl | h
  ·exact aP _
  ·have:=iA p h;omega
 | .val d v::r,i,p,h=>by have:=iA (l:=r) p h;omega
 | .mk d::r,i,p,h=>by have:=iA (l:=r) p h;omega
theorem gC:∀ {l:List fI}{i j:Nat}{k v:AV},(j,k,v)∈gW i l→l[j - i]? = some (.ent k v)
 | [],_,_,_,_,h=>by cases h
 | .ent k v::r,i,j,k',v',h=>by
  rcases bA.1 h with h | h
  ·cases h;simp
  ·have h1:=iA _ h
   have h2:=gC h
   rw [show j - i=(j - (i+1))+1 by simp only at h1;omega]
   exact h2
 | .val d v::r,i,j,k',v',h=>by
  have h1:=iA (l:=r) _ h
  have h2:=gC (l:=r) h
  rw [show j - i=(j - (i+1))+1 by simp only at h1;omega]
  exact h2
 | .mk d::r,i,j,k',v',h=>by
  have h1:=iA (l:=r) _ h
  have h2:=gC (l:=r) h
  rw [show j - i=(j - (i+1))+1 by simp only at h1;omega]
  exact h2
theorem qu:∀ {l:List fI}{i j:Nat}{k v:AV},l[j]? = some (.ent k v)→∃ A B,gW i l=A++(i+j,k,v)::B∧(∀ p∈A,p.1≠i+j)∧(∀ p∈B,p.1≠i+j)
 | [],_,_,_,_,h=>by simp at h
 | x::r,i,0,k,v,h=>by
  simp at h
  subst h
  exact⟨[],gW (i+1) r,rfl,by simp,fun p hp=>by have:=iA p hp;omega⟩
 | x::r,i,j+1,k,v,h=>by
  obtain⟨A,B,h1,h2,h3⟩:=qu (l:=r) (i:=i+1) (j:=j) (by simpa using h)
  rw [show i+1+j=i+(j+1) by omega] at h1 h2 h3
  cases x with
  | val d v=>exact⟨A,B,h1,h2,h3⟩
  | mk d=>exact⟨A,B,h1,h2,h3⟩
  | ent k' v' =>
   refine⟨(i,k',v')::A,B,by rw [gW,h1];rfl,fun p hp=>?_,h3⟩
   rcases bA.1 hp with rfl | hp
   ·simp only;omega
   ·exact h2 p hp
theorem xg {A B:List (Nat × AV × AV)}{listed:Array Bool}{i:Nat}{k v:AV}{es:List (AV × AV)} (hp:es.Perm (eL (A++(i,k,v)::B) listed)) (hu:listed.getD i true=false) (h1:∀ p∈A,p.1≠i) (h2:∀ p∈B,p.1≠i) :
  (es++[(k,v)]).Perm (eL (A++(i,k,v)::B) (listed.setIfInBounds i true)):=by
 have hi:i<listed.size:=by
  by_cases h:i<listed.size
  ·exact h
  ·have:listed.getD i true=true:=by simp [jf,h]
   rw [this] at hu;cases hu
 have e0:∀ l:Array Bool,eL (A++(i,k,v)::B) l=eL A l++(eL [(i,k,v)] l++eL B l):=by
  intro l;unfold eL;rw [show A++(i,k,v)::B=A++([(i,k,v)]++B) by simp,Ck,Ck,bg,bg]
 rw [e0] at hp
 rw [e0,iq h1,iq h2]
 have e1:eL [(i,k,v)] listed=[]:=by
  unfold eL
  rw [List.filter_cons_of_neg (by simp only;rw [hu];decide)]
  rfl
 have e2:eL [(i,k,v)] (listed.setIfInBounds i true)=[(k,v)]:=by simp [eL,ay,hi]
 rw [e1,cU] at hp
 rw [e2]
 refine(hp.append_right _).trans ?_
 rw [aK]
 exact(List.perm_append_comm).append_left _
def kE (P:Program) (kt:TypeId):List (AV × AV)→Bool
 | []=>true
 | e::l=>dW P kt e.1&&((l.all fun f=>!jb e.1 f.1)&&((l.all fun f=>!jb f.1 e.1)&&kE P kt l))
theorem lK {P:Program}{kt:TypeId}:∀ {l:List (AV × AV)},kE P kt l=true→∀ e∈l,dW P kt e.1=true
 | [],_,e,he=>by cases he
 | x::l,h,e,he=>by
  simp only [kE,aj] at h
  rcases bA.1 he with rfl | he
  ·exact h.1
  ·exact lK h.2.2.2 e he
theorem lJ {P:Program}{kt:TypeId}:∀ {A B:List (AV × AV)}{e:AV × AV},kE P kt (A++e::B)=true→∀ f,f∈A∨f∈B→jb e.1 f.1=false
 | [],B,e,h,f,hf=>by
  simp only [cU,kE,aj,aq,az] at h
  rcases hf with hf | hf
  ·cases hf
  ·exact h.2.1 f hf
 | x::A,B,e,h,f,hf=>by
  simp only [cz,kE,aj,aq,az] at h
  rcases hf with hf | hf
  ·rcases bA.1 hf with rfl | hf
   ·exact h.2.2.1 e (by simp)
   ·exact lJ h.2.2.2 f (.inl hf)
  ·exact lJ h.2.2.2 f (.inr hf)
section
variable {P:Program}{w0:World}{n0 N:Nat}{r:Option Nat}{Q:bN}{k:List TI}{ops:Array Oper}
def Cd (ops:Array Oper) (pl:List fI) (m:Nat) (cW:cF) (i:Nat) (env:cF):Prop :=
 (∀ j,kx ops i j=false→∀ f,pl[j]? = some f→∀ d,f.dst=some d→env d=f.out m)∧∀ t,(pl.all fun f=>!(f.dst==some t))=true→env t=cW t
def CH (P:Program) (w0:World) (N:Nat) (Q:bN) (ops:Array Oper) (pl:List fI) (S0:List ax) (cW:cF) (t kt et:TypeId) (i:Nat):Prop :=
 match pl[i]? with
 | some (.val d v)=>∀ env S,Cd ops pl S0.length cW i env→(S=S0∨∃ es,S=S0++[.mp false es])→nF P w0 N ops Q i (fun env' S'=>env'=eg env d v∧S'=S) env S
 | some (.mk d)=>∀ env,Cd ops pl S0.length cW i env→nF P w0 N ops Q i (fun env' S'=>env'=eg env d (.mown S0.length)∧S'=S0++[.mp false []]) env S0
 | some (.ent a v)=>∃ (o:Oper) (mo ko vo:Operand),ops[i]? = some o∧o.dst=none∧o.guard=none∧(o.op=.mapUpdate t mo ko vo∨o.op=.insert t mo ko vo)∧∀ env,Cd ops pl S0.length cW i env→bf w0 env mo=.mown S0.length∧bf w0 env ko=a∧bf w0 env vo=v
 | none=>True
def oc (F:Nat→Prop):Nat→Nat→Prop
 | _,0=>True
 | i,n+1=>F i∧oc F (i+1) n
theorem kO {F:Nat→Prop}:∀ {n i j:Nat},oc F i n→i≤j→j<i+n→F j
 | 0,i,j,_,h1,h2=>by omega
 | n+1,i,j,h,h1,h2=>by
  by_cases e:i=j
  ·subst e;exact h.1
  ·exact kO h.2 (by omega) (by omega)
def yU (ops:Array Oper) (pl:List fI) (j0:Nat):Bool :=
 pl.length==ops.size&&((match pl[j0]? with
  | some (.mk _)=>true
  | _=>false)&&((bC pl.length).all fun i=>match pl[i]? with
   | some (.mk _)=>i==j0
   | some (.ent _ _)=>!kx ops i j0
   | _=>true))&&decide ((pl.filterMap fI.dst).Nodup)
theorem D2 {pl:List fI} (h:(pl.filterMap fI.dst).Nodup):∀ {i j:Nat}{f g:fI}{d:Nat},pl[i]? = some f→pl[j]? = some g→f.dst=some d→g.dst=some d→i=j:=by
 induction pl with
 | nil=>intro i j f g d h1;simp at h1
 | cons x pl ih =>
  intro i j f g d h1 h2 h3 h4
  have hmem:∀ {j:Nat}{g:fI},pl[j]? = some g→g.dst=some d→d∈pl.filterMap fI.dst:=fun hg hd=>Cj.2 ⟨_,ar hg,hd⟩
  have hn:(pl.filterMap fI.dst).Nodup∧(x.dst=some d→d∉pl.filterMap fI.dst):=by
   cases hx:x.dst with
   | none=>rw [List.filterMap_cons_none hx] at h;exact⟨h,fun e=>by cases e⟩
   | some d'=>rw [su hx] at h;rw [iL] at h;exact⟨h.2,fun e=>by cases e;exact h.1⟩
  cases i with
  | zero =>
   simp at h1;subst h1
   cases j with
   | zero=>rfl
   | succ j=>exact absurd (hmem (by simpa using h2) h4) (hn.2 h3)
  | succ i =>
   cases j with
   | zero=>simp at h2;subst h2;exact absurd (hmem (by simpa using h1) h3) (hn.2 h4)
   | succ j =>
    have:=ih hn.1 (i:=i) (j:=j) (by simpa using h1) (by simpa using h2) h3 h4
    omega
structure FD (pl:List fI) (j0:Nat) (cW:cF) (S0:List ax) (listed:Array Bool) (env:cF) (S:List ax):Prop where
 slot:∀ i f,pl[i]? = some f→listed.getD i true=true→∀ d,f.dst=some d→env d=f.out S0.length
 keep:∀ t,(pl.all fun f=>!(f.dst==some t))=true→env t=cW t
 m1:listed.getD j0 true=true→∃ es,es.Perm (eL (gW 0 pl) listed)∧S=S0++[.mp false es]
 m0:listed.getD j0 true=false→eL (gW 0 pl) listed=[]∧S=S0
theorem sO {pl:List fI} (hn:(pl.filterMap fI.dst).Nodup){m i d:Nat}{f:fI}{listed:Array Bool}{env:cF} (hf:pl[i]? = some f) (hd:f.dst=some d)
  (h:∀ i f,pl[i]? = some f→listed.getD i true=true→∀ d,f.dst=some d→env d=f.out m) :
  ∀ j g,pl[j]? = some g→(listed.setIfInBounds i true).getD j true=true→∀ e,g.dst=some e→eg env d (f.out m) e=g.out m:=by
 intro j g hg hl e he
 by_cases hji:j=i
 ·subst hji
  rw [hf] at hg;cases hg
  rw [hd] at he;cases he
  simp [eg]
 ·have hde:e≠d:=fun hh=>hji (D2 hn hg hf he (hh▸hd))
  rw [show eg env d (f.out m) e=env e by simp [eg,hde]]
  rw [getD_set_ne true (Ne.symm hji)] at hl
  exact h j g hg hl e he
theorem tu {pl:List fI}{i d:Nat}{f:fI}{env cW:cF}{v:AV} (hf:pl[i]? = some f) (hd:f.dst=some d) (h:∀ t,(pl.all fun f=>!(f.dst==some t))=true→env t=cW t) :
  ∀ t,(pl.all fun f=>!(f.dst==some t))=true→eg env d v t=cW t:=by
 intro t ht
 have hne:t≠d:=by
  rintro rfl
  have:=aq.1 ht f (ar hf)
  rw [hd] at this
  simp at this
 rw [show eg env d v t=env t by simp [eg,hne]]
 exact h t ht
theorem sG {kk v:AV}{es:List (AV × AV)} (h:∀ e∈es,jb kk e.1=false):h_ kk v es=es++[(kk,v)]:=by
 unfold h_
 rw [if_neg]
 rw [Bool.not_eq_true,List.any_eq_false]
 intro e he
 rw [h e he]
 decide
theorem D6 {it:KI} (pl:List fI) (j0:Nat){t kt et:TypeId}{n:Nat}{cW:cF}{S0:List ax} (hn:ops.size=n) (hok:yU ops pl j0=true) (hdep:rW ops=true) (ht:P.underlying t=some (.map kt et)) (hk:kE P kt ((gW 0 pl).map fun p=>p.2)=true)
  (hstep:oc (CH P w0 N Q ops pl S0 cW t kt et) 0 n)
  (fin:∀ env:cF,(∀ (i:Nat) (f:fI),pl[i]? = some f→∀ d,f.dst=some d→env d=f.out S0.length)→(∀ t,(pl.all fun f=>!(f.dst==some t))=true→env t=cW t)→aX P w0 n0 N r (.it it::k) Q .normal env (S0++[.mp false ((gW 0 pl).map fun p=>p.2)])) :
  er P w0 n0 N r ops (.it it::k) Q n (bI n false) [] cW S0:=by
 simp only [yU,aj,beq_iff_eq,decide_eq_true_eq,aq,cP] at hok
 obtain⟨⟨hlen,hmk,hall⟩,hnd⟩:=hok
 have hT:∀ p∈gW 0 pl,p.1≠j0:=by
  rintro⟨j,a,v⟩ hp rfl
  have h1:=gC hp
  rw [Nat.sub_zero] at h1
  rw [h1] at hmk
  cases hmk
 refine zJ (fun listed env S=>FD pl j0 cW S0 listed env S) ?step ?fin n _ _ _ ?init ?left
 case left =>
  unfold qi
  rw [← hn]
  exact dB (lf) (by simp)
 case init =>
  have hj:j0<n:=by
   cases h:pl[j0]? with
   | none=>rw [h] at hmk;cases hmk
   | some f=>have:=(ab.1 h).1;omega
  have hrep:∀ i,i<n→(bI n false).getD i true=false:=fun i hi=>by simp [jf,hi]
  refine⟨fun i f hf hl=>?_,fun t _=>rfl,fun hl=>?_,fun _=>⟨?_,rfl⟩⟩
  ·have hi:=(ab.1 hf).1
   rw [hrep i (by omega)] at hl;cases hl
  ·rw [hrep j0 hj] at hl;cases hl
  ·unfold eL
   rw [List.map_eq_nil_iff,List.filter_eq_nil_iff]
   rintro⟨j,a,v⟩ hp
   have h1:=gC hp
   have hi:=(ab.1 h1).1
   simp only
   rw [hrep j (by omega)]
   simp
 case fin =>
  intro listed env S hI hr
  have hal:=lR hdep hr
  have hl:∀ i,i<pl.length→listed.getD i true=true:=fun i hi=>hal i (by omega)
  have hj:j0<pl.length:=by
   cases h:pl[j0]? with
   | none=>rw [h] at hmk;cases hmk
   | some f=>exact(ab.1 h).1
  obtain⟨es,hp,rfl⟩:=hI.m1 (hl j0 hj)
  have hm:eL (gW 0 pl) listed=(gW 0 pl).map fun p=>p.2:=by
   unfold eL
   congr 1
   rw [List.filter_eq_self]
   rintro⟨j,a,v⟩ hp
   have h1:=gC hp
   exact hl j (by have:=(ab.1 h1).1;omega)
  rw [hm] at hp
  have hg:(S0++[ax.mp false es])[S0.length]? = some (.mp false es):=by simp
  refine l6 S0.length hg hp (by rw [cZ _ _ (aP _),p4]) ?_
  exact fin env (fun i f hf d hd=>hI.slot i f hf (hl i (ab.1 hf).1) d hd) hI.keep
 case step =>
  intro listed env S i o hI ho hu hd
  have hi:i<n:=by have:=(bO.1 ho).1;omega
  have hs:=kO hstep (bx i) (by omega)
  have hD:Cd ops pl S0.length cW i env:=by
   refine⟨fun j hj f hf d hd'=>hI.slot j f hf ?_ d hd',hI.keep⟩
   unfold kx at hj
   simp only [ho,aG] at hj
   rw [mO] at hj
   obtain⟨e,he,hb⟩:=hj
   simp only [aj,beq_iff_eq] at hb
   have h1:=hd e he hb.1
   rw [hb.2] at h1
   simp only [ay] at h1 ⊢
   cases hx:listed[j]? with
   | none=>rfl
   | some b=>rw [hx] at h1;simpa using h1
  unfold CH at hs
  have hpi:∃ f,pl[i]? = some f:=⟨pl[i]'(by omega),al (by omega)⟩
  obtain⟨f,hf⟩:=hpi
  rw [hf] at hs
  have hne0:(∀ d,f≠.mk d)→j0≠i:=by
   rintro h rfl
   rw [hf] at hmk
   cases f with
   | mk d=>exact h d rfl
   | val=>cases hmk
   | ent=>cases hmk
  cases f with
  | val d v =>
   have hj:=hne0 (fun d h=>by cases h)
   have hTi:∀ p∈gW 0 pl,p.1≠i:=by
    rintro⟨j,a,v⟩ hp rfl
    have h1:=gC hp
    rw [Nat.sub_zero,hf] at h1;cases h1
   have hSS:S=S0∨∃ es,S=S0++[.mp false es]:=by
    cases hl:listed.getD j0 true with
    | true=>obtain⟨es,_,e⟩:=hI.m1 hl;exact .inr ⟨es,e⟩
    | false=>exact .inl (hI.m0 hl).2
   refine(hs env S hD hSS).mono ?_
   rintro env' S' ⟨rfl,rfl⟩
   refine⟨sO hnd hf rfl hI.slot,tu hf rfl hI.keep,fun hl=>?_,fun hl=>?_⟩
   ·rw [getD_set_ne true (Ne.symm hj)] at hl
    rw [iq hTi]
    exact hI.m1 hl
   ·rw [getD_set_ne true (Ne.symm hj)] at hl
    rw [iq hTi]
    exact hI.m0 hl
  | mk d =>
   have hij:i=j0:=by
    have:=hall i (by omega)
    rw [hf] at this
    simpa using this
   subst hij
   obtain⟨hm,rfl⟩:=hI.m0 hu
   refine(hs env hD).mono ?_
   rintro env' S' ⟨rfl,rfl⟩
   refine⟨sO (f:=.mk d) hnd hf rfl hI.slot,tu hf rfl hI.keep,fun hl=>⟨[], ?_,rfl⟩,fun hl=>?_⟩
   ·rw [iq hT,hm]
   ·have hsz:i<listed.size:=by
     by_cases h:i<listed.size
     ·exact h
     ·have:listed.getD i true=true:=by simp [jf,h]
      rw [this] at hu;cases hu
    simp [ay,hsz] at hl
  | ent a v =>
   obtain⟨o',mo,ko,vo,ho',hdst,hgd,hop,hev⟩:=hs
   rw [ho] at ho';cases ho'
   obtain⟨ev1,ev2,ev3⟩:=hev env hD
   have hj:=hne0 (fun d h=>by cases h)
   have hjl:listed.getD j0 true=true:=by
    have h1:=hall i (by omega)
    rw [hf] at h1
    simp only [az] at h1
    unfold kx at h1
    simp only [ho,aG] at h1
    rw [mO] at h1
    obtain⟨e,he,hb⟩:=h1
    simp only [aj,beq_iff_eq] at hb
    have h2:=hd e he hb.1
    rw [hb.2] at h2
    simp only [ay] at h2 ⊢
    cases hx:listed[j0]? with
    | none=>rfl
    | some b=>rw [hx] at h2;simpa using h2
   obtain⟨es,hp,rfl⟩:=hI.m1 hjl
   obtain⟨A,B,hAB,hA,hB⟩:=qu (i:=0) hf
   rw [di] at hAB hA hB
   have hmemE:∀ e∈es,∃ p,(p∈A∨p∈B)∧e=p.2:=by
    intro e he
    have h1:=hp.mem_iff.1 he
    unfold eL at h1
    obtain⟨p,hp1,rfl⟩:=aH.1 h1
    obtain⟨hp2,hp3⟩:=sn.1 hp1
    rw [hAB] at hp2
    rcases bv.1 hp2 with h | h
    ·exact⟨p,.inl h,rfl⟩
    ·rcases bA.1 h with rfl | h
     ·simp only at hp3;rw [hu] at hp3;cases hp3
     ·exact⟨p,.inr h,rfl⟩
   have hkk:=hk
   rw [hAB,bg,aA] at hkk
   have hnew:∀ e∈es,jb a e.1=false:=by
    intro e he
    obtain⟨p,hp,rfl⟩:=hmemE e he
    exact lJ hkk p.2 (hp.imp (fun h=>b_ h) (fun h=>b_ h))
   have hkeys:∀ e∈es,dW P kt e.1=true:=by
    intro e he
    obtain⟨p,hp,rfl⟩:=hmemE e he
    refine lK hkk p.2 ?_
    rcases hp with h | h
    ·exact fM _ (b_ h)
    ·exact b9 _ (fa _ (b_ h))
   have hka:dW P kt a=true:=lK hkk (a,v) (b9 _ (cV ..))
   have hst:dc P (S0++[.mp false es]) (bf w0 env) o.op=some (.tup [],S0++[.mp false (es++[(a,v)])]):=by
    rcases hop with hop | hop
    all_goals
     rw [hop]
     simp only [dc,em,ht,ev1,ev2,ev3,aw (aP _),p4,List.getElem?_cons_zero]
     rw [if_pos (by simp only [aj,aq];exact⟨hka,hkeys⟩),sG hnew]
     simp [cZ]
   refine ry ho (by simp [bH,hgd]) hst (by rw [hdst];rfl) ?_
   rw [hdst]
   refine⟨fun j g hg hl e he=>?_,hI.keep,fun _=>⟨_, ?_,rfl⟩,fun hl=>?_⟩
   ·by_cases hji:j=i
    ·subst hji;rw [hf] at hg;cases hg;cases he
    ·rw [getD_set_ne true (Ne.symm hji)] at hl
     exact hI.slot j g hg hl e he
   ·rw [hAB] at hp ⊢
    exact xg hp hu hA hB
   ·rw [getD_set_ne true (Ne.symm hj),hjl] at hl;cases hl
end
def softV:AV→AV
 | .snil=>.sval false []
 | x=>x
theorem VR.softV {ι:List Pl}{ψ:cX}{x:AV}{v:Value} (h:VR ι ψ x v):VR ι ψ (softV x) v:=by
 cases x<;>try exact h
 cases h
 exact .svnil _
theorem uF {x:AV} (h:x.leaf=true):(softV x).leaf=true:=by
 cases x<;>first | exact h | rfl
theorem b7.softC {w0 w:World}{ι:List Pl}{ψ:cX}{S:List ax} (h:b7 w0 ι ψ S w){a:Nat}{cs:List AV}{ty:Option TypeId} (ha:S[a]? = some (.cells cs ty)):b7 w0 ι ψ (S.set a (.cells (cs.map softV) ty)) w:=by
 obtain⟨pl,hpl,hB⟩:=h.get ha
 have hset:ι.set a pl=ι:=eK hpl
 obtain⟨h0,⟨c,T,h1,h2,h3⟩,h4,h5⟩:=hB
 have key:=h.update (w':=w) (ψ':=ψ) (B':=.cells (cs.map softV) ty) (pl':=pl) ha hpl (lq _ _) (fun _ _ _=>rfl) (by rw [hset];exact cN.refl _ _) (by
  rw [hset]
  refine⟨h0,⟨c,T,h1,by simpa using h2,fun m x ex=>?_⟩,h4,h5⟩
  rw [aF] at ex
  cases e:cs[m]? with
  | none=>rw [e] at ex;cases ex
  | some y =>
   rw [e] at ex;cases ex
   obtain⟨q1,v,q2,q3⟩:=h3 m y e
   exact⟨uF q1,v,q2,q3.softV⟩) (fun k hk=>.inl hk) (fun b o v e=>.inl ⟨e,fun hk=>by
  simp only [ax.at,a8] at hk;subst hk;rw [h4 o] at e;cases e⟩) rfl
 rw [hset] at key
 exact key
theorem ao.softC {P:Program}{w0:World}{S:List ax}{f:FuncId}{args:List AV}{R:df→List ax→Prop} (a:Nat) (h:ao P w0 f args S (fun out S'=>∃ cs ty,S'[a]? = some (.cells cs ty)∧R out (S'.set a (.cells (cs.map softV) ty)))):ao P w0 f args S R:=by
 refine⟨h.1,fun ι ψ w cargs hR hl hv=>(h.2 ι ψ w cargs hR hl hv).mono ?_⟩
 rintro e w' ⟨ι',ψ',out,S',h1,h2,h3,cs,ty,e1,e2⟩
 exact⟨ι',ψ',out,_,h1,h2.softC e1,h3,e2⟩
theorem k8 {X:List ax}{B C B' C':ax} (h:bw (X++[B,C])) (hB:B'.ltB (X.length+2)=true) (hC:C'.ltB (X.length+2)=true):bw (X++[B',C']):=by
 intro j D hD
 have hl:(X++[B',C']).length=(X++[B,C]).length:=by simp
 rw [hl]
 by_cases hj:j<X.length
 ·rw [ap hj] at hD
  exact h j D (by rw [ap hj];exact hD)
 ·rw [aw (by omega)] at hD
  have h2:(X++[B,C]).length=X.length+2:=by simp
  rw [h2]
  match e:j - X.length,hD with
  | 0,hD=>simp at hD;subst hD;exact hB
  | 1,hD=>simp at hD;subst hD;exact hC
  | n+2,hD=>simp at hD
theorem yi {P:Program}{w0:World}{n0 N:Nat}{r:Option Nat}{Q:bN}{k:List TI}{env:cF}{S S1:List ax}{it:KI} (t:Nat) (sh:List Nat){cs cs':List AV}{ty:Option TypeId} (hS1:sh.foldl cE S=S1) (ht:S1[t]? = some (.cells cs ty)) (hc:cs.map (conv S1 (vd S1) 4)=cs') (hl:gN cs'=true)
  (h:aX P w0 n0 N r (.it it::k) Q .normal env (S1.set t (.cells cs' ty))):aX P w0 n0 N r (.it it::k) Q .normal env S:=by
 subst hS1 hc
 intro ι ψ w ac hR hE
 obtain⟨ψ1,hle,hR1⟩:=gJ (w0:=w0) sh S ψ hR
 have hx:cN ι ψ ι ψ1:=⟨(cN.refl ι ψ).pl,hle⟩
 have hfr:=iX hR1
 obtain⟨pl,hpl,hB⟩:=hR1.get ht
 have hset:ι.set t pl=ι:=eK hpl
 obtain⟨h0,⟨c,T,h1,h2,h3⟩,h4,h5⟩:=hB
 have key:=hR1.update (w':=w) (ψ':=ψ1) (B':=.cells (cs.map (conv (sh.foldl cE S) (vd (sh.foldl cE S)) 4)) ty) (pl':=pl) ht hpl (lq _ _) (fun _ _ _=>rfl) (by rw [hset];exact cN.refl _ _) (by
  rw [hset]
  refine⟨h0,⟨c,T,h1,by simpa using h2,fun m x ex=>?_⟩,h4,h5⟩
  have hlf:x.leaf=true:=aq.1 hl x (ar ex)
  rw [aF] at ex
  cases e:cs[m]? with
  | none=>rw [e] at ex;cases ex
  | some y =>
   rw [e] at ex;cases ex
   obtain⟨q1,v,q2,q3⟩:=h3 m y e
   exact⟨hlf,v,q2,gF hR1 (cX.le_refl _) hfr 4 _ _ q3⟩) (fun k hk=>.inl hk) (fun b o v e=>.inl ⟨e,fun hk=>by
  simp only [ax.at,a8] at hk;subst hk;rw [h4 o] at e;cases e⟩) rfl
 rw [hset] at key
 exact KI.mono (h ι ψ1 w ac key (hE.mono hx)) fun e a2 w2 hp=>hp.chain (hx.take n0)
theorem Cr {P:Program}{w0:World}{n0 N:Nat}{r:Option Nat}{Q:bN}{k:List TI}{env:cF}{S:List ax}{it:KI} (S0:List ax){cs:List AV}{ty:Option TypeId}{t:Nat} (sl:List Nat) (hS:S=S0++[.cells cs ty]) (hO:bw S0) (hn:n0=S0.length) (ht:env t=.own S0.length 0)
  (hds:(env DS).lt S0.length=true) (hsl:(sl.all fun u=>(eg env t (.pro cs) u).lt S0.length)=true) (h:aX P w0 n0 N r (.it it::k) Q .normal (gg sl (eg env t (.pro cs))) S0):aX P w0 n0 N r (.it it::k) Q .normal env S:=by
 subst hS
 have hg:(S0++[ax.cells cs ty])[S0.length]? = some (.cells cs ty):=by simp
 refine l7 (a:=S0.length) (o:=0) ht hg ?_
 have e:(S0++[ax.cells cs ty]).set S0.length .dead=S0++[.dead]:=by rw [cZ _ _ (aP _),p4];rfl
 rw [e,fN]
 have htd:DS≠t∨DS=t:=by omega
 refine qO hO 0 sl hn ?_ (by simpa using hsl) rfl (by simpa using h)
 rcases htd with htd | htd
 ·simpa [eg,htd] using hds
 ·rw [htd,ht] at hds
  simp [AV.lt] at hds
end Go.Fen
namespace Go.Fen
open Go.RowKit
section
variable {P:Program}{w0:World}{n0 N:Nat}{r:Option Nat}{Q:bN}{k:List TI}{ops:Array Oper}
def pE (ops:Array Oper) (listed:Array Bool):Prop:=∀ j o,ops[j]? = some o→listed.getD j true=true→∀ e∈o.after,dm .any e=true→listed.getD e.on false=true
def vq (ops:Array Oper) (n:Nat):Bool:=(bC n).all fun i=>(bC (n+1)).any fun j=>decide (i<j)&&!kx ops j i
def Gy (ops:Array Oper) (pl:List (Nat × AV)) (cW:cF) (i:Nat) (env:cF):Prop :=
 (∀ j,kx ops i j=false→∀ d v,pl[j]? = some (d,v)→env d=v)∧∀ t,(pl.all fun p=>!(p.1==t))=true→env t=cW t
def CG (P:Program) (w0:World) (N:Nat) (Q:bN) (ops:Array Oper) (pl:List (Nat × AV)) (S0:List ax) (cW:cF) (i:Nat):Prop :=
 match pl[i]? with
 | some (d,v)=>∀ env,Gy ops pl cW i env→nF P w0 N ops Q i (fun env' S'=>env'=eg env d v∧S'=S0) env S0
 | none=>True
theorem gx {i j:Nat}{o:Oper} (ho:ops[i]? = some o) (h:kx ops i j=false):∃ e∈o.after,dm .any e=true∧e.on=j:=by
 unfold kx at h
 simp only [ho,aG] at h
 rw [mO] at h
 obtain⟨e,he,hb⟩:=h
 simp only [aj,beq_iff_eq] at hb
 exact⟨e,he,hb.1,hb.2⟩
theorem la {l:Array Bool}{j:Nat} (h:l.getD j false=true):l.getD j true=true:=by
 simp only [ay] at h ⊢
 cases hx:l[j]? with
 | none=>rfl
 | some b=>rw [hx] at h;simpa using h
theorem jN (pl:List (Nat × AV)){n:Nat}{cW:cF}{S0:List ax} (hn:ops.size=n+1) (hpl:pl.length=n) (hnd:decide ((pl.map bZ).Nodup)=true) (hdep:rW ops=true) (hcov:vq ops n=true)
  (hstep:oc (CG P w0 N Q ops pl S0 cW) 0 n)
  (hz:∀ env:cF,(∀ (i d:Nat) (v:AV),pl[i]? = some (d,v)→env d=v)→(∀ t,(pl.all fun p=>!(p.1==t))=true→env t=cW t)→nF P w0 N ops Q n (fun env' S'=>aX P w0 n0 N r k Q .normal env' S') env S0) :
  er P w0 n0 N r ops k Q (n+1) (bI (n+1) false) [] cW S0:=by
 have hnd:(pl.map bZ).Nodup:=by simpa using hnd
 refine zJ (fun listed env S=>(listed.getD n true=false∧(∀ (i d:Nat) (v:AV),pl[i]? = some (d,v)→listed.getD i true=true→env d=v)∧(∀ t,(pl.all fun p=>!(p.1==t))=true→env t=cW t)∧S=S0∧pE ops listed)∨((∀ i,i≤n→listed.getD i true=true)∧aX P w0 n0 N r k Q .normal env S)) ?step ?fin (n+1) _ _ _ ?init ?left
 case left =>
  unfold qi
  rw [← hn]
  exact dB (lf) (by simp)
 case init =>
  have hrep:∀ i,i<n+1→(bI (n+1) false).getD i true=false:=fun i hi=>by simp [jf,hi]
  refine .inl ⟨hrep n (by omega),fun i d v hi hl=>?_,fun _ _=>rfl,rfl,fun j o ho hl=>?_⟩
  ·have h1:=(ab.1 hi).1
   rw [hrep i (by omega)] at hl;cases hl
  ·have h1:=(bO.1 ho).1
   rw [hrep j (by omega)] at hl;cases hl
 case fin =>
  intro listed env S hI hr
  have hal:=lR hdep hr
  rcases hI with⟨h1,_⟩ | ⟨_,h⟩
  ·rw [hal n (by omega)] at h1;cases h1
  ·exact h
 case step =>
  intro listed env S i o hI ho hu hd
  have hi:i<n+1:=by have:=(bO.1 ho).1;omega
  rcases hI with⟨h1,h2,h3,rfl,h5⟩ | ⟨h,_⟩
  rotate_left
  ·rw [h i (by omega)] at hu;cases hu
  by_cases hin:i=n
  ·subst hin
   have hall:∀ m j,j+m=i→listed.getD j true=true∨j=i:=by
    intro m
    induction m using um with
    | _ m ih =>
     intro j hj
     by_cases hji:j=i
     ·exact .inr hji
     ·left
      have hc:=aq.1 hcov j (cP.2 (by omega))
      obtain⟨q,hq,hq2⟩:=List.any_eq_true.1 hc
      simp only [aj,decide_eq_true_eq,az] at hq2
      have hqi:q≤i:=by have:=cP.1 hq;omega
      rcases ih (i - q) (by omega) q (by omega) with hl | rfl
      ·obtain⟨oq,hoq⟩:∃ oq,ops[q]? = some oq:=⟨ops[q]'(by omega),a_ (by omega)⟩
       obtain⟨e,he,hb,heq⟩:=gx hoq hq2.2
       have:=h5 q oq hoq hl e he hb
       rw [heq] at this
       exact la this
      ·obtain⟨e,he,hb,heq⟩:=gx ho hq2.2
       have:=hd e he hb
       rw [heq] at this
       exact la this
   have hl:∀ j,j<i→listed.getD j true=true:=fun j hj=>(hall (i - j) j (by omega)).resolve_right (by omega)
   refine(hz env (fun j d v hj=>h2 j d v hj (hl j (by have:=(ab.1 hj).1;omega))) h3).mono fun env' S' hk=>.inr ⟨fun j hj=>?_,hk⟩
   by_cases hji:j=i
   ·subst hji
    simp only [ay,bF]
    by_cases hs:j<listed.size<;>simp [hs]
   ·rw [getD_set_ne true (Ne.symm hji)]
    exact hl j (by omega)
  ·have hs:=kO hstep (bx i) (by omega)
   unfold CG at hs
   obtain⟨⟨d,v⟩,hf⟩:∃ f,pl[i]? = some f:=⟨pl[i]'(by omega),al (by omega)⟩
   rw [hf] at hs
   simp only at hs
   refine(hs env ⟨fun j hj d' v' hd'=>?_,h3⟩).mono ?_
   ·obtain⟨e,he,hb,heq⟩:=gx ho hj
    have:=hd e he hb
    rw [heq] at this
    exact h2 j d' v' hd' (la this)
   ·rintro env' S' ⟨rfl,rfl⟩
    refine .inl ⟨by rw [getD_set_ne true hin];exact h1,fun j d' v' hj hl=>?_,fun t ht=>?_,rfl,fun j oj hoj hl e he hb=>?_⟩
    ·by_cases hji:j=i
     ·subst hji
      rw [hf] at hj;cases hj
      simp [eg]
     ·have hde:d'≠d:=fun hh=>by
       subst hh
       have e1:(pl.map bZ)[j]? = some d':=by rw [aF,hj];rfl
       have e2:(pl.map bZ)[i]? = some d':=by rw [aF,hf];rfl
       have hjl:j<(pl.map bZ).length:=(ab.1 e1).1
       exact hji ((pG hjl hnd).1 (e1.trans e2.symm))
      rw [show eg env d v d'=env d' by simp [eg,hde]]
      rw [getD_set_ne true (Ne.symm hji)] at hl
      exact h2 j d' v' hj hl
    ·have hne:t≠d:=by
      rintro rfl
      have:=aq.1 ht _ (ar hf)
      simp at this
     rw [show eg env d v t=env t by simp [eg,hne]]
     exact h3 t ht
    ·have hset:∀ m,listed.getD m false=true→(listed.setIfInBounds i true).getD m false=true:=by
      intro m hm
      simp only [ay,bF] at hm ⊢
      split
      ·split<;>simp_all
      ·exact hm
     by_cases hji:j=i
     ·subst hji
      rw [ho] at hoj;cases hoj
      exact hset _ (hd e he hb)
     ·rw [getD_set_ne true (Ne.symm hji)] at hl
      exact hset _ (h5 j oj hoj hl e he hb)
end
end Go.Fen
namespace Go.Fen
open Go.RowKit
section
variable {P:Program}{w0:World}{n0 N:Nat}{r:Option Nat}{Q:bN}{k:List TI}{ops:Array Oper}{S0:List ax}
def ly (P:Program) (w0:World) (S0:List ax) (ops:Array Oper) (env:cF) (o:Oper) (v:AV):Prop :=
 (bH ops env o=some false∧v=.tup [])∨(bH ops env o=some true∧dc P S0 (bf w0 env) o.op=some (v,S0)) ∨
 (bH ops env o=some true∧∃ (fop:Operand) (args:Array Operand) (tys:Array TypeId) (f:FuncId) (first cap A:List AV),o.op=.call ⟨.value fop,args,tys⟩∧bf w0 env fop=.fn (.func f) first cap ∧
  Aj S0 (first++args.toList.map (bf w0 env)++cap)=A∧∀ R:df→List ax→Prop,R (.ret v) S0→ao P w0 f A S0 R)
theorem xi {o:Oper}{t:Nat} (h:.tmp t∈o.op.operands):t∈o.looksAt ops:=by
 unfold Oper.looksAt
 exact fM _ (Cj.2 ⟨.tmp t,by simpa using h,rfl⟩)
theorem rL {o:Oper}{env env':cF} (h:∀ t∈o.looksAt ops,env' t=env t):bH ops env' o=bH ops env o:=by
 unfold bH
 cases hg:o.guard with
 | none=>rfl
 | some p =>
  obtain⟨g,want⟩:=p
  cases ho:ops[g]? with
  | none=>simp [ho]
  | some og =>
   cases hd:og.dst with
   | none=>simp [ho,hd]
   | some s =>
    have:env' s=env s:=h s (by
     unfold Oper.looksAt
     refine b9 _ ?_
     simp [hg,ho,hd])
    simp [ho,hd,this]
theorem ly.agree {o:Oper}{env env':cF}{v:AV} (h:∀ t∈o.looksAt ops,env' t=env t) (hg:ly P w0 S0 ops env o v):ly P w0 S0 ops env' o v:=by
 have hop:∀ x∈o.op.operands,bf w0 env' x=bf w0 env x:=fun x hx=>by
  cases x with
  | tmp t=>exact h t (xi hx)
  | _=>rfl
 have hgd:=rL h
 rcases hg with⟨a,b⟩ | ⟨a,b⟩ | ⟨a,fop,args,tys,f,first,cap,A,b,c,d,e⟩
 ·exact .inl ⟨hgd.trans a,b⟩
 ·exact .inr (.inl ⟨hgd.trans a,by rw [iR hop];exact b⟩)
 ·have hargs:args.toList.map (bf w0 env')=args.toList.map (bf w0 env):=gA fun y hy=>hop y (by rw [b];simp [bc,Call.operands];exact .inr (by simpa using hy))
  have hfop:bf w0 env' fop=bf w0 env fop:=hop fop (by rw [b];simp [bc,Call.operands])
  exact .inr (.inr ⟨hgd.trans a,fop,args,tys,f,first,cap,A,b,hfop.trans c,by rw [hargs];exact d,e⟩)
theorem ly.op {i d:Nat}{o:Oper}{env:cF}{v:AV}{K:cF→List ax→Prop} (ho:ops[i]? = some o) (hd:o.dst=some d) (hN:d<N) (hg:ly P w0 S0 ops env o v) (hk:K (eg env d v) S0):nF P w0 N ops Q i K env S0:=by
 refine⟨o,ho,by rw [hd];simpa [dx] using hN, ?_⟩
 rw [hd]
 rcases hg with⟨a,rfl⟩ | ⟨a,b⟩ | ⟨a,fop,args,tys,f,first,cap,A,b,c,e,g⟩
 ·exact .inl ⟨a,hk⟩
 ·exact .inr (.inl ⟨a,v,S0,b,hk⟩)
 ·refine .inr (.inr ⟨a,fop,args,tys,f,first,cap,[],b,c, ?_⟩)
  have e':(first++args.toList.map (bf w0 env)++cap).map (conv S0 (vd S0) 4)=A:=e
  simp only [List.foldl_nil]
  rw [e']
  exact g _ hk
def mH (P:Program) (w0:World) (N:Nat) (ops:Array Oper) (S0:List ax) (K:cF→Prop):Nat→Nat→cF→Prop
 | 0,_,env=>K env
 | m+1,i,env=>∃ o d v,ops[i]? = some o∧o.dst=some d∧d<N∧ly P w0 S0 ops env o v∧mH P w0 N ops S0 K m (i+1) (eg env d v)
def jp (pl:List (Nat × AV)) (env:cF):cF:=pl.foldl (fun e p=>eg e p.1 p.2) env
theorem sR {K:cF→Prop}:∀ (m i:Nat) (env:cF),mH P w0 N ops S0 K m i env →
  ∃ pl:List (Nat × AV),pl.length=m∧(∀ j d v,pl[j]? = some (d,v)→∃ o,ops[i+j]? = some o∧o.dst=some d∧d<N∧ly P w0 S0 ops (jp (pl.take j) env) o v)∧K (jp pl env)
 | 0,i,env,h=>⟨[],rfl,by simp,h⟩
 | m+1,i,env,⟨o,d,v,h1,h2,h3,h4,h5⟩=>by
  obtain⟨pl,q1,q2,q3⟩:=sR m (i+1) _ h5
  refine⟨(d,v)::pl,by simp [q1],fun j d' v' hj=>?_,q3⟩
  cases j with
  | zero=>simp at hj;obtain⟨rfl,rfl⟩:=hj;exact⟨o,h1,h2,h3,h4⟩
  | succ j =>
   obtain⟨o',g1,g2,g3,g4⟩:=q2 j d' v' (by simpa using hj)
   exact⟨o',by rw [← g1];congr 1;omega,g2,g3,g4⟩
theorem jo:∀ {pl:List (Nat × AV)}{env:cF}{t:Nat},(∀ p∈pl,p.1≠t)→jp pl env t=env t
 | [],_,_,_=>rfl
 | p::pl,env,t,h=>by
  unfold jp
  rw [ee]
  have:=jo (pl:=pl) (env:=eg env p.1 p.2) (t:=t) fun q hq=>h q (fa _ hq)
  unfold jp at this
  rw [this]
  have hne:=h p (cV ..)
  simp [eg,Ne.symm hne]
theorem mA:∀ {pl:List (Nat × AV)}{env:cF}{j d:Nat}{v:AV},(pl.map bZ).Nodup→pl[j]? = some (d,v)→jp pl env d=v
 | [],_,_,_,_,_,h=>by simp at h
 | p::pl,env,j,d,v,hn,h=>by
  rw [aA,iL] at hn
  unfold jp
  rw [ee]
  cases j with
  | zero =>
   simp at h;subst h
   have:=jo (pl:=pl) (env:=eg env d v) (t:=d) fun q hq e=>hn.1 (aH.2 ⟨q,hq,e⟩)
   unfold jp at this
   rw [this];simp [eg]
  | succ j =>
   have:=mA (pl:=pl) (env:=eg env p.1 p.2) hn.2 (by simpa using h)
   unfold jp at this
   exact this
def Cy (ops:Array Oper) (n:Nat):Bool :=
 ((bC n).all fun i=>match ops[i]? with
  | some o=>o.dst.isSome&&(o.looksAt ops).all fun t=>(bC n).all fun j=>match ops[j]? with
   | some oj=>!(oj.dst==some t)||(decide (j<i)&&!kx ops i j)
   | none=>true
  | none=>false)&&decide (((bC n).filterMap fun i=>(ops[i]?).bind fun o:Oper=>o.dst).Nodup)
def mG (P:Program) (w0:World) (n0 N:Nat) (r:Option Nat) (ops:Array Oper) (k:List TI) (Q:bN):Nat→Nat→cF→List ax→Prop
 | 0,_,env,S=>aX P w0 n0 N r k Q .normal env S
 | s+1,i,env,S=>nF P w0 N ops Q i (fun env' S'=>mG P w0 n0 N r ops k Q s (i+1) env' S') env S
def C5 (ops:Array Oper) (n s:Nat):Bool:=(bC s).all fun j=>vq ops (n+j)
theorem oH {listed:Array Bool}{i j:Nat} (h:j=i∨listed.getD j true=true):(listed.setIfInBounds i true).getD j true=true:=by
 rcases h with rfl | h
 ·simp only [ay,bF]
  by_cases hs:j<listed.size<;>simp [hs]
 ·by_cases hji:j=i
  ·subst hji
   simp only [ay,bF]
   by_cases hs:j<listed.size<;>simp [hs]
  ·rw [getD_set_ne true (Ne.symm hji)];exact h
theorem pE.set {listed:Array Bool}{i:Nat}{o:Oper} (h:pE ops listed) (ho:ops[i]? = some o) (hd:∀ e∈o.after,dm .any e=true→listed.getD e.on false=true):pE ops (listed.setIfInBounds i true):=by
 have hset:∀ m,listed.getD m false=true→(listed.setIfInBounds i true).getD m false=true:=by
  intro m hm
  simp only [ay,bF] at hm ⊢
  split
  ·split<;>simp_all
  ·exact hm
 intro j oj hoj hl e he hb
 by_cases hji:j=i
 ·subst hji
  rw [ho] at hoj;cases hoj
  exact hset _ (hd e he hb)
 ·rw [getD_set_ne true (Ne.symm hji)] at hl
  exact hset _ (h j oj hoj hl e he hb)
theorem qz {listed:Array Bool}{z:Nat}{o:Oper} (hcov:vq ops z=true) (hz:ops[z]? = some o) (hd:∀ e∈o.after,dm .any e=true→listed.getD e.on false=true) (hdc:pE ops listed):∀ j,j<z→listed.getD j true=true:=by
 have hzl:z<ops.size:=(bO.1 hz).1
 have hall:∀ m j,j+m=z→listed.getD j true=true∨j=z:=by
  intro m
  induction m using um with
  | _ m ih =>
   intro j hj
   by_cases hji:j=z
   ·exact .inr hji
   ·left
    have hc:=aq.1 hcov j (cP.2 (by omega))
    obtain⟨q,hq,hq2⟩:=List.any_eq_true.1 hc
    simp only [aj,decide_eq_true_eq,az] at hq2
    have hqi:q≤z:=by have:=cP.1 hq;omega
    rcases ih (z - q) (by omega) q (by omega) with hl | rfl
    ·obtain⟨oq,hoq⟩:∃ oq,ops[q]? = some oq:=⟨ops[q]'(by omega),a_ (by omega)⟩
     obtain⟨e,he,hb,heq⟩:=gx hoq hq2.2
     have:=hdc q oq hoq hl e he hb
     rw [heq] at this
     exact la this
    ·obtain⟨e,he,hb,heq⟩:=gx hz hq2.2
     have:=hd e he hb
     rw [heq] at this
     exact la this
 exact fun j hj=>(hall (z - j) j (by omega)).resolve_right (by omega)
theorem tS (n s:Nat){cW:cF} (hn:ops.size=n+s) (hok:Cy ops n=true) (hdep:rW ops=true) (htl:C5 ops n s=true)
  (h:mH P w0 N ops S0 (fun env=>mG P w0 n0 N r ops k Q s n env S0) n 0 cW):er P w0 n0 N r ops k Q (n+s) (bI (n+s) false) [] cW S0:=by
 obtain⟨pl,hpl,hgv,hK⟩:=sR n 0 cW h
 simp only [di] at hgv
 simp only [Cy,aj,aq,cP,decide_eq_true_eq] at hok
 obtain⟨hlk,hnd0⟩:=hok
 have hdst:∀ j d v,pl[j]? = some (d,v)→(ops[j]?).bind (fun o:Oper=>o.dst)=some d:=fun j d v hj=>by
  obtain⟨o,h1,h2,_⟩:=hgv j d v hj
  rw [h1];exact h2
 have hmap:pl.map bZ=(bC n).filterMap fun i=>(ops[i]?).bind fun o:Oper=>o.dst:=by
  have key:∀ (m:Nat) (q:List (Nat × AV)) (i:Nat),q.length=m→(∀ j d v,q[j]? = some (d,v)→(ops[i+j]?).bind (fun o:Oper=>o.dst)=some d)→q.map bZ=(un i m).filterMap fun i=>(ops[i]?).bind fun o:Oper=>o.dst:=by
   intro m
   induction m with
   | zero=>intro q i hq _;rw [mM.1 hq];rfl
   | succ m ih =>
    intro q i hq hh
    match q,hq with
    | (d,v)::q,hq =>
     rw [List.range'_succ,su (by simpa using hh 0 d v rfl),aA]
     congr 1
     refine ih q (i+1) (by simpa using hq) fun j d' v' hj=>?_
     have:=hh (j+1) d' v' (by simpa using hj)
     rw [← this];congr 2;omega
  rw [List.range_eq_range']
  exact key n pl 0 hpl (fun j d v hj=>by rw [di];exact hdst j d v hj)
 have hnd:(pl.map bZ).Nodup:=by rw [hmap];exact hnd0
 have hmid:∀ (i j d:Nat) (v:AV),j<i→pl[j]? = some (d,v)→jp (pl.take i) cW d=v:=fun i j d v hji hj =>
  mA (j:=j) (by rw [List.map_take];exact hnd.sublist (List.take_sublist _ _)) (by rw [aV,if_pos hji];exact hj)
 have hget:∀ i,i<n→∃ d v,pl[i]? = some (d,v):=fun i hi=>⟨(pl[i]'(by omega)).1,(pl[i]'(by omega)).2,al (by omega)⟩
 refine zJ (fun listed env S=>((∀ i,n≤i→i<n+s→listed.getD i true=false)∧(∀ (i d:Nat) (v:AV),pl[i]? = some (d,v)→listed.getD i true=true→env d=v)∧(∀ t,(∀ p∈pl,p.1≠t)→env t=cW t)∧S=S0∧pE ops listed) ∨
  (∃ j,j<s∧(∀ i,i≤n+j→listed.getD i true=true)∧(∀ i,n+j<i→i<n+s→listed.getD i true=false)∧pE ops listed∧mG P w0 n0 N r ops k Q (s - (j+1)) (n+j+1) env S)) ?step ?fin (n+s) _ _ _ ?init ?left
 case left =>
  unfold qi
  rw [← hn]
  exact dB (lf) (by simp)
 case init =>
  have hrep:∀ i,i<n+s→(bI (n+s) false).getD i true=false:=fun i hi=>by simp [jf,hi]
  refine .inl ⟨fun i _ hi=>hrep i hi,fun i d v hi hl=>?_,fun _ _=>rfl,rfl,fun j o ho hl=>?_⟩
  ·have h1:=(ab.1 hi).1
   rw [hrep i (by omega)] at hl;cases hl
  ·have h1:=(bO.1 ho).1
   rw [hrep j (by omega)] at hl;cases hl
 case fin =>
  intro listed env S hI hr
  have hal:=lR hdep hr
  rcases hI with⟨h1,h2,h3,rfl,_⟩ | ⟨j,hj,h1,h2,_,ht⟩
  ·have hs0:s=0:=by
    rcases Nat.eq_zero_or_pos s with h | h
    ·exact h
    ·have:=h1 n (aP _) (by omega)
     rw [hal n (by omega)] at this;cases this
   subst hs0
   have he:env=jp pl cW:=by
    funext t
    by_cases ht:∀ p∈pl,p.1≠t
    ·rw [h3 t ht,jo ht]
    ·have ht:∃ p∈pl,p.1=t:=by
      apply iH
      intro hne
      exact ht fun p hp e=>hne ⟨p,hp,e⟩
     obtain⟨p,hp,rfl⟩:=ht
     obtain⟨i,hi⟩:=aQ hp
     have hil:=(ab.1 hi).1
     rw [h2 i p.1 p.2 hi (hal i (by omega)),mA hnd hi]
   rw [he];exact hK
  ·have hjs:j+1=s:=by
    rcases kT (j+1) s with h | h
    ·have:=h2 (n+j+1) (by omega) (by omega)
     rw [hal (n+j+1) (by omega)] at this;cases this
    ·omega
   rw [show s - (j+1)=0 by omega] at ht
   exact ht
 case step =>
  intro listed env S i o hI ho hu hd
  have hi:i<n+s:=by have:=(bO.1 ho).1;omega
  rcases hI with⟨h1,h2,h3,rfl,h5⟩ | ⟨j,hj,h1,h2,h5,ht⟩
  ·by_cases hin:i<n
   ·obtain⟨d,v,hf⟩:=hget i hin
    obtain⟨o',g1,g2,g3,g4⟩:=hgv i d v hf
    rw [ho] at g1;cases g1
    have hag:∀ t∈o.looksAt ops,env t=jp (pl.take i) cW t:=by
     intro t ht
     by_cases hto:∀ p∈pl,p.1≠t
     ·rw [h3 t hto,jo fun p hp=>hto p (mL hp)]
     ·have hto:∃ p∈pl,p.1=t:=by
       apply iH
       intro hne
       exact hto fun p hp e=>hne ⟨p,hp,e⟩
      obtain⟨p,hp,rfl⟩:=hto
      obtain⟨j,hj⟩:=aQ hp
      have hjl:=(ab.1 hj).1
      obtain⟨oj,w1,w2,_,_⟩:=hgv j p.1 p.2 hj
      have hc:=hlk i hin
      rw [ho] at hc
      simp only [aj,aq,cP] at hc
      have hc2:=hc.2 p.1 ht j (by omega)
      rw [w1] at hc2
      simp only [w2,beq_self_eq_true,x9,uq,aj,decide_eq_true_eq,az] at hc2
      obtain⟨e,he,hb,heq⟩:=gx ho hc2.2
      have:=hd e he hb
      rw [heq] at this
      rw [h2 j p.1 p.2 hj (la this),hmid i j p.1 p.2 hc2.1 hj]
    refine ly.op ho g2 g3 (g4.agree hag) (.inl ⟨fun m hm hm2=>?_,fun m d' v' hm hl=>?_,fun t ht=>?_,rfl,h5.set ho hd⟩)
    ·rw [getD_set_ne true (by omega)];exact h1 m hm hm2
    ·by_cases hmi:m=i
     ·subst hmi
      rw [hf] at hm;cases hm
      simp [eg]
     ·have hde:d'≠d:=fun hh=>by
       subst hh
       have e1:(pl.map bZ)[m]? = some d':=by rw [aF,hm];rfl
       have e2:(pl.map bZ)[i]? = some d':=by rw [aF,hf];rfl
       have hml:m<(pl.map bZ).length:=(ab.1 e1).1
       exact hmi ((pG hml hnd).1 (e1.trans e2.symm))
      rw [show eg env d v d'=env d' by simp [eg,hde]]
      rw [getD_set_ne true (Ne.symm hmi)] at hl
      exact h2 m d' v' hm hl
    ·have hne:t≠d:=fun e=>ht (d,v) (ar hf) e.symm
     rw [show eg env d v t=env t by simp [eg,hne]]
     exact h3 t ht
   ·have hcov:=aq.1 htl (i - n) (cP.2 (by omega))
    rw [show n+(i - n)=i by omega] at hcov
    have hl:=qz hcov ho hd h5
    have hien:i=n:=by
     rcases kT n i with h | h
     ·have:=h1 n (aP _) (by omega)
      rw [hl n h] at this;cases this
     ·omega
    subst hien
    have he:env=jp pl cW:=by
     funext t
     by_cases ht:∀ p∈pl,p.1≠t
     ·rw [h3 t ht,jo ht]
     ·have ht:∃ p∈pl,p.1=t:=by
       apply iH
       intro hne
       exact ht fun p hp e=>hne ⟨p,hp,e⟩
      obtain⟨p,hp,rfl⟩:=ht
      obtain⟨j,hj⟩:=aQ hp
      have hjl:=(ab.1 hj).1
      rw [h2 j p.1 p.2 hj (hl j (by omega)),mA hnd hj]
    subst he
    obtain⟨s',rfl⟩:∃ s',s=s'+1:=⟨s - 1,by omega⟩
    unfold mG at hK
    refine hK.mono fun env' S' ht=>.inr ⟨0,by omega,fun m hm=>oH ?_,fun m hm hm2=>?_,h5.set ho hd,ht⟩
    ·by_cases e:m=i
     ·exact .inl e
     ·exact .inr (hl m (by omega))
    ·rw [getD_set_ne true (by omega)]
     exact h1 m (by omega) hm2
  ·have hcov:=aq.1 htl (i - n) (cP.2 (by
    rcases kT i n with h | h
    ·rw [h1 i (by omega)] at hu;cases hu
    ·omega))
   have hin:n+j<i:=by
    rcases kT (n+j) i with h | h
    ·exact h
    ·rw [h1 i h] at hu;cases hu
   rw [show n+(i - n)=i by omega] at hcov
   have hl:=qz hcov ho hd h5
   have hij:i=n+j+1:=by
    rcases kT (n+j+1) i with h | h
    ·have:=h2 (n+j+1) (by omega) (by omega)
     rw [hl (n+j+1) h] at this;cases this
    ·omega
   subst hij
   obtain⟨s',hs'⟩:∃ s',s - (j+1)=s'+1:=⟨s - (j+1) - 1,by omega⟩
   rw [hs'] at ht
   unfold mG at ht
   refine ht.mono fun env' S' ht=>.inr ⟨j+1,by omega,fun m hm=>oH ?_,fun m hm hm2=>?_,h5.set ho hd, ?_⟩
   ·by_cases e:m=n+j+1
    ·exact .inl e
    ·exact .inr (h1 m (by omega))
   ·rw [getD_set_ne true (by omega)]
    exact h2 m (by omega) hm2
   ·rw [show s - (j+1+1)=s' by omega]
    exact ht
variable {K:cF→Prop}{m i d:Nat}{o:Oper}{env:cF}{v:AV}
theorem EF (ho:ops[i]? = some o) (hg:bH ops env o=some false) (hd:o.dst=some d) (hN:decide (d<N)=true) (h:mH P w0 N ops S0 K m (i+1) (eg env d (.tup []))):mH P w0 N ops S0 K (m+1) i env :=
 ⟨o,d,_,ho,hd,by simpa using hN,.inl ⟨hg,rfl⟩,h⟩
theorem Dg (ho:ops[i]? = some o) (hg:bH ops env o=some true) (hs:dc P S0 (bf w0 env) o.op=some (v,S0)) (hd:o.dst=some d) (hN:decide (d<N)=true) (h:mH P w0 N ops S0 K m (i+1) (eg env d v)):mH P w0 N ops S0 K (m+1) i env :=
 ⟨o,d,v,ho,hd,by simpa using hN,.inr (.inl ⟨hg,hs⟩),h⟩
theorem oK {fop:Operand}{args:Array Operand}{tys:Array TypeId}{f:FuncId}{first cap A:List AV} (ho:ops[i]? = some o) (hg:bH ops env o=some true) (hop:o.op=.call ⟨.value fop,args,tys⟩) (hf:bf w0 env fop=.fn (.func f) first cap) (hd:o.dst=some d) (hN:decide (d<N)=true)
  (hA:Aj S0 (first++args.toList.map (bf w0 env)++cap)=A) (hc:∀ R:df→List ax→Prop,R (.ret v) S0→ao P w0 f A S0 R) (h:mH P w0 N ops S0 K m (i+1) (eg env d v)):mH P w0 N ops S0 K (m+1) i env :=
 ⟨o,d,v,ho,hd,by simpa using hN,.inr (.inr ⟨hg,fop,args,tys,f,first,cap,A,hop,hf,hA,hc⟩),h⟩
theorem EG (h:K env):mH P w0 N ops S0 K 0 i env:=h
theorem FY {s:Nat}{S:List ax} (h:nF P w0 N ops Q i (fun env' S'=>mG P w0 n0 N r ops k Q s (i+1) env' S') env S):mG P w0 n0 N r ops k Q (s+1) i env S:=h
theorem Et {S:List ax} (h:aX P w0 n0 N r k Q .normal env S):mG P w0 n0 N r ops k Q 0 i env S:=h
theorem A2 {b:Bool} (hg:bH ops env o=some b) (ho:ops[i]? = some o) (ht:b=true→mH P w0 N ops S0 K (m+1) i env) (hf:b=false→mH P w0 N ops S0 K (m+1) i env):mH P w0 N ops S0 K (m+1) i env:=by
 cases b
 ·exact hf rfl
 ·exact ht rfl
end
attribute [irreducible] mH mG
theorem sq {G K:Prop} (h:K) (run:Hid K→G:=by
 intro kk
 first
 | apply EG;exact kk.out
 | apply Et;exact kk.out
 | apply FY;exact kk.out
 | apply Dg;(· simp only [go_sem, *];try rfl);(· simp only [go_sem, *];try rfl);(· simp only [go_sem, *];try rfl);(· rfl);(· rfl);exact kk.out
 | apply EF;(· simp only [go_sem, *];try rfl);(· simp only [go_sem, *];try rfl);(· rfl);(· rfl);exact kk.out
 | fail):G:=run h
theorem bq {G K L:Prop} (h:K) (h':L) (run:Hid K→Hid L→G:=by
 intro kk ll
 first
 | apply A2;(· simp only [go_sem, *];try rfl);(· simp only [go_sem, *];try rfl);(· exact kk.out);exact ll.out
 | fail):G:=run h h'
end Go.Fen
namespace Go.Fen
open Go.RowKit
section
variable {P:Program}{w0:World}{n0 N:Nat}{r:Option Nat}{Q:bN}{k:List TI}{ops:Array Oper}{S0:List ax}
def sj (P:Program) (w0:World) (ops:Array Oper) (S1:List ax) (env:cF):List Nat→Prop
 | []=>True
 | i::l=>(∃ o d,ops[i]? = some o∧o.dst=some d∧ly P w0 S1 ops env o (env d))∧sj P w0 ops S1 env l
theorem sj.get {S1:List ax}{env:cF}:∀ {l:List Nat}{i:Nat},sj P w0 ops S1 env l→i∈l→∃ o d,ops[i]? = some o∧o.dst=some d∧ly P w0 S1 ops env o (env d)
 | _::_,_,h,hm=>by
  rcases bA.1 hm with rfl | hm
  ·exact h.1
  ·exact sj.get h.2 hm
variable {n s:Nat}{env:cF}
end
end Go.Fen
namespace Go.Fen
open Go.RowKit
section
variable {P:Program}{w0:World}{n0 N:Nat}{r:Option Nat}{Q:bN}{k:List TI}{ops:Array Oper}
end
end Go.Fen
namespace Go.Fen
open Go.RowKit Go.MapKept
section
variable {P:Program}{w0 w:World}{ι:List Pl}{ψ:cX}{S:List ax}
end
end Go.Fen
namespace Go.Fen
open Go.RowKit Go.ChangeShapes
inductive Sk where
 | int (k:IntKind)
 | bool
 | str
 | sl (e:Sk)
 | nil
 | cons (a:Sk) (r:Sk)
namespace Sk
def size:Sk→Nat
 | nil=>0
 | cons a r=>a.size+r.size
 | _=>1
def noSl:Sk→Bool
 | sl _=>false
 | cons a r=>a.noSl&&r.noSl
 | _=>true
def isAgg:Sk→Bool
 | nil | cons _ _=>true
 | _=>false
def mk (s:Sk) (cs:List AV):AV:=if s.isAgg then .agg cs else cs.headD .junk
def has:Sk→List AV→Prop
 | int k,xs=>∃ n,xs=[.int k n]∧(Lit.int k n).wf=true
 | bool,xs=>∃ b,xs=[.bool b]
 | str,xs=>∃ s,xs=[.str s]∧s.length≤maxLen
 | sl e,xs=>∃ els:List (List AV),xs=[.sval false (els.map e.mk)]∧els.length≤maxLen∧∀ y∈els,e.has y
 | nil,xs=>xs=[]
 | cons a r,xs=>∃ y z,xs=y++z∧a.has y∧r.has z
def rep (s:Sk):Nat→Sk
 | 0=>nil
 | n+1=>cons s (rep s n)
def fields (P:Program) (f:TypeId→Option Sk):Nat→List Field→Option Sk
 | _,[]=>some nil
 | o,x::l=>match f x.type with
  | some s=>if x.offset=o∧P.cellsOf x.type=s.size then (fields P f (o+s.size) l).map (cons s) else none
  | none=>none
def of (P:Program):Nat→TypeId→Option Sk
 | 0,_=>none
 | n+1,t=>match P.underlying t with
  | some (.int k)=>some (.int k)
  | some .bool=>some .bool
  | some .string=>some .str
  | some (.slice e)=>match of P n e with
   | some s=>if s.noSl=true∧P.cellsOf e=s.size∧0<s.size then some (sl s) else none
   | none=>none
  | some (.struct fs)=>match fields P (of P n) 0 fs.toList with
   | some s=>if P.cellsOf t=s.size then some s else none
   | none=>none
  | some (.array m e)=>match of P n e with
   | some s=>if P.cellsOf e=s.size∧P.cellsOf t=m * s.size then some (rep s m) else none
   | none=>none
  | _=>none
theorem has_size:∀ {s:Sk}{xs:List AV},s.has xs→xs.length=s.size
 | int _,_,⟨_,h,_⟩=>by subst h;rfl
 | bool,_,⟨_,h⟩=>by subst h;rfl
 | str,_,⟨_,h,_⟩=>by subst h;rfl
 | sl _,_,⟨_,h,_⟩=>by subst h;rfl
 | nil,_,h=>by cases h;rfl
 | cons _ _,_,⟨y,z,h,h1,h2⟩=>by subst h;simp [size,has_size h1,has_size h2]
theorem mk_cells {s:Sk}{xs:List AV} (h:s.has xs):(s.mk xs).cells=xs:=by
 cases s<;>try rfl
 ·obtain⟨n,rfl,_⟩:=h;rfl
 ·obtain⟨n,rfl⟩:=h;rfl
 ·obtain⟨n,rfl,_⟩:=h;rfl
 ·obtain⟨n,rfl,_⟩:=h;rfl
end Sk
def ri (W:World):cX:=⟨fun b o=>W.cell? ⟨b,o,none⟩,fun _=>none⟩
theorem b7.start (W:World):b7 W [] (ri W) [] W:=by
 refine⟨lq _ _,fun _ _ _ h=>h,fun b es c h=>(by cases h),rfl,fun i B pl h=>(by simp at h),fun _ _ _ _ h=>h,fun i j B C p q k h=>(by simp at h)⟩
section
variable {H:Type}{enc:TypeId × Value→H}{P:Program}{W:World}{base:Nat}{spare:Nat→Bool}{held:Bool}
def hH (W:World) (xs:List AV) (cs:List Value):Prop:=xs.length=cs.length∧∀ (j:Nat) (x:AV) (v:Value),xs[j]? = some x→cs[j]? = some v→x.leaf=true∧VR [] (ri W) x v
theorem hH.one {x:AV}{v:Value} (hl:x.leaf=true) (h:VR [] (ri W) x v):hH W [x] [v] :=
 ⟨rfl,fun j y u h1 h2=>by
  cases j with
  | zero=>cases h1;cases h2;exact⟨hl,h⟩
  | succ j=>simp at h1⟩
theorem hH.append {xs ys:List AV}{cs ds:List Value} (h:hH W xs cs) (h':hH W ys ds):hH W (xs++ys) (cs++ds):=by
 refine⟨by simp [h.1,h'.1],fun j x v h1 h2=>?_⟩
 by_cases hj:j<xs.length
 ·rw [ap hj] at h1
  rw [ap (by rw [← h.1];exact hj)] at h2
  exact h.2 j x v h1 h2
 ·rw [aw (by omega)] at h1
  rw [aw (by rw [← h.1];omega),← h.1] at h2
  exact h'.2 _ x v h1 h2
def gS (cs:List Value):Prop:=∀ v∈cs,∀ a n c,v=.slice (some a) n c→a.spot=none
theorem vu {a:Addr}{n:Nat}{l:List Value} (h:W.cells? base a n=some l):l.length=n∧∀ j v,l[j]? = some v→W.cell? (a.add j)=some v:=by
 unfold World.cells? at h
 split at h
 ·refine⟨by simpa using up h,fun j v hv=>?_⟩
  have hj:j<n:=by have:=(ab.1 hv).1;have h2:=up h;simp at h2;omega
  obtain⟨b,hb,hf⟩:=Cl h j j (by simp [hj])
  rw [hv] at hb;cases hb
  exact hf
 ·cases h
theorem IO {cs:List Value}{o n m:Nat} (h:cs.length=o+(n+m)):(cs.drop o).take n++cs.drop (o+n)=cs.drop o:=by
 rw [← List.drop_drop,List.take_append_drop]
theorem th {n:Nat}{fuel:Nat} (ih:∀ (t:TypeId) (s:Sk) (cs:List Value) (x:DataW H × List MemPlace),Sk.of P n t=some s→DataW.trod enc P W base spare held fuel t cs=some x→(s.noSl=true∨gS cs)→cs.length=s.size∧∃ xs,s.has xs∧hH W xs cs) :
  ∀ (fs:List Field) (o:Nat) (s:Sk) (cs:List Value) (r:List (DataW H × List MemPlace)),Sk.fields P (Sk.of P n) o fs=some s→(fs.mapM fun f=>DataW.trod enc P W base spare held fuel f.type ((cs.drop f.offset).take (P.cellsOf f.type)))=some r →
   cs.length=o+s.size→(s.noSl=true∨gS cs)→∃ xs,s.has xs∧hH W xs (cs.drop o):=by
 intro fs
 induction fs with
 | nil =>
  intro o s cs r hs _ hl _
  cases hs
  refine⟨[],rfl, ?_⟩
  rw [uv (by simp [Sk.size] at hl;omega)]
  exact⟨rfl,fun j x v h=>by simp at h⟩
 | cons f fs ihf =>
  intro o s cs r hs hm hl hsp
  simp only [Sk.fields] at hs
  split at hs
  ·next s1 h1 =>
   split at hs
   ·next hc =>
    obtain⟨hc1,hc2⟩:=hc
    obtain⟨s2,h2,rfl⟩:=aJ.1 hs
    simp only [List.mapM_cons,Option.bind_eq_bind,jy,Option.pure_def,a8] at hm
    obtain⟨b,hb,r',hr',rfl⟩:=hm
    simp only [Sk.size] at hl
    rw [hc1,hc2] at hb
    obtain⟨_,ys,hy,hyr⟩:=ih f.type s1 _ b h1 hb (hsp.imp (fun h=>(by simp [Sk.noSl] at h;exact h.1)) fun h v hv=>h v (wx (mL hv)))
    obtain⟨zs,hz,hzr⟩:=ihf (o+s1.size) s2 cs r' h2 hr' (by omega) (hsp.imp (fun h=>(by simp [Sk.noSl] at h;exact h.2)) id)
    refine⟨ys++zs,⟨ys,zs,rfl,hy,hz⟩, ?_⟩
    rw [← IO (o:=o) (n:=s1.size) (m:=s2.size) (by omega)]
    exact hyr.append hzr
   ·cases hs
  ·cases hs
theorem yZ {s:Sk}{c:Nat} (hc:c=s.size){g:List Value→Option (DataW H × List MemPlace)} (ih:∀ (cs:List Value) (x:DataW H × List MemPlace),g cs=some x→(s.noSl=true∨gS cs)→cs.length=s.size∧∃ xs,s.has xs∧hH W xs cs) :
  ∀ (m k:Nat) (cs:List Value),(∀ i,i<m→∃ x,g ((cs.drop ((k+i) * c)).take c)=some x)→cs.length=(k+m) * c→(m=0∨s.noSl=true∨gS cs)→∃ xs,(s.rep m).has xs∧hH W xs (cs.drop (k * c)):=by
 intro m
 induction m with
 | zero =>
  intro k cs _ hl _
  refine⟨[],rfl, ?_⟩
  rw [uv (by simp at hl;omega)]
  exact⟨rfl,fun j x v h=>by simp at h⟩
 | succ m ihm =>
  intro k cs hm hl hsp
  obtain⟨x,hx⟩:=hm 0 (by omega)
  simp only [kf] at hx
  obtain⟨_,ys,hy,hyr⟩:=ih _ x hx ((hsp.resolve_left (by omega)).imp id fun h v hv=>h v (wx (mL hv)))
  obtain⟨zs,hz,hzr⟩:=ihm (k+1) cs (fun i hi=>by
   obtain⟨x,hx⟩:=hm (i+1) (by omega)
   exact⟨x,by rw [show k+1+i=k+(i+1) by omega];exact hx⟩) (by rw [hl];congr 1;omega) (.inr (hsp.resolve_left (by omega)))
  refine⟨ys++zs,⟨ys,zs,rfl,hy,hz⟩, ?_⟩
  have hk:(k+1) * c=k * c+c:=by rw [eE,Nat.one_mul]
  rw [hk] at hzr
  have hl2:cs.length=k * c+(c+m * c):=by rw [hl,show k+(m+1)=k+1+m by omega,eE,hk];omega
  rw [← IO (o:=k * c) (n:=c) (m:=m * c) hl2]
  exact hyr.append hzr
theorem B8 {a:Addr} (h:a.spot=none) (i j:Nat):(a.add i).add j=⟨a.block,a.off+i+j,none⟩:=by
 obtain⟨b,o,s⟩:=a
 simp only at h
 subst h
 unfold Addr.add
 by_cases hi:i=0<;>by_cases hj:j=0<;>simp [hi,hj]
theorem sU (s:Sk):∀ m,(s.rep m).size=m * s.size
 | 0=>by simp [Sk.rep,Sk.size]
 | m+1=>by simp [Sk.rep,Sk.size,sU s m,eE];omega
theorem oM:∀ (n:Nat) (t:TypeId) (s:Sk) (fuel:Nat) (cs:List Value) (x:DataW H × List MemPlace),Sk.of P n t=some s→DataW.trod enc P W base spare held fuel t cs=some x→(s.noSl=true∨gS cs)→cs.length=s.size∧∃ xs,s.has xs∧hH W xs cs:=by
 intro n
 induction n with
 | zero=>intro t s fuel cs x h;cases h
 | succ n ih =>
  intro t s fuel cs x hs ht hsp
  cases fuel with
  | zero=>simp [DataW.trod] at ht
  | succ fuel =>
  simp only [Sk.of] at hs
  split at hs
  ·next k hu =>
   cases hs
   simp only [DataW.trod,hu] at ht
   match cs,ht with
   | [.int k' m],ht =>
    simp only at ht
    split at ht
    ·next h=>obtain⟨rfl,hw⟩:=h;exact⟨rfl,_,⟨m,rfl,hw⟩,.one rfl (.int _ _)⟩
    ·cases ht
  ·next hu =>
   cases hs
   simp only [DataW.trod,hu] at ht
   match cs,ht with
   | [.bool b],ht=>exact⟨rfl,_,⟨b,rfl⟩,.one rfl (.bool _)⟩
  ·next hu =>
   cases hs
   simp only [DataW.trod,hu] at ht
   match cs,ht with
   | [.string b],ht =>
    simp only at ht
    split at ht
    ·next h=>exact⟨rfl,_,⟨b.data.toList,rfl,by simpa using h⟩,.one rfl (.str _ _ rfl)⟩
    ·cases ht
  ·next e hu =>
   split at hs
   ·next s1 h1 =>
    split at hs
    ·next hc =>
     obtain⟨hn,hce,hpos⟩:=hc
     cases hs
     simp only [DataW.trod,hu] at ht
     match cs,ht with
     | [.slice none 0 0],ht=>exact⟨rfl,_,⟨[],rfl,by simp,by simp⟩,.one rfl (.svnil _)⟩
     | [.slice (some a) len cap],ht =>
      simp only at ht
      split at ht
      ·next hle =>
       obtain⟨_,hlc,hcm⟩:=hle
       obtain⟨els,hels,_⟩:=jy.1 ht
       have hlen:els.length=len:=by simpa using up hels
       have hspot:a.spot=none:=by
        rcases hsp with h | h
        ·simp [Sk.noSl] at h
        ·exact h _ (aZ.2 rfl) a len cap rfl
       have each:∀ i,∃ q:List AV × List Value,i<len→s1.has q.1∧hH W q.1 q.2∧W.cells? base (a.add (i * s1.size)) s1.size=some q.2:=by
        intro i
        by_cases hi:i<len
        ·obtain⟨y,_,hy⟩:=Cl hels i i (by simp [hi])
         obtain⟨ds,hd,hy⟩:=jy.1 hy
         rw [hce] at hd
         obtain⟨_,xs,hx,hxr⟩:=ih e s1 fuel ds y h1 hy (.inl hn)
         exact⟨(xs,ds),fun _=>⟨hx,hxr,hd⟩⟩
        ·exact⟨([],[]),fun h=>absurd h hi⟩
       obtain⟨f,hf⟩:=Classical.skolem.1 each
       have hL:(((bC len).map fun i=>(f i).1).map s1.mk).length=len:=by simp
       have get:∀ (i:Nat) (e:AV),(((bC len).map fun i=>(f i).1).map s1.mk)[i]? = some e→i<len∧e.cells=(f i).1:=by
        intro i e he
        have hi:i<len:=by have:=(ab.1 he).1;omega
        simp only [Ag,aF] at he
        rw [List.getElem?_range hi] at he
        cases he
        exact⟨hi,Sk.mk_cells (hf i hi).1⟩
       have at':∀ (i:Nat) (e:AV) (j:Nat) (x:AV),(((bC len).map fun i=>(f i).1).map s1.mk)[i]? = some e→e.cells[j]? = some x→x.leaf=true∧(ri W).c a.block (a.off+i * s1.size+j)=some ((f i).2.getD j undef)∧VR [] (ri W) x ((f i).2.getD j undef):=by
        intro i e j x he hx
        obtain⟨hi,hc⟩:=get i e he
        rw [hc] at hx
        obtain⟨g1,g2,g3⟩:=hf i hi
        obtain⟨v,hv⟩:∃ v,(f i).2[j]? = some v:=⟨_,al (by rw [← g2.1];exact(ab.1 hx).1)⟩
        obtain⟨k1,k2⟩:=g2.2 j x v hx hv
        have k3:=(vu g3).2 j v hv
        have:(f i).2.getD j undef=v:=by simp [List.getD,hv]
        rw [this]
        refine⟨k1, ?_,k2⟩
        rw [B8 hspot] at k3
        exact k3
       refine⟨rfl,_,⟨(bC len).map fun i=>(f i).1,rfl,by simpa using dB hlc hcm,fun y hy=>?_⟩,.one rfl ?_⟩
       ·obtain⟨i,hi,rfl⟩:=aH.1 hy
        exact(hf i (by simpa using hi)).1
       ·have key:=VR.sval (ι:=[]) (ψ:=ri W) s1.size false (((bC len).map fun i=>(f i).1).map s1.mk) a.block a.off cap (fun i j=>(f i).2.getD j undef) (fun i e he=>?_) (by omega) (by simp) (fun i e j x he hx=>⟨(at' i e j x he hx).1,(at' i e j x he hx).2.1⟩) (fun i e j x he hx=>(at' i e j x he hx).2.2)
        ·rw [hL] at key
         rw [show (some a:Option Addr)=some ⟨a.block,a.off,none⟩ by rw [← hspot]]
         exact key
        ·obtain⟨hi,hc⟩:=get i e he
         rw [hc];exact Sk.has_size (hf i hi).1
      ·cases ht
    ·cases hs
   ·cases hs
  ·next fs hu =>
   split at hs
   ·next s1 h1 =>
    split at hs
    ·next hc =>
     have hs':=bi hs
     subst hs'
     simp only [DataW.trod,hu] at ht
     split at ht
     ·next hl =>
      obtain⟨xs,hm,_⟩:=aJ.1 ht
      obtain⟨ys,hy,hyr⟩:=th (fun t s cs x=>ih t s fuel cs x) fs.toList 0 s1 cs xs h1 hm (by omega) hsp
      exact⟨by omega,ys,hy,by simpa using hyr⟩
     ·cases ht
    ·cases hs
   ·cases hs
  ·next m e hu =>
   split at hs
   ·next s1 h1 =>
    split at hs
    ·next hc =>
     obtain⟨hc1,hc2⟩:=hc
     have hs':=bi hs
     subst hs'
     simp only [DataW.trod,hu] at ht
     split at ht
     ·next hl =>
      obtain⟨xs,hm,_⟩:=aJ.1 ht
      have hsp':m=0∨s1.noSl=true∨gS cs:=by
       cases m with
       | zero=>exact .inl rfl
       | succ m =>
        right
        rcases hsp with h | h
        ·simp only [Sk.rep,Sk.noSl,aj] at h;exact .inl h.1
        ·exact .inr h
      obtain⟨ys,hy,hyr⟩:=yZ (s:=s1) hc1 (g:=DataW.trod enc P W base spare held fuel e) (fun cs x hx hs=>ih e s1 fuel cs x h1 hx hs) m 0 cs (fun i hi=>by
       obtain⟨y,_,hy⟩:=Cl hm i i (by simp [hi])
       exact⟨y,by simpa using hy⟩) (by rw [hl,hc2,hc1];simp) hsp'
      refine⟨by rw [hl,hc2,sU],ys,hy,by simpa using hyr⟩
     ·cases ht
    ·cases hs
   ·cases hs
  ·cases hs
end
end Go.Fen
namespace Go.Fen
open Go.RowKit Go.ChangeShapes
section
variable {H:Type}{enc:TypeId × Value→H}{P:Program}{W:World}{base:Nat}{spare:Nat→Bool}{held:Bool}
theorem oG {r:Reach}{u:TypeId}{a:Addr}{n c:Nat} (h:Cell.okWide P W r base u (.slice (some a) n c)):a.spot=none:=by
 have h2:Cell.ok P W r base u (.slice (some a) n c):=by
  unfold Cell.okWide at h
  split at h<;>first | exact h | (rename_i h3;cases h3) | (rename_i h3 h4;cases h4)
 unfold Cell.ok at h2
 split at h2<;>try (rename_i h3 h4;cases h4)
 ·exact h2.2.2.2.1
 ·cases h2
theorem Bc {b2 n:Nat}{t:TypeId}{s:Sk}{v:Value}{d:DataW H}{ps:List MemPlace} (hs:Sk.of P n t=some s) (h:DataW.Trod enc P W base spare held t v d ps) (hok:nQ P W .any b2 t v):∃ xs,s.has xs∧VR [] (ri W) (s.mk xs) v:=by
 obtain⟨fuel,ht⟩:=h
 unfold nQ at hok
 by_cases hag:(∃ fs,P.underlying t=some (.struct fs))∨∃ m e,P.underlying t=some (.array m e)
 ·have hv:∃ cs,v=.agg cs∧cs.size=P.cellsOf t∧Row.okWide P W .any b2 t cs:=by
   rcases hag with⟨fs,hu⟩ | ⟨m,e,hu⟩<;>rw [hu] at hok<;>exact hok
  obtain⟨cs,rfl,_,ts,_,_,hrow⟩:=hv
  have hsp:gS (Value.agg cs).cells.toList:=by
   intro v hv a m c he
   obtain⟨i,hi⟩:=List.mem_iff_getElem?.1 hv
   obtain⟨u,_,hu⟩:=hrow i v (by simpa [pJ] using hi)
   subst he
   exact oG hu
  obtain⟨hl,xs,hx,hr⟩:=oM n t s fuel _ _ hs ht (.inr hsp)
  refine⟨xs,hx, ?_⟩
  have hagg:s.mk xs=.agg xs:=by
   cases n with
   | zero=>cases hs
   | succ n =>
   simp only [Sk.of] at hs
   rcases hag with⟨fs,hu⟩ | ⟨m,e,hu⟩
   ·simp only [hu] at hs
    split at hs
    ·next s1 h1 =>
     split at hs
     ·have hs':=bi hs
      subst hs'
      cases fl:fs.toList with
      | nil=>rw [fl] at h1;cases h1;rfl
      | cons f l =>
       rw [fl] at h1
       simp only [Sk.fields] at h1
       split at h1
       ·split at h1
        ·obtain⟨s2,_,rfl⟩:=aJ.1 h1;rfl
        ·cases h1
       ·cases h1
     ·cases hs
    ·cases hs
   ·simp only [hu] at hs
    split at hs
    ·split at hs
     ·have hs':=bi hs
      subst hs'
      cases m<;>rfl
     ·cases hs
    ·cases hs
  rw [hagg]
  refine .agg xs cs (by simpa [pJ] using hr.1) fun j x v h1 h2=>(hr.2 j x v h1 (by simpa [pJ] using h2)).2
 ·have hcell:Cell.okWide P W .any b2 t v:=by
   split at hok
   ·next fs hu=>exact absurd (.inl ⟨fs,hu⟩) hag
   ·next m e hu=>exact absurd (.inr ⟨m,e,hu⟩) hag
   ·exact hok
  have hnotagg:∀ cs,v≠.agg cs:=by
   rintro cs rfl
   have h2:Cell.ok P W .any b2 t (.agg cs):=by
    unfold Cell.okWide at hcell
    split at hcell<;>first | exact hcell | (rename_i h3;cases h3) | (rename_i h3 h4;cases h4)
   unfold Cell.ok at h2
   split at h2<;>first | (rename_i h3 h4;cases h4;done) | cases h2
  have hc:v.cells.toList=[v]:=by
   cases v<;>first | rfl | exact absurd rfl (hnotagg _)
  rw [hc] at ht
  have hsp:gS [v]:=by
   intro u hu a m c he
   simp at hu
   subst hu
   subst he
   exact oG hcell
  obtain⟨hl,xs,hx,hr⟩:=oM n t s fuel _ _ hs ht (.inr hsp)
  refine⟨xs,hx, ?_⟩
  have hna:s.isAgg=false:=by
   cases n with
   | zero=>cases hs
   | succ n =>
   simp only [Sk.of] at hs
   split at hs
   ·cases hs;rfl
   ·cases hs;rfl
   ·cases hs;rfl
   ·split at hs
    ·split at hs
     ·cases hs;rfl
     ·cases hs
    ·cases hs
   ·next fs hu=>exact absurd (.inl ⟨fs,hu⟩) hag
   ·next m e hu=>exact absurd (.inr ⟨m,e,hu⟩) hag
   ·cases hs
  have h1:xs.length=1:=hr.1
  match xs,h1 with
  | [x],_ =>
   have:s.mk [x]=x:=by simp [Sk.mk,hna]
   rw [this]
   exact(hr.2 0 x v rfl rfl).2
def qJ:List Sk→List AV→Prop
 | [],[]=>True
 | s::l,x::r=>(∃ xs,s.has xs∧x=s.mk xs)∧qJ l r
 | _,_=>False
theorem qJ.nil' {avs:List AV} (h:qJ [] avs):avs=[]:=by
 cases avs with
 | nil=>rfl
 | cons x r=>exact h.elim
theorem y3 {b2 n:Nat}:∀ (ts:List TypeId) (vs:List Value) (ds:List (DataW H)) (ps:List MemPlace) (sks:List Sk),DataW.TrodAll enc P W base spare held ts vs ds ps→ts.map (Sk.of P n)=sks.map some →
  (∀ (j:Nat) t v,ts[j]? = some t→vs[j]? = some v→nQ P W .any b2 t v)→∃ avs,qJ sks avs∧avs.length=vs.length∧∀ (j:Nat) (x:AV) (v:Value),avs[j]? = some x→vs[j]? = some v→VR [] (ri W) x v:=by
 intro ts
 induction ts with
 | nil =>
  intro vs ds ps sks h hsk _
  obtain⟨rfl,rfl,rfl⟩:=trodAll_nil h
  cases sks with
  | nil=>exact⟨[],trivial,rfl,fun j x v h=>by simp at h⟩
  | cons _ _=>simp at hsk
 | cons t ts ih =>
  intro vs ds ps sks h hsk hok
  obtain⟨v,vs',d,ds',p,q,rfl,rfl,rfl,h0,hr⟩:=trodAll_cons h
  cases sks with
  | nil=>simp at hsk
  | cons s sks =>
   simp only [aA,iI] at hsk
   obtain⟨xs,hx,hv⟩:=Bc hsk.1 h0 (hok 0 t v rfl rfl)
   obtain⟨avs,ha,hl,hvr⟩:=ih vs' ds' q sks hr hsk.2 (fun j t v h1 h2=>hok (j+1) t v h1 h2)
   refine⟨s.mk xs::avs,⟨⟨xs,hx,rfl⟩,ha⟩,by simp [hl],fun j x u h1 h2=>?_⟩
   cases j with
   | zero=>cases h1;cases h2;exact hv
   | succ j=>exact hvr j x u h1 h2
theorem pM (hl:laidOutB P=true){W':World} (hb:Below W.heap.size W W'):∀ (ts:List TypeId) (vs:List Value) (ds:List (DataW H)) (ps:List MemPlace),(∀ t∈ts,P.readableRec t=true∧t<P.types.size) →
  DataW.TrodAll enc P W 0 (fun _=>true) true ts vs ds ps→(∀ x∈ps,x.block<W.heap.size)→DataW.TrodAll enc P W' 0 (fun b=>decide (b<W.heap.size)) true ts vs ds ps:=by
 intro ts
 induction ts with
 | nil =>
  intro vs ds ps _ h _
  obtain⟨rfl,rfl,rfl⟩:=trodAll_nil h
  exact rfl
 | cons t ts ih =>
  intro vs ds ps hr h hlt
  obtain⟨v,vs',d,ds',p,q,rfl,rfl,rfl,h0,hrest⟩:=trodAll_cons h
  exact⟨p,q,Below.trod hl (hr t (cV ..)).1 (hr t (cV ..)).2 h0 hb (fun x hx=>hlt x (by simp [hx])),ih vs' ds' q (fun t ht=>hr t (fa _ ht)) hrest (fun x hx=>hlt x (by simp [hx])),rfl⟩
theorem xj {f:FuncId}{fn:Func}{s:ChangeSpec}{n:Nat} (sks:List Sk){fresh handsOn:Bool} (hl:laidOutB P=true) (hps:∀ t∈fn.params.toList,P.readableRec t=true∧t<P.types.size) (hsk:fn.params.toList.map (Sk.of P n)=sks.map some)
  {tb:TypeId} (hres:fn.resultTypes=#[tb]) (htb:P.underlying tb=some .bool) (hvars:s.vars=[])
  {args:Array Value}{ds gs:List (DataW H)}{before:List MemPlace} (hspec:ds.length=fn.params.size→s.fn H (ds++[])={ results:=[.lit (.bool true)],args:=ds })
  (hW:DataW.Whole enc P fn.params.toList s.vars false W args.toList ds gs before) (hval:∀ (j:Nat) t v,fn.params[j]? = some t→args[j]? = some v→nQ P W .any base t v)
  (k:∀ avs,qJ sks avs→ao P W f avs [] (fun out _=>out=.ret (.bool true))) :
  Calls P f args W fun e W'=>∃ v,e=.returned v∧s.post enc P fn false fresh handsOn false W args v W':=by
 have hW':=hW
 obtain⟨p,q,hA,hV,hbq,hfz,hnd⟩:=hW
 have hlt:∀ x∈before,x.block<W.heap.size:=fun x hx=>by simpa using hW'.lt x hx
 have hlen:ds.length=fn.params.size:=by
  have key:∀ (ts:List TypeId) (vs:List Value) (ds:List (DataW H)) (ps:List MemPlace),DataW.TrodAll enc P W 0 (fun _=>true) true ts vs ds ps→ds.length=ts.length:=by
   intro ts
   induction ts with
   | nil=>intro vs ds ps h;obtain⟨_,rfl,_⟩:=trodAll_nil h;rfl
   | cons t ts ih=>intro vs ds ps h;obtain⟨v,vs',d,ds',p,q,_,rfl,_,_,hr⟩:=trodAll_cons h;simp [ih _ _ _ hr]
  simpa using key _ _ _ _ hA
 rw [hvars] at hV
 cases gs with
 | cons _ _=>exact absurd hV (by simp [DataW.TrodVars])
 | nil =>
 obtain rfl:q=[]:=by simpa [DataW.TrodVars] using hV
 obtain⟨avs,ha,hal,hvr⟩:=y3 (b2:=base) _ _ _ _ sks hA hsk (fun j t v h1 h2=>hval j t v (by simpa using h1) (by simpa using h2))
 obtain⟨_,hk⟩:=k avs ha
 refine(hk [] (ri W) W args (b7.start W) (by simpa using hal) (fun j x c h1 h2=>hvr j x c h1 (by simpa using h2))).mono ?_
 rintro e W' ⟨ι',ψ',out,S',_,hR,ho,rfl⟩
 have he:e=.returned (.bool true):=by
  cases e with
  | returned v=>rw [VR.bool_inv (show VR ι' ψ' (.bool true) v from ho)]
  | _=>exact absurd ho (by simp [kP])
 subst he
 refine⟨_,rfl,ds,[],before,[],before,[],hW', ?_, ?_, ?_,hR.below.frame _,fun h=>by cases h⟩
 ·rw [hspec hlen,hres]
  simp only [eR,aI,aU]
  exact trodAll_mk1 (shut_bool htb _)
 ·rw [hspec hlen,hbq,aE]
  exact pM hl hR.below _ _ _ _ hps hA (fun x hx=>hlt x (by rw [hbq];simp [hx]))
 ·rw [hspec hlen,hvars]
  exact rfl
end
end Go.Fen
