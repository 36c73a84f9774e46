/- YthdbijpefkapnaaGreatDoorCore3. Texts of the proof of a law about texts: a layer of abstract values above the worlds, the types, the walks of the functions that the law reaches, the law and its card. Own work of an AI agent. -/
import Derived.Test.YthdbijpefkapnaaGreatDoorCore2
import Derived.Lib.ConvBytes
import Derived.Lib.AtoiErrMem
set_option linter.all false
set_option linter.unusedVariables false
set_option linter.unusedSimpArgs false
open Array renaming any_eq_true' → pK, ext_getElem? → ma, getD → kf, getD_eq_getD_getElem? → aK, getElem?_append_left → lC, getElem?_eq_getElem → bN, getElem?_eq_none → dB, getElem?_eq_some_iff → bH, getElem?_setIfInBounds → ct, getElem?_setIfInBounds_ne → ke, getElem?_toList → bR, length_toList → fJ, mapM_eq_mapM_toList → yo, replicate → cr
open Bool renaming and_eq_true → aB, false_eq_true → du, false_or → kZ, not_eq_false' → aA, not_eq_true' → ax, not_true → cC
open Go.Instr renaming sliceAt → gy, sliceBound → HG, sliceBounds → eB, sureAddr → eJ
open Go.Op renaming operands → bV
open Go.Region renaming binds → eS, free_spec → EF, ready → c_
open Go.Result renaming andThen → Ho, andThen_ok → dd
open Go.RowKit renaming Below → mA
open Go.RowKit.Below renaming refl → Ch
open Go.Sem renaming run_bind → cS
open Go.Value renaming int → eT
open Go.World renaming block_lt_of_cell? → gN, cell? → qs
open List renaming all_cons → AG, all_eq_true → aF, append_assoc → ai, cons_append → al, countP_cons → ET, countP_le_length → jX, drop_eq_nil_of_le → Cg, drop_zero → aq, filterMap_cons_some → zG, filter_append → HE, getElem?_append_left → aJ, getElem?_append_right → aM, getElem?_drop → dr, getElem?_eq_getElem → aC, getElem?_eq_none → cT, getElem?_eq_some_iff → aw, getElem?_inj → ye, getElem?_map → aQ, getElem?_set_ne → cN, getElem?_take → bu, getElem?_toArray → gJ, length → lz, length_append → ab, length_cons → ah, length_map → bB, map_append → co, map_cons → aG, mem_append → dg, mem_append_left → ly, mem_append_right → dR, mem_cons → dj, mem_cons_of_mem → ia, mem_cons_self → dL, mem_filter → qU, mem_filterMap → tw, mem_map → aX, mem_map_of_mem → dq, mem_of_getElem? → aI, mem_range → cB, nil_append → ap, nodup_cons → pJ, range → bJ, set_append_left → qS, set_append_right → ef, size_toArray → fj, take_length → bQ
open Nat renaming add_assoc → uK, le_refl → bg, le_trans → fb, strongRecOn → Hw, zero_add → dw, zero_le → bI
open Option renaming getD_some → ER, map_some → dF
open Option.some renaming injEq → bM
open Prod renaming fst → cK
namespace Go.Fen
open Go.RowKit
variable {P:Program}{w0 w w':World}{ι:List Pl}{ψ:eA}{S:List aH}
theorem bP.app {S0 L:List aH} (h:bP S0) (hL:L.all (fun B=>B.ltB (S0.length+L.length))=true):bP (S0++L):=by
 intro j B hB
 rw [ab]
 by_cases hj:j<S0.length
 ·rw [aJ hj] at hB
  exact aH.ltB_mono (by omega) (h j B hB)
 ·rw [aM (by omega)] at hB
  exact aF.1 hL B (aI hB)
theorem bP.set {S0:List aH}{a:Nat}{B:aH} (h:bP S0) (hB:B.ltB S0.length=true):bP (S0.set a B):=by
 intro j C hC
 rw [List.length_set]
 by_cases hj:j=a
 ·subst hj
  by_cases hl:j<S0.length
  ·simp [hl] at hC;subst hC;exact hB
  ·rw [cT (by simp;omega)] at hC;cases hC
 ·rw [cN (fun e=>hj e.symm)] at hC
  exact h j C hC
theorem oa {S0 S2 L:List aH} (hO:bP S2) (hl:S2.length=S0.length):gu S0.length S0 (S2++L):=by
 intro j B hj hB
 rw [aJ (by omega)] at hB
 have:=hO j B hB
 rw [hl] at this
 exact .inr this
theorem D6 {F:Func}{S0 S S2 L:List aH}{R:ed→List aH→Prop}{ms vs:List AV}{env:dK}{v:AV} (h0:env DS=.dfr ms) (h01:fw ms S=some (S2++L)) (hl:S2.length=S0.length) (hO:bP S2) (h1:gW P env (S2++L) F.results.toList=some vs)
  (h3:conv (S2++L) (fun a=>decide (S2.length≤a)) 4 (dy vs)=v) (h4:v.lt S2.length=true) (h:R (.ret v) S2):kX P F S0 R .ret env S:=by
 subst h3
 refine⟨ms,S2++L,vs,h0,h01,h1,oa hO hl, ?_, ?_⟩
 ·rw [← hl];exact h4
 ·rw [← hl,List.take_left];exact h
theorem Kv {F:Func}{S0 S S2 L:List aH}{R:ed→List aH→Prop}{ms vs:List AV}{env:dK}{v:AV} (h0:env DS=.dfr ms) (h01:fw ms S=some (S2++L)) (hl:S2.length=S0.length) (hO:bP S2) (h1:gW P env (S2++L) F.results.toList=some vs)
  (h3:conv (S2++L) (fun a=>decide (S2.length≤a)) 4 (dy vs)=v) (h4:v.lt S2.length=true) (h:R (.ret v) S2):kX P F S0 R .normal env S:=D6 (F:=F) h0 h01 hl hO h1 h3 h4 h
theorem d8 {n0 N:Nat}{r:Option Nat}{Q:cR}{k:List TI}{env:dK}{i:KI}{S0 L:List aH} (hO:bP S0) (m:Nat) (sl:List Nat) (hn:n0=S0.length) (hds:(env DS).lt (S0.length+m)=true) (hsl:sl.all (fun t=>(env t).lt (S0.length+m))=true) (hL:(L.take m).all (fun B=>B.ltB (S0.length+m))=true)
  (h:ba P w0 n0 N r (.it i::k) Q .normal (iV sl env) (S0++L.take m)):ba P w0 n0 N r (.it i::k) Q .normal env (S0++L):=fq hO m sl hn hds hsl hL h
theorem nt {n0 N:Nat}{r:Option Nat}{Q:cR}{k:List TI}{env:dK}{all:Array Oper}{o:Oper}{l:List Oper}{fop:Operand}{args:Array Operand}{tys:Array TypeId}{a:Nat}{A:List AV}
  (hg:cG all env o=some true) (ho:o.op=.call ⟨.value fop,args,tys⟩) (hf:bK w0 env fop=.yld a) (hd:fg N o.dst=true) (hA:args.toList.map (bK w0 env)=A)
  (h:YA P w0 a A S (aR P w0 n0 N r all l k Q env o.dst)) :
  ba P w0 n0 N r (.it (.ops all (o::l))::k) Q .normal env S:=by
 subst hA
 exact Cr hg ho hf hd h
theorem vq (n:Nat) (S:List aH):gu n S S=True:=eq_true fun _ _ _ h=>.inl h
theorem GI {S L:List aH}{a:Nat} (h:a<S.length):(S++L)[a]? = S[a]?:=aJ h
theorem E9 {S L:List aH}{a:Nat}{B:aH} (h:a<S.length):(S++L).set a B=S.set a B++L:=qS _ _ h
theorem GH (S:List aH) (a:Nat) (B:aH):(S.set a B)[a]? = (S[a]?).map (fun _=>B):=by
 by_cases h:a<S.length
 ·simp [h]
 ·rw [cT (by simp;omega),cT (by omega)];rfl
theorem set_set (S:List aH) (a:Nat) (B C:aH):(S.set a B).set a C=S.set a C:=List.set_set ..
theorem Gx (S:List aH) (a:Nat) (B:aH):(S.set a B).length=S.length:=List.length_set ..
theorem D5 {F:Func}{S0 S S2:List aH}{R:ed→List aH→Prop}{ms vs:List AV}{env:dK}{v:AV} (h0:env DS=.dfr ms) (h01:fw ms S=some S2) (h1:gW P env S2 F.results.toList=some vs)
  (h3:conv S2 (fun a=>decide (S0.length≤a)) 4 (dy vs)=v) (h4:v.lt S0.length=true) (hO:bP S2) (hl:S2.length=S0.length) (h:R (.ret v) S2):kX P F S0 R .ret env S:=by
 subst h3
 refine⟨ms,S2,vs,h0,h01,h1, ?_,h4, ?_⟩
 ·have:=oa (L:=[]) hO hl
  simpa using this
 ·have e:S2.take S0.length=S2:=by rw [← hl];exact bQ
  rw [e];exact h
theorem Ku {F:Func}{S0 S S2:List aH}{R:ed→List aH→Prop}{ms vs:List AV}{env:dK}{v:AV} (h0:env DS=.dfr ms) (h01:fw ms S=some S2) (h1:gW P env S2 F.results.toList=some vs)
  (h3:conv S2 (fun a=>decide (S0.length≤a)) 4 (dy vs)=v) (h4:v.lt S0.length=true) (hO:bP S2) (hl:S2.length=S0.length) (h:R (.ret v) S2):kX P F S0 R .normal env S:=D5 (F:=F) h0 h01 h1 h3 h4 hO hl h
theorem Gz (S:List aH) (a b:Nat):S.length+a+b=S.length+(a+b):=uK _ _ _
def YB (P:Program) (w0:World) (a n N rb:Nat) (LB BB:aH) (R:ed→List aH→Prop) (body:Code):cR :=
 fun x env1 S1=>x=.normal∧S1[a]? = some LB∧ba P w0 n N (some rb) [.it (.code body)] (uH a R) .normal env1 (S1.set a BB)
theorem rD {LB:aH}{a N:Nat}{tm:List (Nat × AV)}{ps:Array Tmp}{asg body:Code}{args:List AV}{E:dK}{R:ed→List aH→Prop} (hLB:LB=.loop .ready none N tm ps asg body) (hS:S[a]? = some LB) (hps:ps.size=args.length) (hN:decide (N≤DS)=true)
  (htm:tm.all (fun p=>decide (p.1<N))=true) (hpp:ps.toList.all (fun p=>decide (p<N))=true) (hE:wS (tN tm) (ps.toList.zip args)=E)
  (h:∀ rb BB,BB=.loop .busy none N tm ps asg body→ba P w0 S.length N (some rb) [.it (.code asg)] (YB P w0 a S.length N rb LB BB R body) .normal E S):YA P w0 a args S R:=by
 subst hLB hE
 refine⟨none,N,tm,ps,asg,body,hS,hps,by simpa using hN,fun p hp=>by simpa using aF.1 htm p hp,fun p hp=>by simpa using aF.1 hpp p hp,fun rb=>Dc ?_ (h rb _ rfl)⟩
 rintro x e S1 ⟨rfl,h1,h2⟩
 exact⟨rfl,none,h1,h2⟩
theorem rC {a n N rb:Nat}{LB BB:aH}{R:ed→List aH→Prop}{body:Code}{env:dK}{S2:List aH} (h1:S[a]? = some LB) (h2:S.set a BB=S2) (h:ba P w0 n N (some rb) [.it (.code body)] (uH a R) .normal env S2):YB P w0 a n N rb LB BB R body .normal env S:=by
 subst h2;exact⟨rfl,h1,h⟩
theorem Jd {a N:Nat}{R:ed→List aH→Prop}{env:dK}{LB BB:aH}{tm:List (Nat × AV)}{ps:Array Tmp}{asg body:Code}{S1:List aH} (hLB:LB=.loop .ready none N tm ps asg body) (hBB:BB=.loop .busy none N tm ps asg body) (h:S[a]? = some BB) (h1:S.set a LB=S1) (h2:R (.ret (.bool true)) S1):uH a R .normal env S:=by
 subst h1 hLB hBB;exact⟨_,_,N,tm,ps,asg,body,h,h2⟩
theorem eU {a:Nat}{R:ed→List aH→Prop}:KT (uH a R):=fun _ _ _ _ _ h=>h
theorem iQ {a n N rb:Nat}{LB BB:aH}{R:ed→List aH→Prop}{body:Code}:KT (YB P w0 a n N rb LB BB R body):=fun _ _ _ _ _ h=>absurd h.1 (by simp)
theorem rF {n0 N:Nat}{Q:cR}{k:List TI}{env:dK}{g:Operand}{ps:Array Tmp}{asg body:Code}{f:FuncId}{first cap ds A:List AV}{tm:List (Nat × AV)} (keep:List Nat) (hf:bK w0 env g=.fn (.func f) first cap) (hds:env DS=.dfr ds)
  (hk:keep.all (fun t=>decide (t<N))=true) (hA:first++[.yld (S.length+1)]++cap=A) (hT:(keep.map fun t=>(t,env t))=tm)
  (h:∀ LB,LB=aH.loop .ready none N tm ps asg body→az P w0 f A (S++[.obj (.deferred (some [])),LB]) (oE P w0 n0 N (S.length+1) k Q (eO env DS (.dfr (.own S.length 0::ds))))) :
  ba P w0 n0 N none (.it (.code (.rangeFunc g ps asg body))::k) Q .normal env S:=by
 subst hA hT
 exact ww keep hf hds hk (h _ rfl)
theorem wd {n0 N m:Nat}{k:List TI}{Q:cR}{env:dK}{v:AV}{LB XB:aH}{N':Nat}{tm:List (Nat × AV)}{ps:Array Tmp}{asg body:Code}{S1:List aH} (hLB:LB=.loop .ready none N' tm ps asg body) (hXB:XB=.loop .exhausted none N' tm ps asg body) (hS:S[m]? = some LB) (h1:S.set m XB=S1)
  (h:ba P w0 n0 N none k Q .normal env S1):oE P w0 n0 N m k Q env (.ret v) S:=by
 subst hLB hXB h1;exact⟨.ready,none,N',tm,ps,asg,body,hS,rfl,h⟩
attribute [go_sem] vq GI E9 GH set_set Gx Gz wS tN List.foldr_cons List.foldr_nil List.zip_cons_cons List.zip_nil_left List.zip_nil_right
end Go.Fen
namespace Go.Fen
open Go.RowKit
variable {P:Program}{w0 w w':World}{ι:List Pl}{ψ:eA}{S:List aH}
theorem di.mperm (h:di w0 ι ψ S w){a:Nat}{fz:Bool}{es es':List (AV × AV)} (hS:S[a]? = some (.mp fz es)) (hp:es.Perm es'):di w0 ι ψ (S.set a (.mp fz es')) w:=by
 have hal:a<S.length:=(aw.1 hS).1
 have back:∀ (i:Nat) (B:aH),(S.set a (.mp fz es'))[i]? = some B→∃ B0,S[i]? = some B0∧∀ p,B0.at p=B.at p:=by
  intro i B hB
  by_cases hi:i=a
  ·subst hi
   simp [hal] at hB
   subst hB
   exact⟨_,hS,fun _=>rfl⟩
  ·rw [cN (by omega)] at hB
   exact⟨B,hB,fun _=>rfl⟩
 refine⟨h.below,h.psi,h.psim,by simp [h.len],fun i B q hB hq=>?_,h.old,fun i j B C p q k hB hC hp hq hk1 hk2=>?_⟩
 ·by_cases hi:i=a
  ·subst hi
   simp [hal] at hB
   subst hB
   obtain⟨h0,hn,⟨me,c,l,h1,h2,h3,h4,h5⟩,h6⟩:=h.blk i _ q hS hq
   exact⟨h0,(hp.map cK).nodup_iff.1 hn,⟨me,c,l,h1,h2,h3.trans hp,h4,h5⟩,h6⟩
  ·rw [cN (by omega)] at hB
   exact h.blk i B q hB hq
 ·obtain⟨B0,e1,e2⟩:=back i B hB
  obtain⟨C0,e3,e4⟩:=back j C hC
  exact h.inj i j B0 C0 p q k e1 e3 hp hq (by rw [e2];exact hk1) (by rw [e4];exact hk2)
section
variable {n0 N:Nat}{r:Option Nat}{Q:cR}{k:List TI}{env:dK}
theorem oT {i:KI} (a:Nat){fz:Bool}{es es':List (AV × AV)}{S1:List aH} (hS:S[a]? = some (.mp fz es)) (hp:es.Perm es') (h1:S.set a (.mp fz es')=S1) (h:ba P w0 n0 N r (.it i::k) Q .normal env S1):ba P w0 n0 N r (.it i::k) Q .normal env S:=by
 subst h1
 intro ι ψ w ac hR hE
 exact h ι ψ w ac (hR.mperm hS hp) hE
theorem HX {all:Array Oper}{o:Oper}{l:List Oper}{t kt et:TypeId}{m x y:Operand}{a:Nat}{es:List (AV × AV)}{K V:AV}{S1:List aH} (hg:cG all env o=some true) (ho:o.op=.mapUpdate t m x y) (hu:P.underlying t=some (.map kt et)) (hm:bK w0 env m=.mown a) (hx:bK w0 env x=K) (hy:bK w0 env y=V)
  (hS:S[a]? = some (.mp false es)) (hk:fI P kt K=true) (hall:es.all (fun e=>fI P kt e.1)=true) (hf:es.any (fun e=>kR K e.1)=false) (hd:fg N o.dst=true) (h1:S.set a (.mp false (es++[(K,V)]))=S1)
  (h:ba P w0 n0 N r (.it (.ops all l)::k) Q .normal (putA env o.dst (.tup [])) S1):ba P w0 n0 N r (.it (.ops all (o::l))::k) Q .normal env S:=by
 subst h1
 refine cF hg ?_ hd h
 rw [ho]
 simp only [en,eF,hu,hm,hS,hx,hy,hk,hall,j6,hf,Bool.and_self,if_true,du,if_false]
end
theorem lN {kt:TypeId}{es:List (AV × AV)}{K:AV} (hk:fI P kt K=true) (hall:∀ e∈es,fI P kt e.1=true) (hn:K∉es.map cK):es.any (fun e=>kR K e.1)=false:=by
 rw [List.any_eq_false]
 intro e he hq
 have:=(jv hk (hall e he)).1 hq
 exact hn (this▸dq he)
end Go.Fen
namespace Go.Fen
open Go.RowKit
section
variable {P:Program}{w0:World}{n0 N:Nat}{r:Option Nat}{ops:Array Oper}{Q:cR}{k:List TI}{env:dK}{S:List aH}
theorem zq {i:Nat}{oi:Oper}{v:AV}{fp:List Nat} (hi:ops[i]? = some oi) (hd:fg N oi.dst=true) (hQ:∀ u env S,Q (.panic u) (putA env oi.dst v) S→Q (.panic u) env S) :
  ∀ (f:Nat) (listed:Array Bool) (prot:List (Nat × List Nat)) (env:dK) (S:List aH),
   (∀ j oj,ops[j]? = some oj→j≠i→listed.getD j true=false→(∀ e∈oj.after,eS .any e=true→e.on≠i)→oi.apart ops oj=true) →
   i∈c_ .any ops listed→pD w0 P ops oi v fp env S→dI P w0 n0 N r ops k Q f (listed.setIfInBounds i true) ((i,fp)::prot) (putA env oi.dst v) S→dI P w0 n0 N r ops k Q (f+1) listed prot env S:=by
 intro f
 induction f with
 | zero =>
  intro listed prot env S hfree hr hrd h
  refine⟨fun e=>(by rw [e] at hr;cases hr),fun j hj=>?_⟩
  by_cases hji:j=i
  ·subst hji
   refine⟨oi,hi,hd, ?_⟩
   rcases hrd with⟨h1,h2⟩ | ⟨h1,h2,h3,h4⟩
   ·subst h2
    exact .inl ⟨h1,gj,f_ _ _ _ _ h⟩
   ·exact .inr (.inl ⟨h1,v,S,h4,gj,f_ _ _ _ _ h⟩)
  ·have:=ready_mono hj hji
   rw [h.1] at this;cases this
 | succ f ih =>
  intro listed prot env S hfree hr hrd h
  refine⟨fun e=>(by rw [e] at hr;cases hr),fun j hj=>?_⟩
  by_cases hji:j=i
  ·subst hji
   refine⟨oi,hi,hd, ?_⟩
   rcases hrd with⟨h1,h2⟩ | ⟨h1,h2,h3,h4⟩
   ·subst h2
    exact .inl ⟨h1,gj,f_ _ _ _ _ h⟩
   ·exact .inr (.inl ⟨h1,v,S,h4,gj,f_ _ _ _ _ h⟩)
  ·obtain⟨hun,oj,hoj,hall⟩:=mem_ready.1 hj
   have hiu:listed.getD i false=false:=by
    have:=(mem_ready.1 hr).1
    simp only [aK] at this ⊢
    cases e:listed[i]? with
    | none=>rfl
    | some b=>rw [e] at this;simpa using this
   have hno:∀ e∈oj.after,eS .any e=true→e.on≠i:=fun e he hb heq=>by
    have:=hall e he hb
    rw [heq,hiu] at this;cases this
   have hap:=hfree j oj hoj hji hun hno
   obtain⟨a1,a2,a3⟩:=Oper.apart_spec hap
   have hrel:j7 ops j i=true:=by
    unfold j7
    simp only [hoj]
    simp only [ax,Array.any_eq_false']
    intro e he
    by_cases hb:eS .any e=true
    ·simp [hb,hno e he hb]
    ·simp [hb]
   obtain⟨o,ho,hdj,hcase⟩:=h.2 j (ready_mono hj hji)
   rw [hoj] at ho;cases ho
   have hcomm:(listed.setIfInBounds i true).setIfInBounds j true=(listed.setIfInBounds j true).setIfInBounds i true:=by
    apply ma
    intro m
    simp only [ct]
    by_cases h1:i=m<;>by_cases h2:j=m<;>simp_all
   have hop:=lJ (w0:=w0) (env:=env) (v:=v) a1
   have hgd:=lP (env:=env) (v:=v) a1
   have next:∀ (u:AV) (S':List aH),(cU ops j ((i,fp)::prot) S S'∧dI P w0 n0 N r ops k Q f ((listed.setIfInBounds i true).setIfInBounds j true) ((i,fp)::prot) (putA (putA env oi.dst v) oj.dst u) S') →
     cU ops j prot S S'∧dI P w0 n0 N r ops k Q (f+1) (listed.setIfInBounds j true) prot (putA env oj.dst u) S':=by
    rintro u S' ⟨hp,hk⟩
    refine⟨hp.2,ih _ prot _ S' ?_ (ready_mono hr (fun e=>hji e.symm)) (hrd.later a3 (hp.1 hrel)) ?_⟩
    ·intro m om hom hmi hmu hmno
     refine hfree m om hom hmi ?_ hmno
     by_cases hmj:m=j
     ·subst hmj
      simp only [aK,ct] at hmu ⊢
      by_cases hlt:m<listed.size
      ·simp [hlt] at hmu
      ·simp [hlt] at hmu
     ·rw [getD_set_ne true (fun e=>hmj e.symm)] at hmu;exact hmu
    ·rw [← hcomm,← t8 a2];exact hk
   refine⟨oj,hoj,hdj, ?_⟩
   rcases hcase with⟨b1,b2⟩ | ⟨b1,u,S',b2,b3⟩ | ⟨b1,fop,args,tys,fn,first,cap,sh,b2,b3,b4⟩
   ·exact .inl ⟨by rw [← hgd];exact b1,next _ _ b2⟩
   ·exact .inr (.inl ⟨by rw [← hgd];exact b1,u,S',by rw [← jB hop];exact b2,next _ _ b3⟩)
   ·have hargs:args.toList.map (bK w0 (putA env oi.dst v))=args.toList.map (bK w0 env):=jh fun y hy=>hop y (by rw [b2];simp [bV,Call.operands];exact .inr (by simpa using hy))
    have hfop:bK w0 (putA env oi.dst v) fop=bK w0 env fop:=hop fop (by rw [b2];simp [bV,Call.operands])
    refine .inr (.inr ⟨by rw [← hgd];exact b1,fop,args,tys,fn,first,cap,sh,b2,by rw [← hfop];exact b3, ?_⟩)
    rw [hargs] at b4
    refine b4.mono fun out S' hk=>?_
    cases out with
    | ret u=>exact next u S' hk
    | panic u=>exact hQ u _ _ hk
def vh:ResultVar→Nat
 | .tmp t=>t
 | .cell t _=>t
theorem Bc {d:Nat}{x:AV}:∀ {l:List ResultVar},(l.all fun y=>!(vh y==d))=true→gW P (eO env d x) S l=gW P env S l:=by
 intro l
 induction l with
 | nil=>intro _;rfl
 | cons y l ih =>
  intro h
  simp only [AG,aB] at h
  have hy:vh y≠d:=by have:=h.1;simpa using this
  have h1:yD P (eO env d x) S y=yD P env S y:=by
   cases y<;>simp only [vh] at hy<;>simp only [yD,eO,if_neg hy]
  simp only [gW,h1,ih h.2]
def rp (F:Func) (d:Option Nat):Bool:=match d with
 | none=>true
 | some d=>(F.results.toList.all fun y=>!(vh y==d))&&!(d==DS)
theorem QH {F:Func}{S0:List aH}{R:ed→List aH→Prop}{d:Option Nat}{v:AV} (hd:rp F d=true):∀ u env S,oK P w0 F S0 R (.panic u) (putA env d v) S→oK P w0 F S0 R (.panic u) env S:=by
 intro u env S h
 cases d with
 | none=>exact h
 | some d =>
  simp only [rp,aB] at hd
  have hds:DS≠d:=by have:=hd.2;simp at this;exact fun e=>this e.symm
  obtain⟨g,first,cap,h1,h2⟩:=h
  refine⟨g,first,cap, ?_, ?_⟩
  ·rw [← h1];simp only [putA,eO,if_neg hds]
  ·have:uG P F S0 (putA env (some d) v) R=uG P F S0 env R:=by
    funext S'
    simp only [uG,putA,Bc hd.1]
   rwa [this] at h2
theorem GZ (i:Nat){F:Func}{S0:List aH}{R:ed→List aH→Prop}{f:Nat}{listed:Array Bool}{prot:List (Nat × List Nat)}{oi:Oper}{v:AV}{fp:List Nat} (hn:qF ops listed=some i) (hi:ops[i]? = some oi) (hg:cG ops env oi=some true) (hs:en P S (bK w0 env) oi.op=some (v,S))
  (hd:fg N oi.dst=true) (hf:rp F oi.dst=true) (hfp:mv (bK w0 env) oi.op=fp) (h:dI P w0 n0 N r ops k (oK P w0 F S0 R) f (listed.setIfInBounds i true) ((i,fp)::prot) (putA env oi.dst v) S):dI P w0 n0 N r ops k (oK P w0 F S0 R) (f+1) listed prot env S:=by
 obtain⟨h1,h2,h3⟩:=oe hn
 exact zq hi hd (QH hf) f listed prot env S (EF hi h3) h1 (.inr ⟨hg,h2 _ hi,hfp,hs⟩) h
theorem ij {i p:Nat}{q:List Nat}{prot:List (Nat × List Nat)}{S S':List aH} (hp:j7 ops i p=false) (h:cU ops i prot S S'):cU ops i ((p,q)::prot) S S':=j8 hp h
end
end Go.Fen
namespace Go.Fen
open Go.RowKit
section
variable {P:Program}{w0 w:World}{ι:List Pl}{ψ:eA}{n0 N:Nat}{r:Option Nat}{Q:cR}{k:List TI}{env:dK}{S:List aH}
def jn (b:UInt8):AV:=.int .u8 (b.toNat:Int)
theorem di.bytes (h:di w0 ι ψ S w) (e:TypeId) (s:ByteArray) :
  ∃ ψ',ψ.le ψ'∧di w0 ι ψ' S (Lib.bytesWorld w e s)∧∀ cap,s.size≤cap→VR ι ψ' (.sval false (s.data.toList.map jn)) (.slice (some ⟨w.heap.size,0,none⟩) s.size cap):=by
 let ψ':eA:=⟨fun b o=>if b=w.heap.size then (if o<s.size then some (.int .u8 ((s.data.toList.getD o 0).toNat:Int)) else none) else ψ.c b o,ψ.m⟩
 have hfresh:∀ o v,ψ.c w.heap.size o=some v→False:=fun o v e=>by
  have:=gN w _ (h.psi _ _ _ e)
  simp at this
 have hle:ψ.le ψ':=⟨fun b o v e=>by
  by_cases hb:b=w.heap.size
  ·subst hb;exact absurd e (fun e=>hfresh _ _ e)
  ·simp only [ψ',if_neg hb];exact e,fun b es e=>e⟩
 refine⟨ψ',hle,h.grow ((Lib.bytesWorld_below w e s).mono h.n0) (fun j hj=>Lib.bytesWorld_at_old w e s j hj) hle (fun b o v e'=>?_) (fun b es c e'=>.inl e'),fun cap hcap=>?_⟩
 ·simp only [ψ'] at e'
  split at e'
  ·next hb =>
   subst hb
   split at e'
   ·next ho =>
    cases e'
    exact .inr ⟨bg _,Lib.bytesWorld_cell w e s o ho⟩
   ·cases e'
  ·exact .inl e'
 ·have hl:(s.data.toList.map jn).length=s.size:=by rw [bB,fJ];rfl
  have key:=VR.sval (ι:=ι) (ψ:=ψ') 1 false (s.data.toList.map jn) w.heap.size 0 cap (fun i _=>.int .u8 ((s.data.toList.getD i 0).toNat:Int)) ?_ (by omega) (by simp) ?_ ?_
  ·rw [hl] at key;exact key
  ·intro i x hx
   obtain⟨y,_,rfl⟩:=aX.1 (aI hx)
   rfl
  ·intro i x j y hx hy
   have hi:i<s.size:=by have:=(aw.1 hx).1;omega
   obtain⟨z,_,rfl⟩:=aX.1 (aI hx)
   cases j with
   | zero=>cases hy;exact⟨rfl,by simp [ψ',hi]⟩
   | succ j=>simp [jn,AV.cells] at hy
  ·intro i x j y hx hy
   rw [aQ] at hx
   cases hz:s.data.toList[i]? with
   | none=>rw [hz] at hx;cases hx
   | some z =>
    rw [hz] at hx
    cases hx
    cases j with
    | zero =>
     cases hy
     simp only [List.getD,hz,ER]
     exact .int _ _
    | succ j=>simp [jn,AV.cells] at hy
theorem oU {all:Array Oper}{o:Oper}{l:List Oper}{src dst e:TypeId}{u:TypeDesc}{x:Operand}{s:List UInt8} (hg:cG all env o=some true) (ho:o.op=.convert src dst x) (hs:P.underlying src=some u) (hd:P.underlying dst=some (.slice e)) (he:P.underlying e=some (.int .u8))
  (hx:bK w0 env x=.str s) (hds:fg N o.dst=true) (h:ba P w0 n0 N r (.it (.ops all l)::k) Q .normal (putA env o.dst (.sval false (s.map jn))) S):ba P w0 n0 N r (.it (.ops all (o::l))::k) Q .normal env S:=by
 intro ι ψ w a hR hE
 have hw:=dt hE hg
 refine ew hw (fun c hc=>by rw [hc] at ho;cases ho) ?_
 have hv:=hE.eval hR x
 rw [hx] at hv
 generalize hcx:a.eval x=cx at hv
 cases hv with
 | str _ b hb =>
  subst hb
  have hres:(execOp a.eval o).run P w=.ok (.value (.slice (some ⟨w.heap.size,0,none⟩) b.size (grownCap w b.size 0 e))) (Lib.bytesWorld w e b):=by
   have:=Lib.run_convert_string_bytes (P:=P) w src dst e b hs hd he
   simp [execOp,ho,hcx,this,Ho]
  rw [hres]
  obtain⟨ψ',hle,hR',hv'⟩:=hR.bytes e b
  have hx':d_ ι ψ ι ψ':=⟨(d_.refl ι ψ).pl,hle⟩
  exact KI.mono (h ι ψ' _ _ hR' ((hE.mono hx').putA (hv' _ (grownCap_ge _ _ _ _)) hds)) fun e a2 w2 hp=>hp.chain (hx'.take n0)
def MD:AV→Option Value
 | .ifc t x=>(Ei x).map (.iface t)
 | x=>Ei x
theorem BO {x:AV}{c v:Value} (hx:VR ι ψ x c) (h:MD x=some v):c=v:=by
 cases x<;>try exact nG hx h
 next t y =>
 cases hx with
 | ifc _ _ u hu =>
  simp only [MD] at h
  cases hy:Ei y with
  | none=>rw [hy] at h;cases h
  | some z =>
   rw [hy] at h
   cases h
   rw [nG hu hy]
theorem az.libR {f:FuncId}{args:List AV}{vs:List Value}{R:ed→List aH→Prop} (he:∀ (a:Array Value) (w:World),(callFunc f a).run P w=.ok (.enter f a) w) (ha:args.map MD=vs.map some)
  (h:∀ w,mA w0.heap.size w0 w→Calls P f vs.toArray w fun e w'=>∃ c,e=.returned c∧mA w.heap.size w w'∧∃ v,(∀ ι ψ,VR ι ψ v c)∧R (.ret v) S):az P w0 f args S R:=by
 unfold az
 refine⟨he,fun ι ψ w cargs hRel hl hargs=>?_⟩
 have hlen:args.length=vs.length:=by simpa using congrArg lz ha
 have:cargs=vs.toArray:=by
  apply ma
  intro j
  by_cases hj:j<args.length
  ·have h1:args[j]? = some args[j]:=aC hj
   have h2:cargs[j]? = some cargs[j]:=bN (by omega)
   have h3:vs[j]? = some vs[j]:=aC (by omega)
   have h4:=hargs j _ _ h1 h2
   have h5:(args.map MD)[j]? = (vs.map some)[j]?:=by rw [ha]
   simp only [aQ,h1,h3,dF,bM] at h5
   rw [h2]
   simp only [gJ,h3]
   rw [BO h4 h5]
  ·rw [dB (by omega),gJ,cT (by omega)]
 subst this
 refine(h w hRel.below).mono ?_
 rintro e w' ⟨c,rfl,hb,v,hv,hR⟩
 have hb0:mA w0.heap.size w w':=hb.mono hRel.n0
 exact⟨ι,ψ,.ret v,S,d_.refl _ _,hRel.grow hb0 (fun k hk=>hb.block k hk) (eA.le_refl _) (fun _ _ _ e=>.inl e) (fun _ _ _ e=>.inl e),hv _ _,hR⟩
end
end Go.Fen
namespace Go.Fen
def iz:List Nat→dK→dK→Prop
 | [],_,_=>True
 | t::l,e,e'=>e t=e' t∧iz l e e'
theorem qQ (e:dK):∀ l,iz l e e
 | []=>trivial
 | _::l=>⟨rfl,qQ e l⟩
section
variable {P:Program}{w0:World}{n0 N:Nat}{r:Option Nat}{Q:cR}{k:List TI}{env:dK}{S:List aH}
theorem mf {i:KI} (L:List Nat) (h:∀ env',iz L env' env→ba P w0 n0 N r (.it i::k) Q .normal env' S):ba P w0 n0 N r (.it i::k) Q .normal env S:=h env (qQ env L)
theorem share {G:Prop} (K:Prop) (hK:K) (f:K→G):G:=f hK
end
end Go.Fen
namespace Go.Fen
open Go.RowKit
variable {P:Program}{w0:World}{n0 N:Nat}{r:Option Nat}{Q:cR}{k:List TI}{env:dK}{S:List aH}
theorem di.freezeC {ι:List Pl}{ψ:eA}{w:World} (h:di w0 ι ψ S w){a:Nat}{cs:List AV}{ty:Option TypeId} (hS:S[a]? = some (.cells cs ty)) :
  ∃ ψ',ψ.le ψ'∧di w0 ι ψ' (S.set a .dead) w∧∀ (o:Nat) (v:Value),VR ι ψ (.own a o) v→VR ι ψ' (.pro (cs.drop o)) v:=by
 obtain⟨pl,hpl,hB⟩:=h.get hS
 have hset:ι.set a pl=ι:=gL hpl
 obtain⟨hn0,⟨c,T,hw,hsz,hc⟩,hno,hty⟩:=hB
 have hcell:∀ j v,c[j]? = some v→w.cell? ⟨pl.blk,j,none⟩=some v:=fun j v hv=>by
  simp [qs,hw,hv]
 have hle:ψ.le (ψ.addRow pl.blk c.toList):=eA.le_addRow fun o v e=>by rw [hno o] at e;cases e
 have hext:d_ ι ψ ι (ψ.addRow pl.blk c.toList):=⟨(d_.refl ι ψ).pl,hle⟩
 refine⟨ψ.addRow pl.blk c.toList,hle, ?_, ?_⟩
 ·have key:=h.update (w':=w) (ψ':=ψ.addRow pl.blk c.toList) (B':=.dead) (pl':=pl) hS hpl (Ch _ _) (fun _ _ _=>rfl) (by rw [hset];exact hext) ?_ (fun k hk=>by cases hk) ?_ rfl
  ·rw [hset] at key;exact key
  ·trivial
  ·intro b o v ev
   simp only [eA.addRow] at ev
   split at ev
   ·next hb=>subst hb;exact .inr ⟨.inl rfl,hcell o v (by simpa using ev)⟩
   ·next hb=>exact .inl ⟨ev,by simp [aH.at];exact fun e=>hb e.symm⟩
 ·intro o v hv
  cases hv with
  | own _ _ pl' h' =>
   rw [hpl] at h';cases h'
   refine .pro (cs.drop o) pl.blk o (fun j=>(c[o+j]?).getD default) (fun j x ex=>?_) (fun j x ex=>?_)
   ·rw [dr] at ex
    obtain⟨h1,v,h2,_⟩:=hc (o+j) x ex
    exact⟨h1,by simp [eA.addRow,h2]⟩
   ·rw [dr] at ex
    obtain⟨h1,v,h2,h3⟩:=hc (o+j) x ex
    rw [h2]
    exact h3.mono hext
theorem gV {i:KI}{t a o:Nat}{cs:List AV}{ty:Option TypeId} (ht:env t=.own a o) (hS:S[a]? = some (.cells cs ty))
  (h:ba P w0 n0 N r (.it i::k) Q .normal (eO env t (.pro (cs.drop o))) (S.set a .dead)):ba P w0 n0 N r (.it i::k) Q .normal env S:=by
 intro ι ψ w ac hR hE
 obtain⟨ψ1,hle,hR1,hv⟩:=hR.freezeC hS
 have hx:d_ ι ψ ι ψ1:=⟨(d_.refl ι ψ).pl,hle⟩
 have hE':gr ι ψ1 N (eO env t (.pro (cs.drop o))) ac:=by
  have htd:t≠DS:=fun e=>by
   obtain⟨l,vs,h1,_⟩:=hE.defers
   rw [e,h1] at ht;cases ht
  refine⟨hE.size,hE.bound, ?_,fun s=>?_⟩
  ·obtain⟨l,vs,h1,h2,h3,h4⟩:=hE.defers
   exact⟨l,vs,by rw [eO,if_neg (Ne.symm htd)];exact h1,h2,fun j x v hx' hv=>(h3 j x v hx' hv).mono hx,h4⟩
  simp only [eO]
  split
  ·next hs =>
   subst hs
   have hvv:=hE.tmp s
   rw [ht] at hvv
   exact hv o _ hvv
  ·exact(hE.tmp s).mono hx
 exact KI.mono (h ι ψ1 w ac hR1 hE') fun e a2 w2 hp=>hp.chain (hx.take n0)
end Go.Fen
namespace Go.Fen
open Go.RowKit
variable {P:Program}{w0:World}{n0 N:Nat}{r:Option Nat}{Q:cR}{k:List TI}{env:dK}{S:List aH}
theorem Iy {i:KI}{t:Nat} (ht:env t=.snil)
  (h:ba P w0 n0 N r (.it i::k) Q .normal (eO env t (.sval false [])) S):ba P w0 n0 N r (.it i::k) Q .normal env S:=by
 intro ι ψ w a hR hE
 refine h ι ψ w a hR ?_
 have htd:t≠DS:=fun e=>by
  obtain⟨l,vs,h1,_⟩:=hE.defers
  rw [e,h1] at ht;cases ht
 refine⟨hE.size,hE.bound, ?_,fun s=>?_⟩
 ·obtain⟨l,vs,h1,h2,h3,h4⟩:=hE.defers
  exact⟨l,vs,by rw [eO,if_neg (Ne.symm htd)];exact h1,h2,h3,h4⟩
 simp only [eO]
 split
 ·next hs =>
  subst hs
  have hv:=hE.tmp s
  rw [ht] at hv
  generalize a.tmps.getD s undef=c at hv
  cases hv
  exact .svnil _
 ·exact hE.tmp s
section
variable {ops:Array Oper}{f:Nat}{listed:Array Bool}{prot:List (Nat × List Nat)}
def pF (P:Program) (w0:World) (n0 N:Nat) (r:Option Nat) (ops:Array Oper) (k:List TI) (Q:cR) (f:Nat) (listed:Array Bool) (prot:List (Nat × List Nat)) (env:dK) (S:List aH) (_i:Nat):Prop:=dI P w0 n0 N r ops k Q f listed prot env S
theorem tu (h:pF P w0 n0 N r ops k Q f listed prot env S 0):dI P w0 n0 N r ops k Q f listed prot env S:=h
theorem zy {i:Nat} (_h0:(match qF ops listed with | some j=>decide (i<j) | none=>false)=true) (h:pF P w0 n0 N r ops k Q f listed prot env S (i+1)):pF P w0 n0 N r ops k Q f listed prot env S i:=h
theorem KQ {i:Nat} (_h0:(match c_ .any ops listed with | [j]=>decide (i<j) | _=>false)=true) (h:pF P w0 n0 N r ops k Q f listed prot env S (i+1)):pF P w0 n0 N r ops k Q f listed prot env S i:=h
theorem oH {i:Nat}{oi:Oper}{v:AV}{fp:List Nat} (hn:qF ops listed=some i) (hQ:KT Q) (hN:decide (N≤DS)=true) (hi:ops[i]? = some oi) (hg:cG ops env oi=some true) (hs:en P S (bK w0 env) oi.op=some (v,S))
  (hd:fg N oi.dst=true) (hfp:mv (bK w0 env) oi.op=fp) (h:dI P w0 n0 N r ops k Q f (listed.setIfInBounds i true) ((i,fp)::prot) (putA env oi.dst v) S):pF P w0 n0 N r ops k Q (f+1) listed prot env S i :=
 KD i hn hQ hN hi hg hs hd hfp h
theorem tg {i:Nat}{oi:Oper} (hn:qF ops listed=some i) (hQ:KT Q) (hN:decide (N≤DS)=true) (hi:ops[i]? = some oi) (hg:cG ops env oi=some false)
  (hd:fg N oi.dst=true) (h:dI P w0 n0 N r ops k Q f (listed.setIfInBounds i true) ((i,[])::prot) (putA env oi.dst (.tup [])) S):pF P w0 n0 N r ops k Q (f+1) listed prot env S i :=
 L9 i hn hQ hN hi hg hd h
theorem th {i:Nat} (hr:c_ .any ops listed=[i]) (h:ie P w0 N ops Q i (fun env' S'=>cU ops i prot S S'∧dI P w0 n0 N r ops k Q f (listed.setIfInBounds i true) prot env' S') env S):pF P w0 n0 N r ops k Q (f+1) listed prot env S i :=
 L_ i hr h
theorem He {i:Nat}{F:Func}{S0:List aH}{R:ed→List aH→Prop}{oi:Oper}{v:AV}{fp:List Nat} (hn:qF ops listed=some i) (hi:ops[i]? = some oi) (hg:cG ops env oi=some true) (hs:en P S (bK w0 env) oi.op=some (v,S))
  (hd:fg N oi.dst=true) (hf:rp F oi.dst=true) (hfp:mv (bK w0 env) oi.op=fp) (h:dI P w0 n0 N r ops k (oK P w0 F S0 R) f (listed.setIfInBounds i true) ((i,fp)::prot) (putA env oi.dst v) S):pF P w0 n0 N r ops k (oK P w0 F S0 R) (f+1) listed prot env S i :=
 GZ i hn hi hg hs hd hf hfp h
end
end Go.Fen
namespace Go.Fen
open Go.RowKit
variable {P:Program}{w0:World}{S:List aH}
def EC (P:Program) (F:Func) (S0:List aH) (R:ed→List aH→Prop):cR
 | .normal,env,S | .ret,env,S=>∃ ms S1 vs,env DS=.dfr ms∧fw ms S=some S1∧gW P env S1 F.results.toList=some vs∧R (.ret (dy vs)) S1
 | .panic v,env,S=>∃ ms S1,env DS=.dfr ms∧fw ms S=some S1∧R (.panic v) S1
 | _,_,_=>False
theorem D_ {f:FuncId}{F:Func}{c:Code}{args:List AV}{R:ed→List aH→Prop} (hf:P.funcs[f]? = some F) (hb:F.body=some c) (hname:(F.name == "runtime.NumGoroutine")=false) (hargs:args.length≤F.ntmps) (hbd:F.ntmps≤DS)
  (h0:bP S→ba P w0 S.length F.ntmps none [.it (.code c)] (EC P F S R) .normal (df args) S):az P w0 f args S R:=by
 refine⟨fun a w=>by simp only [callFunc,cS,run_program,dd,hf,hname,hb];rfl,fun ι ψ w cargs hR hl hv=>?_⟩
 have h:=h0 fun j B hB=>hR.ltB hB
 refine(callsIn_wide (n:=0)).1 ?_
 refine callsIn_of_wp_marks (F:=Fence.wide) hf hb trivial ?_
 have hE:gr ι ψ F.ntmps (df args) { tmps:=cargs++cr (F.ntmps - cargs.size) undef,defers:=[] }:=by
  refine⟨by simp;omega,hbd,⟨[],[],by simp [df],rfl,by simp,rfl⟩,fun t=>?_⟩
  simp only [df]
  split
  ·next ht =>
   have:(cargs++cr (F.ntmps - cargs.size) undef).getD t undef=undef:=by
    rw [aK,dB (by simp;omega)];rfl
   rw [this]
   exact .dfr [] [] rfl (by simp)
  ·by_cases ht:t<args.length
   ·have e1:args[t]? = some args[t]:=aC ht
    have ht':t<cargs.size:=by omega
    have e2:cargs[t]? = some cargs[t]:=bN ht'
    rw [e1,aK,lC ht',e2]
    exact hv t _ _ e1 e2
   ·rw [cT (by omega)]
    exact .junk _
 refine wpIn_mono (h ι ψ w _ hR hE) fun e a' w' hp=>?_
 obtain⟨ι',ψ',x,env,S',h1,h2,h3,h4,h5⟩:=hp
 have hext:d_ ι ψ ι' ψ':=by rw [← hR.len,bQ] at h1;exact h1
 obtain⟨ds,dvs,d1,d2,d3,d4⟩:=h3.defers
 have ret:∀ (h5:∃ ms S1 vs,env DS=.dfr ms∧fw ms S'=some S1∧gW P env S1 F.results.toList=some vs∧R (.ret (dy vs)) S1),
   LeavesInM Fence.wide 0 P F a'.tmps (fun e w'=>∃ ι' ψ' out S',d_ ι ψ ι' ψ'∧di w0 ι' ψ' S' w'∧nh ι' ψ' out e∧R out S') a'.defers .returning w':=by
  rintro⟨ms,S1,vs,q1,q2,r1,r4⟩
  rw [q1] at d1;cases d1
  rw [d4]
  refine kQ (by simp) ds dvs S' S1 w' q2 d2 d3 h2 fun w1 hR1=>?_
  obtain⟨cs,q1,q2,q3⟩:=mM (P:=P) hR1 h3 _ vs r1
  have hrun:(results F a'.tmps).run P w1=.ok (if h:cs.toArray.size=1 then cs.toArray[0] else .tuple cs.toArray) w1:=by
   unfold results
   rw [yo]
   simp only [cS,Sem.run_map]
   erw [q1]
   rfl
  have hv:VR ι' ψ' (dy vs) (if h:cs.toArray.size=1 then cs.toArray[0] else .tuple cs.toArray):=by
   match vs,cs,q2,q3 with
   | [],[],_,_=>exact .tup _ _ rfl (by simp)
   | [v],[c],_,q3=>simpa [dy] using q3 0 v c rfl rfl
   | v1::v2::vs,c1::c2::cs,q2,q3 =>
    simp only [dy,fj,ah]
    rw [dif_neg (by omega)]
    exact .tup _ _ (by simpa using q2) (fun j x c hx hc=>q3 j x c hx (by simpa using hc))
   | [],_::_,q2,_=>simp at q2
   | [_],[],q2,_=>simp at q2
   | [_],_::_::_,q2,_=>simp at q2
   | _::_::_,[],q2,_=>simp at q2
   | _::_::_,[_],q2,_=>simp at q2
  exact⟨_,hrun,ι',ψ',.ret _,S1,hext,hR1,hv,r4⟩
 cases x with
 | normal=>cases e<;>simp only [XR] at h4;exact ret h5
 | ret=>cases e<;>simp only [XR] at h4;exact ret h5
 | exit id=>exact h5.elim
 | goto l=>exact h5.elim
 | panic v =>
  cases e<;>simp only [XR] at h4
  obtain⟨c,rfl,hv⟩:=h4
  obtain⟨ms,S1,q1,q2,r4⟩:=h5
  rw [q1] at d1;cases d1
  show LeavesInM _ _ _ _ _ _ a'.defers _ _
  rw [d4]
  refine kQ (by simp) ds dvs S' S1 w' q2 d2 d3 h2 fun w1 hR1=>?_
  exact⟨ι',ψ',.panic _,S1,hext,hR1,⟨c,rfl,hv⟩,r4⟩
theorem D7 {F:Func}{S0 S2:List aH}{env:dK}{R:ed→List aH→Prop}{ms vs:List AV}{v:AV} (h0:env DS=.dfr ms) (h01:fw ms S=some S2) (h1:gW P env S2 F.results.toList=some vs) (h3:dy vs=v) (h:R (.ret v) S2):EC P F S0 R .ret env S:=by
 subst h3
 exact⟨ms,S2,vs,h0,h01,h1,h⟩
end Go.Fen
namespace Go.Fen
open Go.RowKit
variable {P:Program}{w0:World}{n0 N:Nat}{r:Option Nat}{Q:cR}{k:List TI}{env:dK}{S:List aH}
theorem oh {x:AV} (h:x.leaf=true):x.cells=[x]:=by
 cases x<;>first | rfl | cases h
theorem VR.proPart {ι:List Pl}{ψ:eA}{cs:List AV}{b o l:Nat}{cv:Nat→Value} (h1:∀ j x,cs[j]? = some x→x.leaf=true∧ψ.c b (o+j)=some (cv j)) (h2:∀ j x,cs[j]? = some x→VR ι ψ x (cv j)) :
  VR ι ψ (.sval false (cs.drop l)) (.slice (some ⟨b,o+l,none⟩) (cs.length - l) (cs.length - l)):=by
 have hlen:(cs.drop l).length=cs.length - l:=by simp
 rw [← hlen]
 refine .sval 1 false (cs.drop l) b (o+l) _ (fun i _=>cv (l+i)) (fun i e he=>?_) (bg _) (fun e=>by cases e) (fun i e j x he hj=>?_) (fun i e j x he hj=>?_)
 ·rw [dr] at he
  rw [oh (h1 _ _ he).1];rfl
 ·rw [dr] at he
  have hf:=h1 _ _ he
  rw [oh hf.1] at hj
  cases j with
  | zero =>
   cases hj
   refine⟨hf.1, ?_⟩
   rw [← hf.2];congr 1;omega
  | succ j=>simp at hj
 ·rw [dr] at he
  have hf:=h1 _ _ he
  rw [oh hf.1] at hj
  cases j with
  | zero=>cases hj;exact h2 _ _ he
  | succ j=>simp at hj
theorem Cs {all:Array Oper}{o:Oper}{l:List Oper}{t e:TypeId}{m:Nat}{x lo:Operand}{cs:List AV}{i:Nat}{kk:IntKind} (hg:cG all env o=some true) (ho:o.op=.slice t x (some lo) none none) (ht:P.underlying t=some (.array m e)) (he:fF P e=some 1)
  (hx:bK w0 env x=.pro cs) (hlo:bK w0 env lo=.int kk (i:Int)) (hm:cs.length=m) (hi:i≤m) (hds:fg N o.dst=true)
  (h:ba P w0 n0 N r (.it (.ops all l)::k) Q .normal (putA env o.dst (.sval false (cs.drop i))) S):ba P w0 n0 N r (.it (.ops all (o::l))::k) Q .normal env S:=by
 intro ι ψ w a hR hE
 have hwt:=dt hE hg
 refine ew hwt (fun c hc=>by rw [hc] at ho;cases ho) ?_
 have hv:=hE.eval hR x
 rw [hx] at hv
 have hv2:=hE.eval hR lo
 rw [hlo] at hv2
 generalize hcx:a.eval x=cx at hv
 generalize hcl:a.eval lo=cl at hv2
 cases hv2 with
 | int _ _ =>
 cases hv with
 | pro _ b o' cv h1 h2 =>
  have hsub:(if m=i then (⟨b,o',none⟩:Addr) else (⟨b,o',none⟩:Addr).add (i * 1))=⟨b,o'+(if m=i then 0 else i),none⟩:=by
   split
   ·rfl
   ·simp only [Addr.add_lit,Nat.mul_one]
  have hb:(eB false m m (some (.int kk (i:Int))) none none).run P w=.ok (i,m,m) w:=by
   have hle:(0:Int)≤(i:Int)∧(i:Int)≤(m:Int):=by omega
   simp [eB,HG,asIntOf,hle]
   intro hh;omega
  have hres:(execOp a.eval o).run P w=.ok (.value (.slice (some ⟨b,o'+(if m=i then 0 else i),none⟩) (m - i) (m - i))) w:=by
   rw [← hsub]
   simp [execOp,ho,hcx,hcl,gy,run_underlying ht,eJ,hb,da he]
  rw [hres]
  have hvv:VR ι ψ (.sval false (cs.drop i)) (.slice (some ⟨b,o'+(if m=i then 0 else i),none⟩) (m - i) (m - i)):=by
   by_cases hmi:m=i
   ·subst hmi
    have:cs.drop m=[]:=Cg (by omega)
    rw [if_pos rfl,this]
    have:=VR.sval (ι:=ι) (ψ:=ψ) 1 false [] b (o'+0) (m - m) (fun _ _=>undef) (by simp) (by simp) (fun e=>by cases e) (by simp) (by simp)
    simpa using this
   ·rw [if_neg hmi,← hm]
    exact VR.proPart h1 h2
  exact KI.mono (h ι ψ _ _ hR (hE.putA hvv hds)) fun e a2 w2 hp=>hp
theorem mE {i:KI}{t a:Nat}{S1:List aH}{v:AV} (htd:(t==DS)=false) (hS:dS S a=S1) (hv:conv S1 (y9 S1) 4 (env t)=v)
  (h:ba P w0 n0 N r (.it i::k) Q .normal (eO env t v) S1):ba P w0 n0 N r (.it i::k) Q .normal env S:=by
 subst hS hv
 intro ι ψ w ac hR hE
 obtain⟨ψ1,hle,hR1⟩:=ks (w0:=w0) hR a
 have hx:d_ ι ψ ι ψ1:=⟨(d_.refl ι ψ).pl,hle⟩
 have hE1:gr ι ψ1 N env ac:=hE.mono hx
 have hfr:=kT hR1
 have htd':t≠DS:=by simpa using htd
 have hE':gr ι ψ1 N (eO env t (conv (dS S a) (y9 (dS S a)) 4 (env t))) ac:=by
  refine⟨hE1.size,hE1.bound, ?_,fun s=>?_⟩
  ·obtain⟨l,vs,h1,h2,h3,h4⟩:=hE1.defers
   exact⟨l,vs,by rw [eO,if_neg (Ne.symm htd')];exact h1,h2,h3,h4⟩
  simp only [eO]
  split
  ·next hs =>
   subst hs
   exact jm hR1 (eA.le_refl _) hfr 4 _ _ (hE1.tmp _)
  ·exact hE1.tmp s
 exact KI.mono (h ι ψ1 w ac hR1 hE') fun e a2 w2 hp=>hp.chain (hx.take n0)
end Go.Fen
namespace Go.Fen
open Go.RowKit
variable {P:Program}{w0:World}{n0 N:Nat}{r:Option Nat}{Q:cR}{k:List TI}{env:dK}{S:List aH}
def jp (c:Array Value) (s:List UInt8):Prop:=∀ (j:Nat) (b:UInt8),s[j]? = some b→c[j]? = some (.int .u8 (b.toNat:Int))
abbrev Q_ (c:Array Value) (e:TypeId):aH:=.obj (.cells c e (c.size,c.size+1))
theorem jp.size {c:Array Value}{s:List UInt8} (h:jp c s):s.length≤c.size:=by
 cases hs:s.length with
 | zero=>omega
 | succ n =>
  have h1:s[n]? = some s[n]:=aC (by omega)
  have:=(bH.1 (h n _ h1)).1
  omega
theorem jp.set {c:Array Value}{s:List UInt8} (h:jp c s) (i:Nat) (b:UInt8):jp (c.setIfInBounds i (.int .u8 (b.toNat:Int))) (s.set i b):=by
 intro j x hx
 have hsz:=h.size
 rw [List.getElem?_set] at hx
 rw [ct]
 by_cases hij:i=j
 ·subst hij
  by_cases hl:i<s.length
  ·simp only [if_true,hl] at hx
   cases hx
   rw [if_pos rfl,if_pos (by omega)]
  ·simp only [if_true,hl,if_false] at hx
   cases hx
 ·rw [if_neg hij] at hx
  rw [if_neg hij]
  exact h j x hx
theorem jp.row {c:Array Value}{s:List UInt8} (h:jp c s):oZ c s.length=some s:=by
 unfold oZ
 rw [if_pos h.size]
 have key:c.toList.take s.length=s.map fun b=>eT .u8 (b.toNat:Int):=by
  apply List.ext_getElem?
  intro j
  rw [bu,aQ]
  by_cases hj:j<s.length
  ·rw [if_pos hj,aC hj,bR]
   exact h j _ (aC hj)
  ·rw [if_neg hj,cT (by omega)];rfl
 rw [key]
 clear key h
 induction s with
 | nil=>rfl
 | cons b s ih=>simp [H9,ih]
end Go.Fen
namespace Go.Fen
open Go.RowKit
section
variable {P:Program}{w0 w:World}{n0 N:Nat}{r:Option Nat}{Q:cR}{k:List TI}{env:dK}{S:List aH}{ι:List Pl}{ψ:eA}
theorem ni.take {n0 n:Nat}{pl:Pl}{B:aH} (h:ni n0 ι ψ w pl B) (hB:B.ltB n=true):ni n0 (ι.take n) ψ w pl B:=by
 cases B with
 | cells cs ty =>
  obtain⟨h0,⟨c,T,h1,h2,h3⟩,h4,h5⟩:=h
  refine⟨h0,⟨c,T,h1,h2,fun j x e=>?_⟩,h4,h5⟩
  obtain⟨hl,v,hv,hr⟩:=h3 j x e
  exact⟨hl,v,hv,hr.take (dC.1 hB x (aI e))⟩
 | arr e sz fz g els =>
  obtain⟨hg,hsz,hpos,hfz,⟨xs,hown,hxs⟩,hps⟩:=h
  refine⟨hg,hsz,hpos,hfz,⟨xs,hown,fun j x e'=>?_⟩,hps⟩
  obtain⟨hl,v,hv,hr,hro⟩:=hxs j x e'
  obtain⟨el,he1,he2⟩:=po hsz hpos e'
  exact⟨hl,v,hv,hr.take (mU (dC.1 hB el (aI he1)) he2),hro⟩
 | obj o=>exact h
 | loop st pend N tm ps asg body =>
  obtain⟨h0,⟨fn,vs,d,h1,h2,h2'⟩,h3,h4⟩:=h
  exact⟨h0,⟨fn,vs,d,h1,h2,fun p hp=>(h2' p hp).take (aF.1 hB p hp)⟩,h3,h4⟩
 | mp fz es =>
  obtain⟨h0,hn,⟨me,c,l,h1,h2,h3,h4,h5⟩,h6⟩:=h
  refine⟨h0,hn,⟨me,c,l,h1,h2,h3,⟨h4.1,fun i e m he hm=>?_⟩,h5⟩,h6⟩
  have hme:=fu.1 hB e (h3.mem_iff.1 (aI he))
  obtain⟨a,b⟩:=h4.2 i e m he hm
  exact⟨a.take hme.1,b.take hme.2⟩
 | mit cur rest =>
  obtain⟨h0,h1,h3,h4⟩:=h
  obtain⟨q1,q2⟩:=sk hB
  refine⟨h0, ?_,h3,h4⟩
  rcases h1 with h1 | ⟨mb,ck,me,seen,l,k1,k2,k3,k4,k5⟩
  ·exact .inl h1
  ·refine .inr ⟨mb,ck,me,seen,l,k1,k2,k3,⟨k4.1,fun i e m he hm=>?_⟩,fun e he=>?_⟩
   ·have hme:=fu.1 q1 e (k3.mem_iff.1 (aI he))
    obtain⟨a,b⟩:=k4.2 i e m he hm
    exact⟨a.take hme.1,b.take hme.2⟩
   ·obtain⟨b,m,j1,j2,j3,j4⟩:=k5 e he
    exact⟨b,m,j1,j2,j3.take (q2 e he).1,j4.take (q2 e he).2⟩
 | dead=>trivial
end
section
variable {P:Program}{w0:World}{n0 N:Nat}{r:Option Nat}{Q:cR}{k:List TI}{env:dK}{S:List aH}
variable {ops:Array Oper}{f:Nat}{listed:Array Bool}{prot:List (Nat × List Nat)}
def qr (P:Program) (w0:World) (n0 N:Nat) (r:Option Nat) (ops:Array Oper) (k:List TI) (Q:cR) (f:Nat) (listed:Array Bool) (prot:List (Nat × List Nat)) (env:dK) (S:List aH) (i:Nat):Prop :=
 ∀ j∈c_ .any ops listed,i≤j→ie P w0 N ops Q j (fun env' S'=>cU ops j prot S S'∧dI P w0 n0 N r ops k Q f (listed.setIfInBounds j true) prot env' S') env S
theorem Q7 (_h0:(match c_ .any ops listed with | []=>false | [_]=>false | _=>true)=true) (h:qr P w0 n0 N r ops k Q f listed prot env S 0):dI P w0 n0 N r ops k Q (f+1) listed prot env S :=
 ⟨fun e=>(by rw [e] at _h0;cases _h0),fun j hj=>h j hj (bI _)⟩
theorem aO {i:Nat} (h0:(c_ .any ops listed).all (fun j=>decide (j<i))=true):qr P w0 n0 N r ops k Q f listed prot env S i :=
 fun j hj hi=>by have:=aF.1 h0 j hj;simp at this;omega
theorem Me {i:Nat} (h0:(!(c_ .any ops listed).contains i&&(c_ .any ops listed).any fun j=>decide (i<j))=true) (h:qr P w0 n0 N r ops k Q f listed prot env S (i+1)):qr P w0 n0 N r ops k Q f listed prot env S i :=
 fun j hj hi=>by
  by_cases e:j=i
  ·subst e
   have:(c_ .any ops listed).contains j=true:=by simpa using hj
   rw [this] at h0;cases h0
  ·exact h j hj (by omega)
theorem Nn {i:Nat} (h:ie P w0 N ops Q i (fun env' S'=>cU ops i prot S S'∧dI P w0 n0 N r ops k Q f (listed.setIfInBounds i true) prot env' S') env S) (h':qr P w0 n0 N r ops k Q f listed prot env S (i+1)):qr P w0 n0 N r ops k Q f listed prot env S i :=
 fun j hj hi=>by
  by_cases e:j=i
  ·subst e;exact h
  ·exact h' j hj (by omega)
end
end Go.Fen
namespace Go.Fen
open Go.RowKit
section
variable {P:Program}{w0:World}{n0 N:Nat}{r:Option Nat}{Q:cR}{k:List TI}{env:dK}{S:List aH}{all:Array Oper}{l:List Oper}{dst:Option Nat}{v:AV}{K:dK→List aH→Prop}
theorem cZ (h:ba P w0 n0 N r (.it (.ops all l)::k) Q .normal (putA env dst v) S):aR P w0 n0 N r all l k Q env dst (.ret v) S:=h
theorem bG (h:ba P w0 n0 N r k Q (.panic v) env S):aR P w0 n0 N r all l k Q env dst (.panic v) S:=h
theorem KN (h:K (putA env dst v) S):cw Q K env dst (.ret v) S:=h
theorem Ew (h:Q (.panic v) env S):cw Q K env dst (.panic v) S:=h
end
theorem st {G K:Prop} (h:K) (run:Hid K→G:=by
 intro kk
 first
 | (first | apply dM | apply cW | apply cj | apply cX | apply dN | apply bv | apply dQ | apply bx | apply bl | apply bF | apply bw | apply bj | apply aZ | apply dP | fail);exact kk.out
 | apply a_;(· rfl);exact kk.out
 | apply bD;simp only [List.toList_toArray];exact kk.out
 | apply bZ;(· rfl);(· simp only [go_sem, *];try rfl);(· rfl);simp only [putA];exact kk.out
 | apply b_;(· simp only [go_sem, *];try rfl);(· rfl);(· simp only [go_sem, *];try rfl);exact kk.out
 | apply cF;(iterate 2 (· simp only [go_sem, *];try rfl));(· rfl);simp only [putA];exact kk.out
 | apply bi;(· simp only [go_sem, *];try rfl);(· rfl);simp only [putA];exact kk.out
 | apply ce;(· simp only [go_sem, *];try rfl);exact kk.out
 | apply ci;(· simp only [go_sem, *];try rfl);exact kk.out
 | apply cZ;simp only [putA];exact kk.out
 | apply bG;exact kk.out
 | fail):G:=run h
theorem sd {G K:Prop} (h:K) (run:Hid K→G:=by
 intro kk
 first
 | apply eR;(· exact mixed);(· simp only [List.size_toArray,List.length_cons,List.length_nil,Nat.reduceAdd];try rfl);exact kk.out
 | apply oC;(· decide +kernel);exact kk.out
 | apply tu;(repeat (apply zy;(· decide +kernel)));apply oH;(· decide +kernel);(· first | exact eV | exact eU | exact iQ | assumption);(· rfl);(iterate 3 (· simp only [go_sem, *];try rfl));(· rfl);(· simp only [go_sem, *];try rfl);simp only [putA];exact kk.out
 | apply tu;(repeat (apply zy;(· decide +kernel)));apply tg;(· decide +kernel);(· first | exact eV | exact eU | exact iQ | assumption);(· rfl);(iterate 2 (· simp only [go_sem, *];try rfl));(· rfl);simp only [putA];exact kk.out
 | apply tu;(repeat (apply KQ;(· decide +kernel)));apply th;(· decide +kernel);exact kk.out
 | apply Q7;(· decide +kernel);exact kk.out
 | apply Me;(· decide +kernel);exact kk.out
 | apply mS;(iterate 3 (· simp only [go_sem, *];try rfl));(· rfl);simp only [putA];exact kk.out
 | apply sj;(iterate 2 (· simp only [go_sem, *];try rfl));(· rfl);simp only [putA];exact kk.out
 | apply KN;simp only [putA];exact kk.out
 | apply Ew;exact kk.out
 | apply n6;exact kk.out
 | apply lI;exact kk.out
 | apply gI;exact kk.out
 | apply j8;(· decide +kernel);exact kk.out
 | apply mP;(· simp only [go_sem, *];try rfl);exact kk.out
 | fail):G:=run h
theorem sx {G K:Prop} (h:K) (run:Hid K→G:=by
 intro kk
 first
 | apply tu;(repeat (apply zy;(· decide +kernel)));apply He;(· decide +kernel);(iterate 3 (· simp only [go_sem, *];try rfl));(· rfl);(· first | rfl | decide +kernel);(· simp only [go_sem, *];try rfl);simp only [putA];exact kk.out
 | apply ij;(· decide +kernel);exact kk.out
 | fail):G:=run h
theorem MF (b:Bool):(((!b)=true)=(b=false))∧(((!b)=false)=(b=true)):=by cases b<;>simp
theorem br {G K L:Prop} (h:K) (h':L) (run:Hid K→Hid L→G:=by
 intro kk ll
 first
 | apply bE;(· rfl);(fail_if_success (focus (show _=some true;(· simp only [go_sem, *];try rfl))));(· simp only [go_sem, *];try rfl);(· intro hb;(try simp only [MF] at hb);revert hb;exact kk.out);(intro hb;(try simp only [MF] at hb);revert hb;exact ll.out)
 | apply cg;(· simp only [go_sem, *];try rfl);(· intro hb;(try simp only [MF] at hb);revert hb;exact kk.out);(intro hb;(try simp only [MF] at hb);revert hb;exact ll.out)
 | fail):G:=run h h'
theorem bd {G K L:Prop} (h:K) (h':L) (run:Hid K→Hid L→G:=by
 intro kk ll
 first
 | apply sb;(· exact kk.out);exact ll.out
 | apply Nn;(· exact kk.out);exact ll.out
 | fail):G:=run h h'
theorem ca {G K:Prop} (h:K) (run:Hid K→G:=by
 intro kk
 first
 | apply cI [];(· simp only [go_sem, *];try rfl);(· rfl);(· simp only [go_sem, *];try rfl);(· rfl);(iterate 2 (· simp only [go_sem, *];try rfl));exact kk.out
 | fail):G:=run h
theorem cd {G K:Prop} (h:K) (run:Hid K→G:=by
 intro kk
 first
 | apply od [];(iterate 2 (· simp only [go_sem, *];try rfl));(· rfl);(· simp only [go_sem, *];try rfl);(· rfl);(iterate 2 (· simp only [go_sem, *];try rfl));exact kk.out
 | fail):G:=run h
theorem fR {G K p:Prop} (hr:p) (h:K) (run:Hid p→Hid K→G:=by
 intro rr kk
 apply Au
 iterate 7 (· simp only [go_sem, *,rr.out];try rfl)
 exact kk.out):G:=run hr h
theorem fE {G K p:Prop} (hr:p) (h:K) (run:Hid p→Hid K→G:=by
 intro rr kk
 apply L6
 iterate 7 (· simp only [go_sem, *,rr.out];try rfl)
 exact kk.out):G:=run hr h
theorem fP {G K:Prop} (h:K) (run:Hid K→G:=by
 intro kk
 apply GN
 iterate 6 (· simp only [go_sem, *];try rfl)
 exact kk.out):G:=run h
theorem GP {G A B K p:Prop} (hr:p) (hO:A) (hl:B) (h:K) (run:Hid p→Hid A→Hid B→Hid K→G:=by
 intro rr aa bb kk
 apply D5
 iterate 5 (· simp only [go_sem, *,rr.out];try rfl)
 ·exact aa.out
 ·exact bb.out
 exact kk.out):G:=run hr hO hl h
theorem GQ {G A B K p:Prop} (hr:p) (hO:A) (hl:B) (h:K) (run:Hid p→Hid A→Hid B→Hid K→G:=by
 intro rr aa bb kk
 apply Ku
 iterate 5 (· simp only [go_sem, *,rr.out];try rfl)
 ·exact aa.out
 ·exact bb.out
 exact kk.out):G:=run hr hO hl h
theorem eN {P:Program}{w0:World}{S:List aH}{f:FuncId}{F:Func}{c:Code}{args:List AV}{R:ed→List aH→Prop}{n:Nat} (hf:P.funcs[f]? = some F) (hb:F.body=some c) (hn:F.ntmps=n)
 (h0:bP S→ba P w0 S.length n none [.it (.code c)] (kX P F S R) .normal (df args) S) (hname:(F.name == "runtime.NumGoroutine")=false:=by decide +kernel) (hargs:args.length≤n:=by simp) (hbd:n≤DS:=by decide):az P w0 f args S R:=by
 subst hn;exact enter hf hb hname hargs hbd h0
theorem ss {p:Prop} (h:p:=by (simp only [go_sem, *];try rfl)):p:=h
end Go.Fen
namespace Go.Fen
open Go.RowKit
theorem dE (n:Nat){P:Program}{w0:World}{n0 N:Nat}{r:Option Nat}{Q:cR}{k:List TI}{env:dK}{S:List aH}{all:Array Oper}{o:Oper}{l:List Oper} (h:o.dst=some n) (hf:False):ba P w0 n0 N r (.it (.ops all (o::l))::k) Q .normal env S:=hf.elim
theorem bA (n:Nat){P:Program}{w0:World}{n0 N:Nat}{r:Option Nat}{Q:cR}{k:List TI}{env:dK}{S:List aH}{ops:Array Oper}{b:Bool} (hf:False):ba P w0 n0 N r (.it (.code (.region n ops b))::k) Q .normal env S:=hf.elim
section
variable {P:Program}{w0:World}{n0 N:Nat}{r:Option Nat}{Q:cR}{k:List TI}{ops:Array Oper}
end
end Go.Fen
namespace Go.Fen
open Go.RowKit
variable {P:Program}{w0:World}{n0 N:Nat}{r:Option Nat}{Q:cR}{k:List TI}{env:dK}{S:List aH}
theorem rE {all:Array Oper}{o:Oper}{l:List Oper}{t e:TypeId}{x:Operand}{n sz:Nat}{els:List AV} (hg:cG all env o=some true) (ho:o.op=.slice t x none none none) (ht:P.underlying t=some (.array n e)) (hs:fF P e=some sz)
  (hx:bK w0 env x=.pro (eH els)) (hl:els.length=n) (hok:∀ y∈els,y.cells.length=sz) (hds:fg N o.dst=true)
  (h:ba P w0 n0 N r (.it (.ops all l)::k) Q .normal (putA env o.dst (.sval true els)) S):ba P w0 n0 N r (.it (.ops all (o::l))::k) Q .normal env S:=by
 intro ι ψ w a hR hE
 have hw:=dt hE hg
 refine ew hw (fun c hc=>by rw [hc] at ho;cases ho) ?_
 have hv:=hE.eval hR x
 rw [hx] at hv
 generalize hcx:a.eval x=cx at hv
 cases hv with
 | pro _ b off cv h1 h2 =>
  have hres:(execOp a.eval o).run P w=.ok (.value (.slice (some ⟨b,off,none⟩) n n)) w:=by
   by_cases hn:n=0
   ·subst hn
    simp [execOp,ho,hcx,gy,eJ,run_underlying ht,eB,da hs]
   ·simp [execOp,ho,hcx,gy,eJ,run_underlying ht,eB,da hs,hn,Addr.add_lit]
  rw [hres]
  have hvv:VR ι ψ (.sval true els) (.slice (some ⟨b,off,none⟩) n n):=by
   rw [← hl]
   refine .sval sz true els b off els.length (fun i j=>cv (i * sz+j)) (fun i y hy=>hok y (aI hy)) (bg _) (fun _=>rfl) (fun i y j z hy hz=>?_) (fun i y j z hy hz=>?_)
   ·have:=h1 _ _ (kz hok hy hz)
    rw [uK]
    exact this
   ·exact h2 _ _ (kz hok hy hz)
  exact KI.mono (h ι ψ _ _ hR (hE.putA hvv hds)) fun e a2 w2 hp=>hp
end Go.Fen
namespace Go.Fen
open Go.RowKit
section
variable {P:Program}{w0:World}{n0 N:Nat}{r:Option Nat}{Q:cR}{k:List TI}{ops:Array Oper}
def qH (ops:Array Oper) (listed:Array Bool):Nat:=(bJ ops.size).countP fun i=>!listed.getD i true
theorem sS {p q:Nat→Bool}{i:Nat}:∀ {l:List Nat},l.Nodup→i∈l→p i=true→q i=false→(∀ j,j≠i→q j=p j)→l.countP q+1=l.countP p
 | [],_,h,_,_,_=>by cases h
 | a::l,hn,h,h1,h2,h3=>by
  rw [pJ] at hn
  rcases dj.1 h with rfl | h
  ·rw [List.countP_cons_of_neg (by simp [h2]),List.countP_cons_of_pos h1]
   congr 1
   refine List.countP_congr fun j hj=>?_
   rw [h3 j (fun e=>hn.1 (e▸hj))]
  ·have ih:=sS hn.2 h h1 h2 h3
   have hai:a≠i:=fun e=>hn.1 (e▸h)
   rw [ET,ET,h3 a hai]
   omega
theorem xN (I:Array Bool→dK→List aH→Prop)
  (step:∀ (listed:Array Bool) (env:dK) (S:List aH) (i:Nat) (o:Oper),I listed env S→ops[i]? = some o→listed.getD i true=false→(∀ e∈o.after,eS .any e=true→listed.getD e.on false=true)→ie P w0 N ops Q i (fun env' S'=>I (listed.setIfInBounds i true) env' S') env S)
  (fin:∀ (listed:Array Bool) (env:dK) (S:List aH),I listed env S→c_ .any ops listed=[]→ba P w0 n0 N r k Q .normal env S) :
  ∀ (f:Nat) (listed:Array Bool) (env:dK) (S:List aH),I listed env S→qH ops listed≤f→dI P w0 n0 N r ops k Q f listed [] env S:=by
 intro f
 induction f with
 | zero =>
  intro listed env S hI hl
  have hr:c_ .any ops listed=[]:=by
   rw [List.eq_nil_iff_forall_not_mem]
   intro i hi
   obtain⟨hu,o,ho,_⟩:=mem_ready.1 hi
   have hlt:i<ops.size:=(bH.1 ho).1
   have:0<qH ops listed:=List.countP_pos_iff.2 ⟨i,cB.2 hlt,by simp [hu]⟩
   omega
  exact⟨hr,fin _ _ _ hI hr⟩
 | succ f ih =>
  intro listed env S hI hl
  refine⟨fun hr=>fin _ _ _ hI hr,fun i hi=>?_⟩
  obtain⟨hu,o,ho,hd⟩:=mem_ready.1 hi
  have hlt:i<ops.size:=(bH.1 ho).1
  refine(step listed env S i o hI ho hu hd).mono fun env' S' hI'=>⟨trivial,ih _ _ _ hI' ?_⟩
  have hsz:i<listed.size:=by
   by_cases h:i<listed.size
   ·exact h
   ·have:listed.getD i true=true:=by simp [kf,h]
    rw [this] at hu;cases hu
  have:=sS (p:=fun i=>!listed.getD i true) (q:=fun j=>!(listed.setIfInBounds i true).getD j true) (i:=i) List.nodup_range (cB.2 hlt) (by simp [hu]) (by simp [aK,hsz]) (fun j hj=>by
   simp only [aK,ke (Ne.symm hj)])
  unfold qH at hl ⊢
  omega
def qg (ops:Array Oper):Bool:=(bJ ops.size).all fun i=>match ops[i]? with
 | some o=>o.after.all fun e=>!eS .any e||decide (e.on<i)
 | none=>true
theorem kG (hd:qg ops=true){listed:Array Bool} (hr:c_ .any ops listed=[]):∀ i,i<ops.size→listed.getD i true=true:=by
 intro i
 induction i using Hw with
 | _ i ih =>
  intro hi
  cases hl:listed.getD i true with
  | true=>rfl
  | false =>
   have hm:i∈c_ .any ops listed:=by
    refine mem_ready.2 ⟨hl,ops[i],bN hi,fun e he hb=>?_⟩
    have h1:=aF.1 hd i (cB.2 hi)
    rw [bN hi] at h1
    simp only [Array.all_eq_true_iff_forall_mem] at h1
    have h2:=h1 e he
    rw [hb] at h2
    simp only [cC,kZ,decide_eq_true_eq] at h2
    have h3:=ih e.on h2 (by omega)
    have hsz:e.on<listed.size:=by
     have:i<listed.size:=by
      by_cases h:i<listed.size
      ·exact h
      ·have:listed.getD i true=true:=by simp [kf,h]
       rw [this] at hl;cases hl
     omega
    simp only [aK,bN hsz,ER] at h3 ⊢
    exact h3
   rw [hr] at hm;cases hm
end
end Go.Fen
namespace Go.Fen
open Go.RowKit
theorem VR.mperm {ι:List Pl}{ψ:eA}{es es':List (AV × AV)}{c:Value} (h:VR ι ψ (.mval es) c) (hp:es.Perm es'):VR ι ψ (.mval es') c:=by
 cases h with
 | mval _ l b ck me hb hp' hl hn h1 h2=>exact .mval es' l b ck me hb (hp'.trans hp) hl ((hp.map cK).nodup_iff.1 hn) h1 h2
section
variable {P:Program}{w0:World}{n0 N:Nat}{r:Option Nat}{Q:cR}{k:List TI}{env:dK}{S:List aH}
theorem az.mperm {f:FuncId}{args:List AV}{R:ed→List aH→Prop}{E:List (AV × AV)} (h:az P w0 f args S (fun out S'=>∃ es,out=.ret (.mval es)∧es.Perm E∧R (.ret (.mval E)) S')):az P w0 f args S R:=by
 refine⟨h.1,fun ι ψ w cargs hR hl hv=>(h.2 ι ψ w cargs hR hl hv).mono ?_⟩
 rintro e w' ⟨ι',ψ',out,S',h1,h2,h3,es,rfl,e2,e3⟩
 refine⟨ι',ψ',.ret (.mval E),S',h1,h2, ?_,e3⟩
 cases e<;>simp only [nh] at h3 ⊢
 exact h3.mperm e2
end
inductive iA where
 | val (d:Nat) (v:AV)
 | mk (d:Nat)
 | ent (k v:AV)
def iA.dst:iA→Option Nat
 | .val d _=>some d
 | .mk d=>some d
 | .ent _ _=>none
def iA.out (m:Nat):iA→AV
 | .val _ v=>v
 | .mk _=>.mown m
 | .ent _ _=>.tup []
def jG:Nat→List iA→List (Nat × AV × AV)
 | _,[]=>[]
 | i,.ent k v::r=>(i,k,v)::jG (i+1) r
 | i,_::r=>jG (i+1) r
def gM (T:List (Nat × AV × AV)) (listed:Array Bool):List (AV × AV):=(T.filter fun p=>listed.getD p.1 true).map fun p=>p.2
theorem ku {T:List (Nat × AV × AV)}{listed:Array Bool}{i:Nat} (h:∀ p∈T,p.1≠i):gM T (listed.setIfInBounds i true)=gM T listed:=by
 unfold gM
 congr 1
 refine List.filter_congr fun p hp=>?_
 rw [getD_set_ne true (Ne.symm (h p hp))]
theorem kA:∀ {l:List iA}{i:Nat},∀ p∈jG i l,i≤p.1
 | [],_,p,h=>by cases h
 | .ent k v::r,i,p,h=>by
  rcases dj.1 h with rfl | h
  ·exact bg _
  ·have:=kA p h;omega
 | .val d v::r,i,p,h=>by have:=kA (l:=r) p h;omega
 | .mk d::r,i,p,h=>by have:=kA (l:=r) p h;omega
theorem jk:∀ {l:List iA}{i j:Nat}{k v:AV},(j,k,v)∈jG i l→l[j - i]? = some (.ent k v)
 | [],_,_,_,_,h=>by cases h
 | .ent k v::r,i,j,k',v',h=>by
  rcases dj.1 h with h | h
  ·cases h;simp
  ·have h1:=kA _ h
   have h2:=jk h
   rw [show j - i=(j - (i+1))+1 by simp only at h1;omega]
   exact h2
 | .val d v::r,i,j,k',v',h=>by
  have h1:=kA (l:=r) _ h
  have h2:=jk (l:=r) h
  rw [show j - i=(j - (i+1))+1 by simp only at h1;omega]
  exact h2
 | .mk d::r,i,j,k',v',h=>by
  have h1:=kA (l:=r) _ h
  have h2:=jk (l:=r) h
  rw [show j - i=(j - (i+1))+1 by simp only at h1;omega]
  exact h2
theorem uu:∀ {l:List iA}{i j:Nat}{k v:AV},l[j]? = some (.ent k v)→∃ A B,jG i l=A++(i+j,k,v)::B∧(∀ p∈A,p.1≠i+j)∧(∀ p∈B,p.1≠i+j)
 | [],_,_,_,_,h=>by simp at h
 | x::r,i,0,k,v,h=>by
  simp at h
  subst h
  exact⟨[],jG (i+1) r,rfl,by simp,fun p hp=>by have:=kA p hp;omega⟩
 | x::r,i,j+1,k,v,h=>by
  obtain⟨A,B,h1,h2,h3⟩:=uu (l:=r) (i:=i+1) (j:=j) (by simpa using h)
  rw [show i+1+j=i+(j+1) by omega] at h1 h2 h3
  cases x with
  | val d v=>exact⟨A,B,h1,h2,h3⟩
  | mk d=>exact⟨A,B,h1,h2,h3⟩
  | ent k' v' =>
   refine⟨(i,k',v')::A,B,by rw [jG,h1];rfl,fun p hp=>?_,h3⟩
   rcases dj.1 hp with rfl | hp
   ·simp only;omega
   ·exact h2 p hp
theorem Bq {A B:List (Nat × AV × AV)}{listed:Array Bool}{i:Nat}{k v:AV}{es:List (AV × AV)} (hp:es.Perm (gM (A++(i,k,v)::B) listed)) (hu:listed.getD i true=false) (h1:∀ p∈A,p.1≠i) (h2:∀ p∈B,p.1≠i) :
  (es++[(k,v)]).Perm (gM (A++(i,k,v)::B) (listed.setIfInBounds i true)):=by
 have hi:i<listed.size:=by
  by_cases h:i<listed.size
  ·exact h
  ·have:listed.getD i true=true:=by simp [kf,h]
   rw [this] at hu;cases hu
 have e0:∀ l:Array Bool,gM (A++(i,k,v)::B) l=gM A l++(gM [(i,k,v)] l++gM B l):=by
  intro l;unfold gM;rw [show A++(i,k,v)::B=A++([(i,k,v)]++B) by simp,HE,HE,co,co]
 rw [e0] at hp
 rw [e0,ku h1,ku h2]
 have e1:gM [(i,k,v)] listed=[]:=by
  unfold gM
  rw [List.filter_cons_of_neg (by simp only;rw [hu];decide)]
  rfl
 have e2:gM [(i,k,v)] (listed.setIfInBounds i true)=[(k,v)]:=by simp [gM,aK,hi]
 rw [e1,ap] at hp
 rw [e2]
 refine(hp.append_right _).trans ?_
 rw [ai]
 exact(List.perm_append_comm).append_left _
def mW (P:Program) (kt:TypeId):List (AV × AV)→Bool
 | []=>true
 | e::l=>fI P kt e.1&&((l.all fun f=>!kR e.1 f.1)&&((l.all fun f=>!kR f.1 e.1)&&mW P kt l))
theorem oo {P:Program}{kt:TypeId}:∀ {l:List (AV × AV)},mW P kt l=true→∀ e∈l,fI P kt e.1=true
 | [],_,e,he=>by cases he
 | x::l,h,e,he=>by
  simp only [mW,aB] at h
  rcases dj.1 he with rfl | he
  ·exact h.1
  ·exact oo h.2.2.2 e he
theorem ol {P:Program}{kt:TypeId}:∀ {A B:List (AV × AV)}{e:AV × AV},mW P kt (A++e::B)=true→∀ f,f∈A∨f∈B→kR e.1 f.1=false
 | [],B,e,h,f,hf=>by
  simp only [ap,mW,aB,aF,ax] at h
  rcases hf with hf | hf
  ·cases hf
  ·exact h.2.1 f hf
 | x::A,B,e,h,f,hf=>by
  simp only [al,mW,aB,aF,ax] at h
  rcases hf with hf | hf
  ·rcases dj.1 hf with rfl | hf
   ·exact h.2.2.1 e (by simp)
   ·exact ol h.2.2.2 f (.inl hf)
  ·exact ol h.2.2.2 f (.inr hf)
section
variable {P:Program}{w0:World}{n0 N:Nat}{r:Option Nat}{Q:cR}{k:List TI}{ops:Array Oper}
def Hk (ops:Array Oper) (pl:List iA) (m:Nat) (df:dK) (i:Nat) (env:dK):Prop :=
 (∀ j,j7 ops i j=false→∀ f,pl[j]? = some f→∀ d,f.dst=some d→env d=f.out m)∧∀ t,(pl.all fun f=>!(f.dst==some t))=true→env t=df t
def Iq (P:Program) (w0:World) (N:Nat) (Q:cR) (ops:Array Oper) (pl:List iA) (S0:List aH) (df:dK) (t kt et:TypeId) (i:Nat):Prop :=
 match pl[i]? with
 | some (.val d v)=>∀ env S,Hk ops pl S0.length df i env→(S=S0∨∃ es,S=S0++[.mp false es])→ie P w0 N ops Q i (fun env' S'=>env'=eO env d v∧S'=S) env S
 | some (.mk d)=>∀ env,Hk ops pl S0.length df i env→ie P w0 N ops Q i (fun env' S'=>env'=eO env d (.mown S0.length)∧S'=S0++[.mp false []]) env S0
 | some (.ent a v)=>∃ (o:Oper) (mo ko vo:Operand),ops[i]? = some o∧o.dst=none∧o.guard=none∧(o.op=.mapUpdate t mo ko vo∨o.op=.insert t mo ko vo)∧∀ env,Hk ops pl S0.length df i env→bK w0 env mo=.mown S0.length∧bK w0 env ko=a∧bK w0 env vo=v
 | none=>True
def pA (F:Nat→Prop):Nat→Nat→Prop
 | _,0=>True
 | i,n+1=>F i∧pA F (i+1) n
theorem kW {F:Nat→Prop}:∀ {n i j:Nat},pA F i n→i≤j→j<i+n→F j
 | 0,i,j,_,h1,h2=>by omega
 | n+1,i,j,h,h1,h2=>by
  by_cases e:i=j
  ·subst e;exact h.1
  ·exact kW h.2 (by omega) (by omega)
def Dr (ops:Array Oper) (pl:List iA) (j0:Nat):Bool :=
 pl.length==ops.size&&((match pl[j0]? with
  | some (.mk _)=>true
  | _=>false)&&((bJ pl.length).all fun i=>match pl[i]? with
   | some (.mk _)=>i==j0
   | some (.ent _ _)=>!j7 ops i j0
   | _=>true))&&decide ((pl.filterMap iA.dst).Nodup)
theorem KA {pl:List iA} (h:(pl.filterMap iA.dst).Nodup):∀ {i j:Nat}{f g:iA}{d:Nat},pl[i]? = some f→pl[j]? = some g→f.dst=some d→g.dst=some d→i=j:=by
 induction pl with
 | nil=>intro i j f g d h1;simp at h1
 | cons x pl ih =>
  intro i j f g d h1 h2 h3 h4
  have hmem:∀ {j:Nat}{g:iA},pl[j]? = some g→g.dst=some d→d∈pl.filterMap iA.dst:=fun hg hd=>tw.2 ⟨_,aI hg,hd⟩
  have hn:(pl.filterMap iA.dst).Nodup∧(x.dst=some d→d∉pl.filterMap iA.dst):=by
   cases hx:x.dst with
   | none=>rw [List.filterMap_cons_none hx] at h;exact⟨h,fun e=>by cases e⟩
   | some d'=>rw [zG hx] at h;rw [pJ] at h;exact⟨h.2,fun e=>by cases e;exact h.1⟩
  cases i with
  | zero =>
   simp at h1;subst h1
   cases j with
   | zero=>rfl
   | succ j=>exact absurd (hmem (by simpa using h2) h4) (hn.2 h3)
  | succ i =>
   cases j with
   | zero=>simp at h2;subst h2;exact absurd (hmem (by simpa using h1) h3) (hn.2 h4)
   | succ j =>
    have:=ih hn.1 (i:=i) (j:=j) (by simpa using h1) (by simpa using h2) h3 h4
    omega
structure Mv (pl:List iA) (j0:Nat) (df:dK) (S0:List aH) (listed:Array Bool) (env:dK) (S:List aH):Prop where
 slot:∀ i f,pl[i]? = some f→listed.getD i true=true→∀ d,f.dst=some d→env d=f.out S0.length
 keep:∀ t,(pl.all fun f=>!(f.dst==some t))=true→env t=df t
 m1:listed.getD j0 true=true→∃ es,es.Perm (gM (jG 0 pl) listed)∧S=S0++[.mp false es]
 m0:listed.getD j0 true=false→gM (jG 0 pl) listed=[]∧S=S0
theorem wP {pl:List iA} (hn:(pl.filterMap iA.dst).Nodup){m i d:Nat}{f:iA}{listed:Array Bool}{env:dK} (hf:pl[i]? = some f) (hd:f.dst=some d)
  (h:∀ i f,pl[i]? = some f→listed.getD i true=true→∀ d,f.dst=some d→env d=f.out m) :
  ∀ j g,pl[j]? = some g→(listed.setIfInBounds i true).getD j true=true→∀ e,g.dst=some e→eO env d (f.out m) e=g.out m:=by
 intro j g hg hl e he
 by_cases hji:j=i
 ·subst hji
  rw [hf] at hg;cases hg
  rw [hd] at he;cases he
  simp [eO]
 ·have hde:e≠d:=fun hh=>hji (KA hn hg hf he (hh▸hd))
  rw [show eO env d (f.out m) e=env e by simp [eO,hde]]
  rw [getD_set_ne true (Ne.symm hji)] at hl
  exact h j g hg hl e he
theorem xv {pl:List iA}{i d:Nat}{f:iA}{env df:dK}{v:AV} (hf:pl[i]? = some f) (hd:f.dst=some d) (h:∀ t,(pl.all fun f=>!(f.dst==some t))=true→env t=df t) :
  ∀ t,(pl.all fun f=>!(f.dst==some t))=true→eO env d v t=df t:=by
 intro t ht
 have hne:t≠d:=by
  rintro rfl
  have:=aF.1 ht f (aI hf)
  rw [hd] at this
  simp at this
 rw [show eO env d v t=env t by simp [eO,hne]]
 exact h t ht
theorem wG {kk v:AV}{es:List (AV × AV)} (h:∀ e∈es,kR kk e.1=false):j6 kk v es=es++[(kk,v)]:=by
 unfold j6
 rw [if_neg]
 rw [Bool.not_eq_true,List.any_eq_false]
 intro e he
 rw [h e he]
 decide
theorem KE {it:KI} (pl:List iA) (j0:Nat){t kt et:TypeId}{n:Nat}{df:dK}{S0:List aH} (hn:ops.size=n) (hok:Dr ops pl j0=true) (hdep:qg ops=true) (ht:P.underlying t=some (.map kt et)) (hk:mW P kt ((jG 0 pl).map fun p=>p.2)=true)
  (hstep:pA (Iq P w0 N Q ops pl S0 df t kt et) 0 n)
  (fin:∀ env:dK,(∀ (i:Nat) (f:iA),pl[i]? = some f→∀ d,f.dst=some d→env d=f.out S0.length)→(∀ t,(pl.all fun f=>!(f.dst==some t))=true→env t=df t)→ba P w0 n0 N r (.it it::k) Q .normal env (S0++[.mp false ((jG 0 pl).map fun p=>p.2)])) :
  dI P w0 n0 N r ops (.it it::k) Q n (cr n false) [] df S0:=by
 simp only [Dr,aB,beq_iff_eq,decide_eq_true_eq,aF,cB] at hok
 obtain⟨⟨hlen,hmk,hall⟩,hnd⟩:=hok
 have hT:∀ p∈jG 0 pl,p.1≠j0:=by
  rintro⟨j,a,v⟩ hp rfl
  have h1:=jk hp
  rw [Nat.sub_zero] at h1
  rw [h1] at hmk
  cases hmk
 refine xN (fun listed env S=>Mv pl j0 df S0 listed env S) ?step ?fin n _ _ _ ?init ?left
 case left =>
  unfold qH
  rw [← hn]
  exact fb (jX) (by simp)
 case init =>
  have hj:j0<n:=by
   cases h:pl[j0]? with
   | none=>rw [h] at hmk;cases hmk
   | some f=>have:=(aw.1 h).1;omega
  have hrep:∀ i,i<n→(cr n false).getD i true=false:=fun i hi=>by simp [kf,hi]
  refine⟨fun i f hf hl=>?_,fun t _=>rfl,fun hl=>?_,fun _=>⟨?_,rfl⟩⟩
  ·have hi:=(aw.1 hf).1
   rw [hrep i (by omega)] at hl;cases hl
  ·rw [hrep j0 hj] at hl;cases hl
  ·unfold gM
   rw [List.map_eq_nil_iff,List.filter_eq_nil_iff]
   rintro⟨j,a,v⟩ hp
   have h1:=jk hp
   have hi:=(aw.1 h1).1
   simp only
   rw [hrep j (by omega)]
   simp
 case fin =>
  intro listed env S hI hr
  have hal:=kG hdep hr
  have hl:∀ i,i<pl.length→listed.getD i true=true:=fun i hi=>hal i (by omega)
  have hj:j0<pl.length:=by
   cases h:pl[j0]? with
   | none=>rw [h] at hmk;cases hmk
   | some f=>exact(aw.1 h).1
  obtain⟨es,hp,rfl⟩:=hI.m1 (hl j0 hj)
  have hm:gM (jG 0 pl) listed=(jG 0 pl).map fun p=>p.2:=by
   unfold gM
   congr 1
   rw [List.filter_eq_self]
   rintro⟨j,a,v⟩ hp
   have h1:=jk hp
   exact hl j (by have:=(aw.1 h1).1;omega)
  rw [hm] at hp
  have hg:(S0++[aH.mp false es])[S0.length]? = some (.mp false es):=by simp
  refine oT S0.length hg hp (by rw [ef _ _ (bg _),Nat.sub_self]) ?_
  exact fin env (fun i f hf d hd=>hI.slot i f hf (hl i (aw.1 hf).1) d hd) hI.keep
 case step =>
  intro listed env S i o hI ho hu hd
  have hi:i<n:=by have:=(bH.1 ho).1;omega
  have hs:=kW hstep (bI i) (by omega)
  have hD:Hk ops pl S0.length df i env:=by
   refine⟨fun j hj f hf d hd'=>hI.slot j f hf ?_ d hd',hI.keep⟩
   unfold j7 at hj
   simp only [ho,aA] at hj
   rw [pK] at hj
   obtain⟨e,he,hb⟩:=hj
   simp only [aB,beq_iff_eq] at hb
   have h1:=hd e he hb.1
   rw [hb.2] at h1
   simp only [aK] at h1 ⊢
   cases hx:listed[j]? with
   | none=>rfl
   | some b=>rw [hx] at h1;simpa using h1
  unfold Iq at hs
  have hpi:∃ f,pl[i]? = some f:=⟨pl[i]'(by omega),aC (by omega)⟩
  obtain⟨f,hf⟩:=hpi
  rw [hf] at hs
  have hne0:(∀ d,f≠.mk d)→j0≠i:=by
   rintro h rfl
   rw [hf] at hmk
   cases f with
   | mk d=>exact h d rfl
   | val=>cases hmk
   | ent=>cases hmk
  cases f with
  | val d v =>
   have hj:=hne0 (fun d h=>by cases h)
   have hTi:∀ p∈jG 0 pl,p.1≠i:=by
    rintro⟨j,a,v⟩ hp rfl
    have h1:=jk hp
    rw [Nat.sub_zero,hf] at h1;cases h1
   have hSS:S=S0∨∃ es,S=S0++[.mp false es]:=by
    cases hl:listed.getD j0 true with
    | true=>obtain⟨es,_,e⟩:=hI.m1 hl;exact .inr ⟨es,e⟩
    | false=>exact .inl (hI.m0 hl).2
   refine(hs env S hD hSS).mono ?_
   rintro env' S' ⟨rfl,rfl⟩
   refine⟨wP hnd hf rfl hI.slot,xv hf rfl hI.keep,fun hl=>?_,fun hl=>?_⟩
   ·rw [getD_set_ne true (Ne.symm hj)] at hl
    rw [ku hTi]
    exact hI.m1 hl
   ·rw [getD_set_ne true (Ne.symm hj)] at hl
    rw [ku hTi]
    exact hI.m0 hl
  | mk d =>
   have hij:i=j0:=by
    have:=hall i (by omega)
    rw [hf] at this
    simpa using this
   subst hij
   obtain⟨hm,rfl⟩:=hI.m0 hu
   refine(hs env hD).mono ?_
   rintro env' S' ⟨rfl,rfl⟩
   refine⟨wP (f:=.mk d) hnd hf rfl hI.slot,xv hf rfl hI.keep,fun hl=>⟨[], ?_,rfl⟩,fun hl=>?_⟩
   ·rw [ku hT,hm]
   ·have hsz:i<listed.size:=by
     by_cases h:i<listed.size
     ·exact h
     ·have:listed.getD i true=true:=by simp [kf,h]
      rw [this] at hu;cases hu
    simp [aK,hsz] at hl
  | ent a v =>
   obtain⟨o',mo,ko,vo,ho',hdst,hgd,hop,hev⟩:=hs
   rw [ho] at ho';cases ho'
   obtain⟨ev1,ev2,ev3⟩:=hev env hD
   have hj:=hne0 (fun d h=>by cases h)
   have hjl:listed.getD j0 true=true:=by
    have h1:=hall i (by omega)
    rw [hf] at h1
    simp only [ax] at h1
    unfold j7 at h1
    simp only [ho,aA] at h1
    rw [pK] at h1
    obtain⟨e,he,hb⟩:=h1
    simp only [aB,beq_iff_eq] at hb
    have h2:=hd e he hb.1
    rw [hb.2] at h2
    simp only [aK] at h2 ⊢
    cases hx:listed[j0]? with
    | none=>rfl
    | some b=>rw [hx] at h2;simpa using h2
   obtain⟨es,hp,rfl⟩:=hI.m1 hjl
   obtain⟨A,B,hAB,hA,hB⟩:=uu (i:=0) hf
   rw [dw] at hAB hA hB
   have hmemE:∀ e∈es,∃ p,(p∈A∨p∈B)∧e=p.2:=by
    intro e he
    have h1:=hp.mem_iff.1 he
    unfold gM at h1
    obtain⟨p,hp1,rfl⟩:=aX.1 h1
    obtain⟨hp2,hp3⟩:=qU.1 hp1
    rw [hAB] at hp2
    rcases dg.1 hp2 with h | h
    ·exact⟨p,.inl h,rfl⟩
    ·rcases dj.1 h with rfl | h
     ·simp only at hp3;rw [hu] at hp3;cases hp3
     ·exact⟨p,.inr h,rfl⟩
   have hkk:=hk
   rw [hAB,co,aG] at hkk
   have hnew:∀ e∈es,kR a e.1=false:=by
    intro e he
    obtain⟨p,hp,rfl⟩:=hmemE e he
    exact ol hkk p.2 (hp.imp (fun h=>dq h) (fun h=>dq h))
   have hkeys:∀ e∈es,fI P kt e.1=true:=by
    intro e he
    obtain⟨p,hp,rfl⟩:=hmemE e he
    refine oo hkk p.2 ?_
    rcases hp with h | h
    ·exact ly _ (dq h)
    ·exact dR _ (ia _ (dq h))
   have hka:fI P kt a=true:=oo hkk (a,v) (dR _ (dL ..))
   have hst:en P (S0++[.mp false es]) (bK w0 env) o.op=some (.tup [],S0++[.mp false (es++[(a,v)])]):=by
    rcases hop with hop | hop
    all_goals
     rw [hop]
     simp only [en,eF,ht,ev1,ev2,ev3,aM (bg _),Nat.sub_self,List.getElem?_cons_zero]
     rw [if_pos (by simp only [aB,aF];exact⟨hka,hkeys⟩),wG hnew]
     simp [ef]
   refine mS ho (by simp [cG,hgd]) hst (by rw [hdst];rfl) ?_
   rw [hdst]
   refine⟨fun j g hg hl e he=>?_,hI.keep,fun _=>⟨_, ?_,rfl⟩,fun hl=>?_⟩
   ·by_cases hji:j=i
    ·subst hji;rw [hf] at hg;cases hg;cases he
    ·rw [getD_set_ne true (Ne.symm hji)] at hl
     exact hI.slot j g hg hl e he
   ·rw [hAB] at hp ⊢
    exact Bq hp hu hA hB
   ·rw [getD_set_ne true (Ne.symm hj),hjl] at hl;cases hl
end
def softV:AV→AV
 | .snil=>.sval false []
 | x=>x
theorem VR.softV {ι:List Pl}{ψ:eA}{x:AV}{v:Value} (h:VR ι ψ x v):VR ι ψ (softV x) v:=by
 cases x<;>try exact h
 cases h
 exact .svnil _
theorem yy {x:AV} (h:x.leaf=true):(softV x).leaf=true:=by
 cases x<;>first | exact h | rfl
theorem di.softC {w0 w:World}{ι:List Pl}{ψ:eA}{S:List aH} (h:di w0 ι ψ S w){a:Nat}{cs:List AV}{ty:Option TypeId} (ha:S[a]? = some (.cells cs ty)):di w0 ι ψ (S.set a (.cells (cs.map softV) ty)) w:=by
 obtain⟨pl,hpl,hB⟩:=h.get ha
 have hset:ι.set a pl=ι:=gL hpl
 obtain⟨h0,⟨c,T,h1,h2,h3⟩,h4,h5⟩:=hB
 have key:=h.update (w':=w) (ψ':=ψ) (B':=.cells (cs.map softV) ty) (pl':=pl) ha hpl (Ch _ _) (fun _ _ _=>rfl) (by rw [hset];exact d_.refl _ _) (by
  rw [hset]
  refine⟨h0,⟨c,T,h1,by simpa using h2,fun m x ex=>?_⟩,h4,h5⟩
  rw [aQ] at ex
  cases e:cs[m]? with
  | none=>rw [e] at ex;cases ex
  | some y =>
   rw [e] at ex;cases ex
   obtain⟨q1,v,q2,q3⟩:=h3 m y e
   exact⟨yy q1,v,q2,q3.softV⟩) (fun k hk=>.inl hk) (fun b o v e=>.inl ⟨e,fun hk=>by
  simp only [aH.at,bM] at hk;subst hk;rw [h4 o] at e;cases e⟩) rfl
 rw [hset] at key
 exact key
theorem az.softC {P:Program}{w0:World}{S:List aH}{f:FuncId}{args:List AV}{R:ed→List aH→Prop} (a:Nat) (h:az P w0 f args S (fun out S'=>∃ cs ty,S'[a]? = some (.cells cs ty)∧R out (S'.set a (.cells (cs.map softV) ty)))):az P w0 f args S R:=by
 refine⟨h.1,fun ι ψ w cargs hR hl hv=>(h.2 ι ψ w cargs hR hl hv).mono ?_⟩
 rintro e w' ⟨ι',ψ',out,S',h1,h2,h3,cs,ty,e1,e2⟩
 exact⟨ι',ψ',out,_,h1,h2.softC e1,h3,e2⟩
theorem nA {X:List aH}{B C B' C':aH} (h:bP (X++[B,C])) (hB:B'.ltB (X.length+2)=true) (hC:C'.ltB (X.length+2)=true):bP (X++[B',C']):=by
 intro j D hD
 have hl:(X++[B',C']).length=(X++[B,C]).length:=by simp
 rw [hl]
 by_cases hj:j<X.length
 ·rw [aJ hj] at hD
  exact h j D (by rw [aJ hj];exact hD)
 ·rw [aM (by omega)] at hD
  have h2:(X++[B,C]).length=X.length+2:=by simp
  rw [h2]
  match e:j - X.length,hD with
  | 0,hD=>simp at hD;subst hD;exact hB
  | 1,hD=>simp at hD;subst hD;exact hC
  | n+2,hD=>simp at hD
theorem Cv {P:Program}{w0:World}{n0 N:Nat}{r:Option Nat}{Q:cR}{k:List TI}{env:dK}{S S1:List aH}{it:KI} (t:Nat) (sh:List Nat){cs cs':List AV}{ty:Option TypeId} (hS1:sh.foldl dS S=S1) (ht:S1[t]? = some (.cells cs ty)) (hc:cs.map (conv S1 (y9 S1) 4)=cs') (hl:jx cs'=true)
  (h:ba P w0 n0 N r (.it it::k) Q .normal env (S1.set t (.cells cs' ty))):ba P w0 n0 N r (.it it::k) Q .normal env S:=by
 subst hS1 hc
 intro ι ψ w ac hR hE
 obtain⟨ψ1,hle,hR1⟩:=jt (w0:=w0) sh S ψ hR
 have hx:d_ ι ψ ι ψ1:=⟨(d_.refl ι ψ).pl,hle⟩
 have hfr:=kT hR1
 obtain⟨pl,hpl,hB⟩:=hR1.get ht
 have hset:ι.set t pl=ι:=gL hpl
 obtain⟨h0,⟨c,T,h1,h2,h3⟩,h4,h5⟩:=hB
 have key:=hR1.update (w':=w) (ψ':=ψ1) (B':=.cells (cs.map (conv (sh.foldl dS S) (y9 (sh.foldl dS S)) 4)) ty) (pl':=pl) ht hpl (Ch _ _) (fun _ _ _=>rfl) (by rw [hset];exact d_.refl _ _) (by
  rw [hset]
  refine⟨h0,⟨c,T,h1,by simpa using h2,fun m x ex=>?_⟩,h4,h5⟩
  have hlf:x.leaf=true:=aF.1 hl x (aI ex)
  rw [aQ] at ex
  cases e:cs[m]? with
  | none=>rw [e] at ex;cases ex
  | some y =>
   rw [e] at ex;cases ex
   obtain⟨q1,v,q2,q3⟩:=h3 m y e
   exact⟨hlf,v,q2,jm hR1 (eA.le_refl _) hfr 4 _ _ q3⟩) (fun k hk=>.inl hk) (fun b o v e=>.inl ⟨e,fun hk=>by
  simp only [aH.at,bM] at hk;subst hk;rw [h4 o] at e;cases e⟩) rfl
 rw [hset] at key
 exact KI.mono (h ι ψ1 w ac key (hE.mono hx)) fun e a2 w2 hp=>hp.chain (hx.take n0)
theorem HY {P:Program}{w0:World}{n0 N:Nat}{r:Option Nat}{Q:cR}{k:List TI}{env:dK}{S:List aH}{it:KI} (S0:List aH){cs:List AV}{ty:Option TypeId}{t:Nat} (sl:List Nat) (hS:S=S0++[.cells cs ty]) (hO:bP S0) (hn:n0=S0.length) (ht:env t=.own S0.length 0)
  (hds:(env DS).lt S0.length=true) (hsl:(sl.all fun u=>(eO env t (.pro cs) u).lt S0.length)=true) (h:ba P w0 n0 N r (.it it::k) Q .normal (iV sl (eO env t (.pro cs))) S0):ba P w0 n0 N r (.it it::k) Q .normal env S:=by
 subst hS
 have hg:(S0++[aH.cells cs ty])[S0.length]? = some (.cells cs ty):=by simp
 refine gV (a:=S0.length) (o:=0) ht hg ?_
 have e:(S0++[aH.cells cs ty]).set S0.length .dead=S0++[.dead]:=by rw [ef _ _ (bg _),Nat.sub_self];rfl
 rw [e,aq]
 have htd:DS≠t∨DS=t:=by omega
 refine d8 hO 0 sl hn ?_ (by simpa using hsl) rfl (by simpa using h)
 rcases htd with htd | htd
 ·simpa [eO,htd] using hds
 ·rw [htd,ht] at hds
  simp [AV.lt] at hds
end Go.Fen
namespace Go.Fen
open Go.RowKit
section
variable {P:Program}{w0:World}{n0 N:Nat}{r:Option Nat}{Q:cR}{k:List TI}{ops:Array Oper}
def mm (ops:Array Oper) (listed:Array Bool):Prop:=∀ j o,ops[j]? = some o→listed.getD j true=true→∀ e∈o.after,eS .any e=true→listed.getD e.on false=true
def zl (ops:Array Oper) (n:Nat):Bool:=(bJ n).all fun i=>(bJ (n+1)).any fun j=>decide (i<j)&&!j7 ops j i
def Nu (ops:Array Oper) (pl:List (Nat × AV)) (df:dK) (i:Nat) (env:dK):Prop :=
 (∀ j,j7 ops i j=false→∀ d v,pl[j]? = some (d,v)→env d=v)∧∀ t,(pl.all fun p=>!(p.1==t))=true→env t=df t
def Ip (P:Program) (w0:World) (N:Nat) (Q:cR) (ops:Array Oper) (pl:List (Nat × AV)) (S0:List aH) (df:dK) (i:Nat):Prop :=
 match pl[i]? with
 | some (d,v)=>∀ env,Nu ops pl df i env→ie P w0 N ops Q i (fun env' S'=>env'=eO env d v∧S'=S0) env S0
 | none=>True
theorem e_ {i j:Nat}{o:Oper} (ho:ops[i]? = some o) (h:j7 ops i j=false):∃ e∈o.after,eS .any e=true∧e.on=j:=by
 unfold j7 at h
 simp only [ho,aA] at h
 rw [pK] at h
 obtain⟨e,he,hb⟩:=h
 simp only [aB,beq_iff_eq] at hb
 exact⟨e,he,hb.1,hb.2⟩
theorem iv {l:Array Bool}{j:Nat} (h:l.getD j false=true):l.getD j true=true:=by
 simp only [aK] at h ⊢
 cases hx:l[j]? with
 | none=>rfl
 | some b=>rw [hx] at h;simpa using h
theorem lU (pl:List (Nat × AV)){n:Nat}{df:dK}{S0:List aH} (hn:ops.size=n+1) (hpl:pl.length=n) (hnd:decide ((pl.map cK).Nodup)=true) (hdep:qg ops=true) (hcov:zl ops n=true)
  (hstep:pA (Ip P w0 N Q ops pl S0 df) 0 n)
  (hz:∀ env:dK,(∀ (i d:Nat) (v:AV),pl[i]? = some (d,v)→env d=v)→(∀ t,(pl.all fun p=>!(p.1==t))=true→env t=df t)→ie P w0 N ops Q n (fun env' S'=>ba P w0 n0 N r k Q .normal env' S') env S0) :
  dI P w0 n0 N r ops k Q (n+1) (cr (n+1) false) [] df S0:=by
 have hnd:(pl.map cK).Nodup:=by simpa using hnd
 refine xN (fun listed env S=>(listed.getD n true=false∧(∀ (i d:Nat) (v:AV),pl[i]? = some (d,v)→listed.getD i true=true→env d=v)∧(∀ t,(pl.all fun p=>!(p.1==t))=true→env t=df t)∧S=S0∧mm ops listed)∨((∀ i,i≤n→listed.getD i true=true)∧ba P w0 n0 N r k Q .normal env S)) ?step ?fin (n+1) _ _ _ ?init ?left
 case left =>
  unfold qH
  rw [← hn]
  exact fb (jX) (by simp)
 case init =>
  have hrep:∀ i,i<n+1→(cr (n+1) false).getD i true=false:=fun i hi=>by simp [kf,hi]
  refine .inl ⟨hrep n (by omega),fun i d v hi hl=>?_,fun _ _=>rfl,rfl,fun j o ho hl=>?_⟩
  ·have h1:=(aw.1 hi).1
   rw [hrep i (by omega)] at hl;cases hl
  ·have h1:=(bH.1 ho).1
   rw [hrep j (by omega)] at hl;cases hl
 case fin =>
  intro listed env S hI hr
  have hal:=kG hdep hr
  rcases hI with⟨h1,_⟩ | ⟨_,h⟩
  ·rw [hal n (by omega)] at h1;cases h1
  ·exact h
 case step =>
  intro listed env S i o hI ho hu hd
  have hi:i<n+1:=by have:=(bH.1 ho).1;omega
  rcases hI with⟨h1,h2,h3,rfl,h5⟩ | ⟨h,_⟩
  rotate_left
  ·rw [h i (by omega)] at hu;cases hu
  by_cases hin:i=n
  ·subst hin
   have hall:∀ m j,j+m=i→listed.getD j true=true∨j=i:=by
    intro m
    induction m using Hw with
    | _ m ih =>
     intro j hj
     by_cases hji:j=i
     ·exact .inr hji
     ·left
      have hc:=aF.1 hcov j (cB.2 (by omega))
      obtain⟨q,hq,hq2⟩:=List.any_eq_true.1 hc
      simp only [aB,decide_eq_true_eq,ax] at hq2
      have hqi:q≤i:=by have:=cB.1 hq;omega
      rcases ih (i - q) (by omega) q (by omega) with hl | rfl
      ·obtain⟨oq,hoq⟩:∃ oq,ops[q]? = some oq:=⟨ops[q]'(by omega),bN (by omega)⟩
       obtain⟨e,he,hb,heq⟩:=e_ hoq hq2.2
       have:=h5 q oq hoq hl e he hb
       rw [heq] at this
       exact iv this
      ·obtain⟨e,he,hb,heq⟩:=e_ ho hq2.2
       have:=hd e he hb
       rw [heq] at this
       exact iv this
   have hl:∀ j,j<i→listed.getD j true=true:=fun j hj=>(hall (i - j) j (by omega)).resolve_right (by omega)
   refine(hz env (fun j d v hj=>h2 j d v hj (hl j (by have:=(aw.1 hj).1;omega))) h3).mono fun env' S' hk=>.inr ⟨fun j hj=>?_,hk⟩
   by_cases hji:j=i
   ·subst hji
    simp only [aK,ct]
    by_cases hs:j<listed.size<;>simp [hs]
   ·rw [getD_set_ne true (Ne.symm hji)]
    exact hl j (by omega)
  ·have hs:=kW hstep (bI i) (by omega)
   unfold Ip at hs
   obtain⟨⟨d,v⟩,hf⟩:∃ f,pl[i]? = some f:=⟨pl[i]'(by omega),aC (by omega)⟩
   rw [hf] at hs
   simp only at hs
   refine(hs env ⟨fun j hj d' v' hd'=>?_,h3⟩).mono ?_
   ·obtain⟨e,he,hb,heq⟩:=e_ ho hj
    have:=hd e he hb
    rw [heq] at this
    exact h2 j d' v' hd' (iv this)
   ·rintro env' S' ⟨rfl,rfl⟩
    refine .inl ⟨by rw [getD_set_ne true hin];exact h1,fun j d' v' hj hl=>?_,fun t ht=>?_,rfl,fun j oj hoj hl e he hb=>?_⟩
    ·by_cases hji:j=i
     ·subst hji
      rw [hf] at hj;cases hj
      simp [eO]
     ·have hde:d'≠d:=fun hh=>by
       subst hh
       have e1:(pl.map cK)[j]? = some d':=by rw [aQ,hj];rfl
       have e2:(pl.map cK)[i]? = some d':=by rw [aQ,hf];rfl
       have hjl:j<(pl.map cK).length:=(aw.1 e1).1
       exact hji ((ye hjl hnd).1 (e1.trans e2.symm))
      rw [show eO env d v d'=env d' by simp [eO,hde]]
      rw [getD_set_ne true (Ne.symm hji)] at hl
      exact h2 j d' v' hj hl
    ·have hne:t≠d:=by
      rintro rfl
      have:=aF.1 ht _ (aI hf)
      simp at this
     rw [show eO env d v t=env t by simp [eO,hne]]
     exact h3 t ht
    ·have hset:∀ m,listed.getD m false=true→(listed.setIfInBounds i true).getD m false=true:=by
      intro m hm
      simp only [aK,ct] at hm ⊢
      split
      ·split<;>simp_all
      ·exact hm
     by_cases hji:j=i
     ·subst hji
      rw [ho] at hoj;cases hoj
      exact hset _ (hd e he hb)
     ·rw [getD_set_ne true (Ne.symm hji)] at hl
      exact hset _ (h5 j oj hoj hl e he hb)
end
end Go.Fen
