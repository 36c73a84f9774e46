/- YthdbijpefkapnaaGreatDoorCore3: a part of the proof. -/
import Derived.Test.YthdbijpefkapnaaGreatDoorCore2
import Derived.Lib.ConvBytes
import Derived.Lib.AtoiErrMem
set_option linter.all false
set_option linter.unusedVariables false
set_option linter.unusedSimpArgs false
open Array renaming any_eq_true' → pk, ext_getElem? → lF, getD → lb, getD_eq_getD_getElem? → aA, getElem?_append_left → la, getElem?_eq_getElem → bj, getElem?_eq_none → c_, getElem?_eq_some_iff → bB, getElem?_setIfInBounds → bF, getElem?_setIfInBounds_ne → jH, getElem?_toList → bn, length_toList → eZ, mapM_eq_mapM_toList → xK, replicate → bO
open Bool renaming and_eq_true → ao, false_eq_true → cg, false_or → vH, not_eq_false' → aE, not_eq_true' → aw, not_true → b9
open Go.Instr renaming sliceAt → fT, sliceBound → GS, sliceBounds → ec, sureAddr → ep
open Go.Op renaming operands → bv
open Go.Region renaming binds → eU, free_spec → Ed, ready → ci
open Go.Result renaming andThen → GM, andThen_ok → cy
open Go.RowKit renaming Below → lR
open Go.RowKit.Below renaming refl → BD
open Go.Sem renaming run_bind → b8
open Go.Value renaming int → eA
open Go.World renaming block_lt_of_cell? → jb, cell? → p6
open List renaming all_cons → z7, all_eq_true → aC, any_eq_false → Eg, append_assoc → aN, cons_append → ft, countP_cons → Et, countP_le_length → nS, drop_eq_nil_of_le → Es, drop_zero → cJ, filter_append → GQ, getElem?_append_left → az, getElem?_append_right → aD, getElem?_drop → cS, getElem?_eq_getElem → al, getElem?_eq_none → ce, getElem?_eq_some_iff → af, getElem?_map → aI, getElem?_set_ne → bT, getElem?_take → a_, getElem?_toArray → gj, length → iz, length_append → ai, length_cons → aB, length_map → be, map_append → aY, map_cons → ap, mem_append → cH, mem_append_left → k8, mem_append_right → dA, mem_cons → bz, mem_cons_of_mem → gY, mem_cons_self → dk, mem_filter → BA, mem_filterMap → sI, mem_map → aM, mem_map_of_mem → cR, mem_of_getElem? → ax, mem_range → dI, nil_append → fS, nodup_cons → pj, range → ba, set_append_left → qt, set_append_right → fb, size_toArray → il, take_left → uc, take_length → bt
open Nat renaming add_assoc → ub, le_refl → a8, le_trans → eT, zero_add → bC, zero_le → bf
open Option renaming getD_some → En, map_some → dd
open Option.some renaming injEq → bi
open Prod renaming fst → cG
namespace Go.Fen
open Go.RowKit
variable {P:Program}{w0 w w':World}{ι:List Pl}{ψ:eb}{S:List aH}
theorem bD.app{S0 L:List aH}(h:bD S0)(hL:L.all (fun B=>B.ltB (S0.length+L.length))=true):bD (S0++L):=by
 intro j B hB
 rw [ai]
 by_cases hj:j<S0.length
 ·rw [az hj] at hB
  exact aH.ltB_mono (by omega) (h j B hB)
 ·rw [aD (by omega)] at hB
  exact aC.1 hL B (ax hB)
theorem bD.set{S0:List aH}{a:Nat}{B:aH}(h:bD S0)(hB:B.ltB S0.length=true):bD (S0.set a B):=by
 intro j C hC
 rw [List.length_set]
 by_cases hj:j=a
 ·subst hj
  by_cases hl:j<S0.length
  ·simp [hl] at hC;subst hC;exact hB
  ·rw [ce (by simp;omega)] at hC;cases hC
 ·rw [bT (fun e=>hj e.symm)] at hC
  exact h j C hC
theorem nC{S0 S2 L:List aH}(hO:bD S2)(hl:S2.length=S0.length):fJ S0.length S0 (S2++L):=by
 intro j B hj hB
 rw [az (by omega)] at hB
 have:=hO j B hB
 rw [hl] at this
 exact .inr this
theorem Dy{F:Func}{S0 S S2 L:List aH}{R:Rt}{ms vs:List AV}{env:dj}{v:AV}(h0:env DS=.dfr ms)(h01:eP ms S=some (S2++L))(hl:S2.length=S0.length)(hO:bD S2)(h1:gx P env (S2++L) F.results.toList=some vs)
  (h3:conv (S2++L) (fun a=>decide (S2.length≤a)) 4 (cY vs)=v) (h4:v.lt S2.length=true) (h:R (.ret v) S2):kC P F S0 R .ret env S:=by
 subst h3
 refine⟨ms,S2++L,vs,h0,h01,h1,nC hO hl, ?_, ?_⟩
 ·rw [← hl];exact h4
 ·rw [← hl,uc];exact h
theorem JG{F:Func}{S0 S S2 L:List aH}{R:Rt}{ms vs:List AV}{env:dj}{v:AV}(h0:env DS=.dfr ms)(h01:eP ms S=some (S2++L))(hl:S2.length=S0.length)(hO:bD S2)(h1:gx P env (S2++L) F.results.toList=some vs)
  (h3:conv (S2++L) (fun a=>decide (S2.length≤a)) 4 (cY vs)=v) (h4:v.lt S2.length=true) (h:R (.ret v) S2):kC P F S0 R .normal env S:=Dy (F:=F) h0 h01 hl hO h1 h3 h4 h
theorem n7{n0 N:Nat}{r:Option Nat}{Q:bP}{k:List TI}{env:dj}{i:KI}{S0 L:List aH}(hO:bD S0)(m:Nat)(sl:List Nat)(hn:n0=S0.length)(hds:(env DS).lt (S0.length+m)=true)(hsl:sl.all (fun t=>(env t).lt (S0.length+m))=true)(hL:(L.take m).all (fun B=>B.ltB (S0.length+m))=true)
  (h:aW P w0 n0 N r (.it i::k) Q .normal (ii sl env) (S0++L.take m)):aW P w0 n0 N r (.it i::k) Q .normal env (S0++L):=cw hO m sl hn hds hsl hL h
theorem ug{n0 N:Nat}{r:Option Nat}{Q:bP}{k:List TI}{env:dj}{all:Array Oper}{o:Oper}{l:List Oper}{fop:Operand}{args:Array Operand}{tys:Array TypeId}{a:Nat}{A:List AV}
  (hg:bX all env o=some true) (ho:o.op=.call ⟨.value fop,args,tys⟩) (hf:bl w0 env fop=.yld a) (hd:eG N o.dst=true) (hA:args.toList.map (bl w0 env)=A)
  (h:YA P w0 a A S (aV P w0 n0 N r all l k Q env o.dst)) :
  aW P w0 n0 N r (.it (.ops all (o::l))::k) Q .normal env S:=by
 subst hA
 exact BL hg ho hf hd h
theorem uL(n:Nat)(S:List aH):fJ n S S=True:=eq_true fun _ _ _ h=>.inl h
theorem Gf{S L:List aH}{a:Nat}(h:a<S.length):(S++L)[a]? = S[a]?:=az h
theorem EG{S L:List aH}{a:Nat}{B:aH}(h:a<S.length):(S++L).set a B=S.set a B++L:=qt _ _ h
theorem Gd(S:List aH)(a:Nat)(B:aH):(S.set a B)[a]? = (S[a]?).map (fun _=>B):=by
 by_cases h:a<S.length
 ·simp [h]
 ·rw [ce (by simp;omega),ce (by omega)];rfl
theorem set_set(S:List aH)(a:Nat)(B C:aH):(S.set a B).set a C=S.set a C:=List.set_set ..
theorem F5(S:List aH)(a:Nat)(B:aH):(S.set a B).length=S.length:=List.length_set ..
theorem Dx{F:Func}{S0 S S2:List aH}{R:Rt}{ms vs:List AV}{env:dj}{v:AV}(h0:env DS=.dfr ms)(h01:eP ms S=some S2)(h1:gx P env S2 F.results.toList=some vs)
  (h3:conv S2 (fun a=>decide (S0.length≤a)) 4 (cY vs)=v) (h4:v.lt S0.length=true) (hO:bD S2) (hl:S2.length=S0.length) (h:R (.ret v) S2):kC P F S0 R .ret env S:=by
 subst h3
 refine⟨ms,S2,vs,h0,h01,h1, ?_,h4, ?_⟩
 ·have:=nC (L:=[]) hO hl
  simpa using this
 ·have e:S2.take S0.length=S2:=by rw [← hl];exact bt
  rw [e];exact h
theorem JF{F:Func}{S0 S S2:List aH}{R:Rt}{ms vs:List AV}{env:dj}{v:AV}(h0:env DS=.dfr ms)(h01:eP ms S=some S2)(h1:gx P env S2 F.results.toList=some vs)
  (h3:conv S2 (fun a=>decide (S0.length≤a)) 4 (cY vs)=v) (h4:v.lt S0.length=true) (hO:bD S2) (hl:S2.length=S0.length) (h:R (.ret v) S2):kC P F S0 R .normal env S:=Dx (F:=F) h0 h01 h1 h3 h4 hO hl h
theorem F7(S:List aH)(a b:Nat):S.length+a+b=S.length+(a+b):=ub _ _ _
def YB(P:Program)(w0:World)(a n N rb:Nat)(LB BB:aH)(R:Rt)(body:Code):bP :=
 fun x env1 S1=>x=.normal∧S1[a]? = some LB∧aW P w0 n N (some rb) [.it (.code body)] (t_ a R) .normal env1 (S1.set a BB)
theorem vM{LB:aH}{a N:Nat}{tm:List (Nat × AV)}{ps:Array Tmp}{asg body:Code}{args:List AV}{E:dj}{R:Rt}(hLB:LB=.loop .ready none N tm ps asg body)(hS:S[a]? = some LB)(hps:ps.size=args.length)(hN:decide (N≤DS)=true)
  (htm:tm.all (fun p=>decide (p.1<N))=true) (hpp:ps.toList.all (fun p=>decide (p<N))=true) (hE:wg (sS tm) (ps.toList.zip args)=E)
  (h:∀ rb BB,BB=.loop .busy none N tm ps asg body→aW P w0 S.length N (some rb) [.it (.code asg)] (YB P w0 a S.length N rb LB BB R body) .normal E S):YA P w0 a args S R:=by
 subst hLB hE
 refine⟨none,N,tm,ps,asg,body,hS,hps,by simpa using hN,fun p hp=>by simpa using aC.1 htm p hp,fun p hp=>by simpa using aC.1 hpp p hp,fun rb=>Cy ?_ (h rb _ rfl)⟩
 rintro x e S1 ⟨rfl,h1,h2⟩
 exact⟨rfl,none,h1,h2⟩
theorem vL{a n N rb:Nat}{LB BB:aH}{R:Rt}{body:Code}{env:dj}{S2:List aH}(h1:S[a]? = some LB)(h2:S.set a BB=S2)(h:aW P w0 n N (some rb) [.it (.code body)] (t_ a R) .normal env S2):YB P w0 a n N rb LB BB R body .normal env S:=by
 subst h2;exact⟨rfl,h1,h⟩
theorem Ks{a N:Nat}{R:Rt}{env:dj}{LB BB:aH}{tm:List (Nat × AV)}{ps:Array Tmp}{asg body:Code}{S1:List aH}(hLB:LB=.loop .ready none N tm ps asg body)(hBB:BB=.loop .busy none N tm ps asg body)(h:S[a]? = some BB)(h1:S.set a LB=S1)(h2:R (.ret (.bool true)) S1):t_ a R .normal env S:=by
 subst h1 hLB hBB;exact⟨_,_,N,tm,ps,asg,body,h,h2⟩
theorem jI{a:Nat}{R:Rt}:J_ (t_ a R):=fun _ _ _ _ _ h=>h
theorem pB{a n N rb:Nat}{LB BB:aH}{R:Rt}{body:Code}:J_ (YB P w0 a n N rb LB BB R body):=fun _ _ _ _ _ h=>absurd h.1 (by simp)
theorem vN{n0 N:Nat}{Q:bP}{k:List TI}{env:dj}{g:Operand}{ps:Array Tmp}{asg body:Code}{f:FuncId}{first cap ds A:List AV}{tm:List (Nat × AV)}(keep:List Nat)(hf:bl w0 env g=.fn (.func f) first cap)(hds:env DS=.dfr ds)
  (hk:keep.all (fun t=>decide (t<N))=true) (hA:first++[.yld (S.length+1)]++cap=A) (hT:(keep.map fun t=>(t,env t))=tm)
  (h:∀ LB,LB=aH.loop .ready none N tm ps asg body→aj P w0 f A (S++[.obj (.deferred (some [])),LB]) (nN P w0 n0 N (S.length+1) k Q (eJ env DS (.dfr (.own S.length 0::ds))))) :
  aW P w0 n0 N none (.it (.code (.rangeFunc g ps asg body))::k) Q .normal env S:=by
 subst hA hT
 exact vO keep hf hds hk (h _ rfl)
theorem zS{n0 N m:Nat}{k:List TI}{Q:bP}{env:dj}{v:AV}{LB XB:aH}{N':Nat}{tm:List (Nat × AV)}{ps:Array Tmp}{asg body:Code}{S1:List aH}(hLB:LB=.loop .ready none N' tm ps asg body)(hXB:XB=.loop .exhausted none N' tm ps asg body)(hS:S[m]? = some LB)(h1:S.set m XB=S1)
  (h:aW P w0 n0 N none k Q .normal env S1):nN P w0 n0 N m k Q env (.ret v) S:=by
 subst hLB hXB h1;exact⟨.ready,none,N',tm,ps,asg,body,hS,rfl,h⟩
attribute [go_sem] uL Gf EG Gd set_set F5 F7 wg sS List.foldr_cons List.foldr_nil List.zip_cons_cons List.zip_nil_left List.zip_nil_right
end Go.Fen
namespace Go.Fen
open Go.RowKit
variable {P:Program}{w0 w w':World}{ι:List Pl}{ψ:eb}{S:List aH}
theorem cI.mperm(h:cI w0 ι ψ S w){a:Nat}{fz:Bool}{es es':List (AV × AV)}(hS:S[a]? = some (.mp fz es))(hp:es.Perm es'):cI w0 ι ψ (S.set a (.mp fz es')) w:=by
 have hal:a<S.length:=(af.1 hS).1
 have back:∀ (i:Nat) (B:aH),(S.set a (.mp fz es'))[i]? = some B→∃ B0,S[i]? = some B0∧∀ p,B0.at p=B.at p:=by
  intro i B hB
  by_cases hi:i=a
  ·subst hi
   simp [hal] at hB
   subst hB
   exact⟨_,hS,fun _=>rfl⟩
  ·rw [bT (by omega)] at hB
   exact⟨B,hB,fun _=>rfl⟩
 refine⟨h.below,h.psi,h.psim,by simp [h.len],fun i B q hB hq=>?_,h.old,fun i j B C p q k hB hC hp hq hk1 hk2=>?_⟩
 ·by_cases hi:i=a
  ·subst hi
   simp [hal] at hB
   subst hB
   obtain⟨h0,hn,⟨me,c,l,h1,h2,h3,h4,h5⟩,h6⟩:=h.blk i _ q hS hq
   exact⟨h0,(hp.map cG).nodup_iff.1 hn,⟨me,c,l,h1,h2,h3.trans hp,h4,h5⟩,h6⟩
  ·rw [bT (by omega)] at hB
   exact h.blk i B q hB hq
 ·obtain⟨B0,e1,e2⟩:=back i B hB
  obtain⟨C0,e3,e4⟩:=back j C hC
  exact h.inj i j B0 C0 p q k e1 e3 hp hq (by rw [e2];exact hk1) (by rw [e4];exact hk2)
section
variable {n0 N:Nat}{r:Option Nat}{Q:bP}{k:List TI}{env:dj}
theorem nZ{i:KI}(a:Nat){fz:Bool}{es es':List (AV × AV)}{S1:List aH}(hS:S[a]? = some (.mp fz es))(hp:es.Perm es')(h1:S.set a (.mp fz es')=S1)(h:aW P w0 n0 N r (.it i::k) Q .normal env S1):aW P w0 n0 N r (.it i::k) Q .normal env S:=by
 subst h1
 intro ι ψ w ac hR hE
 exact h ι ψ w ac (hR.mperm hS hp) hE
theorem GX{all:Array Oper}{o:Oper}{l:List Oper}{t kt et:TypeId}{m x y:Operand}{a:Nat}{es:List (AV × AV)}{K V:AV}{S1:List aH}(hg:bX all env o=some true)(ho:o.op=.mapUpdate t m x y)(hu:P.underlying t=some (.map kt et))(hm:bl w0 env m=.mown a)(hx:bl w0 env x=K)(hy:bl w0 env y=V)
  (hS:S[a]? = some (.mp false es)) (hk:eX P kt K=true) (hall:es.all (fun e=>eX P kt e.1)=true) (hf:es.any (fun e=>ku K e.1)=false) (hd:eG N o.dst=true) (h1:S.set a (.mp false (es++[(K,V)]))=S1)
  (h:aW P w0 n0 N r (.it (.ops all l)::k) Q .normal (putA env o.dst (.tup [])) S1):aW P w0 n0 N r (.it (.ops all (o::l))::k) Q .normal env S:=by
 subst h1
 refine dF hg ?_ hd h
 rw [ho]
 simp only [ee,ei,hu,hm,hS,hx,hy,hk,hall,jC,hf,Bool.and_self,if_true,cg,if_false]
end
theorem lm{kt:TypeId}{es:List (AV × AV)}{K:AV}(hk:eX P kt K=true)(hall:∀ e∈es,eX P kt e.1=true)(hn:K∉es.map cG):es.any (fun e=>ku K e.1)=false:=by
 rw [Eg]
 intro e he hq
 have:=(i6 hk (hall e he)).1 hq
 exact hn (this▸cR he)
end Go.Fen
namespace Go.Fen
open Go.RowKit
section
variable {P:Program}{w0:World}{n0 N:Nat}{r:Option Nat}{ops:Array Oper}{Q:bP}{k:List TI}{env:dj}{S:List aH}
theorem yL{i:Nat}{oi:Oper}{v:AV}{fp:List Nat}(hi:ops[i]? = some oi)(hd:eG N oi.dst=true)(hQ:∀ u env S,Q (.panic u) (putA env oi.dst v) S→Q (.panic u) env S) :
  ∀ (f:Nat) (listed:Array Bool) (prot:List (Nat × List Nat)) (env:dj) (S:List aH),
   (∀ j oj,ops[j]? = some oj→j≠i→listed.getD j true=false→(∀ e∈oj.after,eU .any e=true→e.on≠i)→oi.apart ops oj=true) →
   i∈ci .any ops listed→o7 w0 P ops oi v fp env S→dS P w0 n0 N r ops k Q f (listed.setIfInBounds i true) ((i,fp)::prot) (putA env oi.dst v) S→dS P w0 n0 N r ops k Q (f+1) listed prot env S:=by
 intro f
 induction f with
 | zero =>
  intro listed prot env S hfree hr hrd h
  refine⟨fun e=>(by rw [e] at hr;cases hr),fun j hj=>?_⟩
  by_cases hji:j=i
  ·subst hji
   refine⟨oi,hi,hd, ?_⟩
   rcases hrd with⟨h1,h2⟩|⟨h1,h2,h3,h4⟩
   ·subst h2
    exact .inl ⟨h1,fx,fo _ _ _ _ h⟩
   ·exact .inr (.inl ⟨h1,v,S,h4,fx,fo _ _ _ _ h⟩)
  ·have:=ready_mono hj hji
   rw [h.1] at this;cases this
 | succ f ih =>
  intro listed prot env S hfree hr hrd h
  refine⟨fun e=>(by rw [e] at hr;cases hr),fun j hj=>?_⟩
  by_cases hji:j=i
  ·subst hji
   refine⟨oi,hi,hd, ?_⟩
   rcases hrd with⟨h1,h2⟩|⟨h1,h2,h3,h4⟩
   ·subst h2
    exact .inl ⟨h1,fx,fo _ _ _ _ h⟩
   ·exact .inr (.inl ⟨h1,v,S,h4,fx,fo _ _ _ _ h⟩)
  ·obtain⟨hun,oj,hoj,hall⟩:=mem_ready.1 hj
   have hiu:listed.getD i false=false:=by
    have:=(mem_ready.1 hr).1
    simp only [aA] at this ⊢
    cases e:listed[i]? with
    | none=>rfl
    | some b=>rw [e] at this;simpa using this
   have hno:∀ e∈oj.after,eU .any e=true→e.on≠i:=fun e he hb heq=>by
    have:=hall e he hb
    rw [heq,hiu] at this;cases this
   have hap:=hfree j oj hoj hji hun hno
   obtain⟨a1,a2,a3⟩:=Oper.apart_spec hap
   have hrel:kQ ops j i=true:=by
    unfold kQ
    simp only [hoj]
    simp only [aw,Array.any_eq_false']
    intro e he
    by_cases hb:eU .any e=true
    ·simp [hb,hno e he hb]
    ·simp [hb]
   obtain⟨o,ho,hdj,hcase⟩:=h.2 j (ready_mono hj hji)
   rw [hoj] at ho;cases ho
   have hcomm:(listed.setIfInBounds i true).setIfInBounds j true=(listed.setIfInBounds j true).setIfInBounds i true:=by
    apply lF
    intro m
    simp only [bF]
    by_cases h1:i=m<;>by_cases h2:j=m<;>simp_all
   have hop:=lh (w0:=w0) (env:=env) (v:=v) a1
   have hgd:=lq (env:=env) (v:=v) a1
   have next:∀ (u:AV) (S':List aH),(cQ ops j ((i,fp)::prot) S S'∧dS P w0 n0 N r ops k Q f ((listed.setIfInBounds i true).setIfInBounds j true) ((i,fp)::prot) (putA (putA env oi.dst v) oj.dst u) S') →
     cQ ops j prot S S'∧dS P w0 n0 N r ops k Q (f+1) (listed.setIfInBounds j true) prot (putA env oj.dst u) S':=by
    rintro u S' ⟨hp,hk⟩
    refine⟨hp.2,ih _ prot _ S' ?_ (ready_mono hr (fun e=>hji e.symm)) (hrd.later a3 (hp.1 hrel)) ?_⟩
    ·intro m om hom hmi hmu hmno
     refine hfree m om hom hmi ?_ hmno
     by_cases hmj:m=j
     ·subst hmj
      simp only [aA,bF] at hmu ⊢
      by_cases hlt:m<listed.size
      ·simp [hlt] at hmu
      ·simp [hlt] at hmu
     ·rw [getD_set_ne true (fun e=>hmj e.symm)] at hmu;exact hmu
    ·rw [← hcomm,← tr a2];exact hk
   refine⟨oj,hoj,hdj, ?_⟩
   rcases hcase with⟨b1,b2⟩|⟨b1,u,S',b2,b3⟩|⟨b1,fop,args,tys,fn,first,cap,sh,b2,b3,b4⟩
   ·exact .inl ⟨by rw [← hgd];exact b1,next _ _ b2⟩
   ·exact .inr (.inl ⟨by rw [← hgd];exact b1,u,S',by rw [← km hop];exact b2,next _ _ b3⟩)
   ·have hargs:args.toList.map (bl w0 (putA env oi.dst v))=args.toList.map (bl w0 env):=iK fun y hy=>hop y (by rw [b2];simp [bv,Call.operands];exact .inr (by simpa using hy))
    have hfop:bl w0 (putA env oi.dst v) fop=bl w0 env fop:=hop fop (by rw [b2];simp [bv,Call.operands])
    refine .inr (.inr ⟨by rw [← hgd];exact b1,fop,args,tys,fn,first,cap,sh,b2,by rw [← hfop];exact b3, ?_⟩)
    rw [hargs] at b4
    refine b4.mono fun out S' hk=>?_
    cases out with
    | ret u=>exact next u S' hk
    | panic u=>exact hQ u _ _ hk
def uB:ResultVar→Nat
 | .tmp t=>t
 | .cell t _=>t
theorem AA{d:Nat}{x:AV}:∀ {l:List ResultVar},(l.all fun y=>!(uB y==d))=true→gx P (eJ env d x) S l=gx P env S l:=by
 intro l
 induction l with
 | nil=>intro _;rfl
 | cons y l ih =>
  intro h
  simp only [z7,ao] at h
  have hy:uB y≠d:=by have:=h.1;simpa using this
  have h1:xW P (eJ env d x) S y=xW P env S y:=by
   cases y<;>simp only [uB] at hy<;>simp only [xW,eJ,if_neg hy]
  simp only [gx,h1,ih h.2]
def qO(F:Func)(d:Option Nat):Bool:=match d with
 | none=>true
 | some d=>(F.results.toList.all fun y=>!(uB y==d))&&!(d==DS)
theorem PP{F:Func}{S0:List aH}{R:Rt}{d:Option Nat}{v:AV}(hd:qO F d=true):∀ u env S,nR P w0 F S0 R (.panic u) (putA env d v) S→nR P w0 F S0 R (.panic u) env S:=by
 intro u env S h
 cases d with
 | none=>exact h
 | some d =>
  simp only [qO,ao] at hd
  have hds:DS≠d:=by have:=hd.2;simp at this;exact fun e=>this e.symm
  obtain⟨g,first,cap,h1,h2⟩:=h
  refine⟨g,first,cap, ?_, ?_⟩
  ·rw [← h1];simp only [putA,eJ,if_neg hds]
  ·have:t8 P F S0 (putA env (some d) v) R=t8 P F S0 env R:=by
    funext S'
    simp only [t8,putA,AA hd.1]
   rwa [this] at h2
theorem Gu(i:Nat){F:Func}{S0:List aH}{R:Rt}{f:Nat}{listed:Array Bool}{prot:List (Nat × List Nat)}{oi:Oper}{v:AV}{fp:List Nat}(hn:qj ops listed=some i)(hi:ops[i]? = some oi)(hg:bX ops env oi=some true)(hs:ee P S (bl w0 env) oi.op=some (v,S))
  (hd:eG N oi.dst=true) (hf:qO F oi.dst=true) (hfp:lM (bl w0 env) oi.op=fp) (h:dS P w0 n0 N r ops k (nR P w0 F S0 R) f (listed.setIfInBounds i true) ((i,fp)::prot) (putA env oi.dst v) S):dS P w0 n0 N r ops k (nR P w0 F S0 R) (f+1) listed prot env S:=by
 obtain⟨h1,h2,h3⟩:=nF hn
 exact yL hi hd (PP hf) f listed prot env S (Ed hi h3) h1 (.inr ⟨hg,h2 _ hi,hfp,hs⟩) h
theorem gQ{i p:Nat}{q:List Nat}{prot:List (Nat × List Nat)}{S S':List aH}(hp:kQ ops i p=false)(h:cQ ops i prot S S'):cQ ops i ((p,q)::prot) S S':=ou hp h
end
end Go.Fen
namespace Go.Fen
open Go.RowKit
section
variable {P:Program}{w0 w:World}{ι:List Pl}{ψ:eb}{n0 N:Nat}{r:Option Nat}{Q:bP}{k:List TI}{env:dj}{S:List aH}
def iR(b:UInt8):AV:=.int .u8 (b.toNat:Int)
theorem cI.bytes(h:cI w0 ι ψ S w)(e:TypeId)(s:ByteArray) :
  ∃ ψ',ψ.le ψ'∧cI w0 ι ψ' S (Lib.bytesWorld w e s)∧∀ cap,s.size≤cap→VR ι ψ' (.sval false (s.data.toList.map iR)) (.slice (some ⟨w.heap.size,0,none⟩) s.size cap):=by
 let ψ':eb:=⟨fun b o=>if b=w.heap.size then (if o<s.size then some (.int .u8 ((s.data.toList.getD o 0).toNat:Int)) else none) else ψ.c b o,ψ.m⟩
 have hfresh:∀ o v,ψ.c w.heap.size o=some v→False:=fun o v e=>by
  have:=jb w _ (h.psi _ _ _ e)
  simp at this
 have hle:ψ.le ψ':=⟨fun b o v e=>by
  by_cases hb:b=w.heap.size
  ·subst hb;exact absurd e (fun e=>hfresh _ _ e)
  ·simp only [ψ',if_neg hb];exact e,fun b es e=>e⟩
 refine⟨ψ',hle,h.grow ((Lib.bytesWorld_below w e s).mono h.n0) (fun j hj=>Lib.bytesWorld_at_old w e s j hj) hle (fun b o v e'=>?_) (fun b es c e'=>.inl e'),fun cap hcap=>?_⟩
 ·simp only [ψ'] at e'
  split at e'
  ·next hb =>
   subst hb
   split at e'
   ·next ho =>
    cases e'
    exact .inr ⟨a8 _,Lib.bytesWorld_cell w e s o ho⟩
   ·cases e'
  ·exact .inl e'
 ·have hl:(s.data.toList.map iR).length=s.size:=by rw [be,eZ];rfl
  have key:=VR.sval (ι:=ι) (ψ:=ψ') 1 false (s.data.toList.map iR) w.heap.size 0 cap (fun i _=>.int .u8 ((s.data.toList.getD i 0).toNat:Int)) ?_ (by omega) (by simp) ?_ ?_
  ·rw [hl] at key;exact key
  ·intro i x hx
   obtain⟨y,_,rfl⟩:=aM.1 (ax hx)
   rfl
  ·intro i x j y hx hy
   have hi:i<s.size:=by have:=(af.1 hx).1;omega
   obtain⟨z,_,rfl⟩:=aM.1 (ax hx)
   cases j with
   | zero=>cases hy;exact⟨rfl,by simp [ψ',hi]⟩
   | succ j=>simp [iR,AV.cells] at hy
  ·intro i x j y hx hy
   rw [aI] at hx
   cases hz:s.data.toList[i]? with
   | none=>rw [hz] at hx;cases hx
   | some z =>
    rw [hz] at hx
    cases hx
    cases j with
    | zero =>
     cases hy
     simp only [List.getD,hz,En]
     exact .int _ _
    | succ j=>simp [iR,AV.cells] at hy
theorem n9{all:Array Oper}{o:Oper}{l:List Oper}{src dst e:TypeId}{u:TypeDesc}{x:Operand}{s:List UInt8}(hg:bX all env o=some true)(ho:o.op=.convert src dst x)(hs:P.underlying src=some u)(hd:P.underlying dst=some (.slice e))(he:P.underlying e=some (.int .u8))
  (hx:bl w0 env x=.str s) (hds:eG N o.dst=true) (h:aW P w0 n0 N r (.it (.ops all l)::k) Q .normal (putA env o.dst (.sval false (s.map iR))) S):aW P w0 n0 N r (.it (.ops all (o::l))::k) Q .normal env S:=by
 intro ι ψ w a hR hE
 have hw:=cU hE hg
 refine dZ hw (fun c hc=>by rw [hc] at ho;cases ho) ?_
 have hv:=hE.eval hR x
 rw [hx] at hv
 generalize hcx:a.eval x=cx at hv
 cases hv with
 | str _ b hb =>
  subst hb
  have hres:(execOp a.eval o).run P w=.ok (.value (.slice (some ⟨w.heap.size,0,none⟩) b.size (grownCap w b.size 0 e))) (Lib.bytesWorld w e b):=by
   have:=Lib.run_convert_string_bytes (P:=P) w src dst e b hs hd he
   simp [execOp,ho,hcx,this,GM]
  rw [hres]
  obtain⟨ψ',hle,hR',hv'⟩:=hR.bytes e b
  have hx':dL ι ψ ι ψ':=⟨(dL.refl ι ψ).pl,hle⟩
  exact KI.mono (h ι ψ' _ _ hR' ((hE.mono hx').putA (hv' _ (grownCap_ge _ _ _ _)) hds)) fun e a2 w2 hp=>hp.chain (hx'.take n0)
def LQ:AV→Option Value
 | .ifc t x=>(DJ x).map (.iface t)
 | x=>DJ x
theorem Bb{x:AV}{c v:Value}(hx:VR ι ψ x c)(h:LQ x=some v):c=v:=by
 cases x<;>try exact mV hx h
 next t y =>
 cases hx with
 | ifc _ _ u hu =>
  simp only [LQ] at h
  cases hy:DJ y with
  | none=>rw [hy] at h;cases h
  | some z =>
   rw [hy] at h
   cases h
   rw [mV hu hy]
theorem aj.libR{f:FuncId}{args:List AV}{vs:List Value}{R:Rt}(he:∀ (a:Array Value) (w:World),(callFunc f a).run P w=.ok (.enter f a) w)(ha:args.map LQ=vs.map some)
  (h:∀ w,lR w0.heap.size w0 w→Calls P f vs.toArray w fun e w'=>∃ c,e=.returned c∧lR w.heap.size w w'∧∃ v,(∀ ι ψ,VR ι ψ v c)∧R (.ret v) S):aj P w0 f args S R:=by
 unfold aj
 refine⟨he,fun ι ψ w cargs hRel hl hargs=>?_⟩
 have hlen:args.length=vs.length:=by simpa using congrArg iz ha
 have:cargs=vs.toArray:=by
  apply lF
  intro j
  by_cases hj:j<args.length
  ·have h1:args[j]? = some args[j]:=al hj
   have h2:cargs[j]? = some cargs[j]:=bj (by omega)
   have h3:vs[j]? = some vs[j]:=al (by omega)
   have h4:=hargs j _ _ h1 h2
   have h5:(args.map LQ)[j]? = (vs.map some)[j]?:=by rw [ha]
   simp only [aI,h1,h3,dd,bi] at h5
   rw [h2]
   simp only [gj,h3]
   rw [Bb h4 h5]
  ·rw [c_ (by omega),gj,ce (by omega)]
 subst this
 refine(h w hRel.below).mono ?_
 rintro e w' ⟨c,rfl,hb,v,hv,hR⟩
 have hb0:lR w0.heap.size w w':=hb.mono hRel.n0
 exact⟨ι,ψ,.ret v,S,dL.refl _ _,hRel.grow hb0 (fun k hk=>hb.block k hk) (eb.le_refl _) (fun _ _ _ e=>.inl e) (fun _ _ _ e=>.inl e),hv _ _,hR⟩
end
end Go.Fen
namespace Go.Fen
def eS:List Nat→dj→dj→Prop
 | [],_,_=>True
 | t::l,e,e'=>e t=e' t∧eS l e e'
theorem qs(e:dj):∀ l,eS l e e
 | []=>trivial
 | _::l=>⟨rfl,qs e l⟩
section
variable {P:Program}{w0:World}{n0 N:Nat}{r:Option Nat}{Q:bP}{k:List TI}{env:dj}{S:List aH}
theorem gM{i:KI}(L:List Nat)(h:∀ env',eS L env' env→aW P w0 n0 N r (.it i::k) Q .normal env' S):aW P w0 n0 N r (.it i::k) Q .normal env S:=h env (qs env L)
theorem share{G:Prop}(K:Prop)(hK:K)(f:K→G):G:=f hK
end
end Go.Fen
namespace Go.Fen
open Go.RowKit
variable {P:Program}{w0:World}{n0 N:Nat}{r:Option Nat}{Q:bP}{k:List TI}{env:dj}{S:List aH}
theorem cI.freezeC{ι:List Pl}{ψ:eb}{w:World}(h:cI w0 ι ψ S w){a:Nat}{cs:List AV}{ty:Option TypeId}(hS:S[a]? = some (.cells cs ty)) :
  ∃ ψ',ψ.le ψ'∧cI w0 ι ψ' (S.set a .dead) w∧∀ (o:Nat) (v:Value),VR ι ψ (.own a o) v→VR ι ψ' (.pro (cs.drop o)) v:=by
 obtain⟨pl,hpl,hB⟩:=h.get hS
 have hset:ι.set a pl=ι:=gk hpl
 obtain⟨hn0,⟨c,T,hw,hsz,hc⟩,hno,hty⟩:=hB
 have hcell:∀ j v,c[j]? = some v→w.cell? ⟨pl.blk,j,none⟩=some v:=fun j v hv=>by
  simp [p6,hw,hv]
 have hle:ψ.le (ψ.addRow pl.blk c.toList):=eb.le_addRow fun o v e=>by rw [hno o] at e;cases e
 have hext:dL ι ψ ι (ψ.addRow pl.blk c.toList):=⟨(dL.refl ι ψ).pl,hle⟩
 refine⟨ψ.addRow pl.blk c.toList,hle, ?_, ?_⟩
 ·have key:=h.update (w':=w) (ψ':=ψ.addRow pl.blk c.toList) (B':=.dead) (pl':=pl) hS hpl (BD _ _) (fun _ _ _=>rfl) (by rw [hset];exact hext) ?_ (fun k hk=>by cases hk) ?_ rfl
  ·rw [hset] at key;exact key
  ·trivial
  ·intro b o v ev
   simp only [eb.addRow] at ev
   split at ev
   ·next hb=>subst hb;exact .inr ⟨.inl rfl,hcell o v (by simpa using ev)⟩
   ·next hb=>exact .inl ⟨ev,by simp [aH.at];exact fun e=>hb e.symm⟩
 ·intro o v hv
  cases hv with
  | own _ _ pl' h' =>
   rw [hpl] at h';cases h'
   refine .pro (cs.drop o) pl.blk o (fun j=>(c[o+j]?).getD default) (fun j x ex=>?_) (fun j x ex=>?_)
   ·rw [cS] at ex
    obtain⟨h1,v,h2,_⟩:=hc (o+j) x ex
    exact⟨h1,by simp [eb.addRow,h2]⟩
   ·rw [cS] at ex
    obtain⟨h1,v,h2,h3⟩:=hc (o+j) x ex
    rw [h2]
    exact h3.mono hext
theorem n8{i:KI}{t a o:Nat}{cs:List AV}{ty:Option TypeId}(ht:env t=.own a o)(hS:S[a]? = some (.cells cs ty))
  (h:aW P w0 n0 N r (.it i::k) Q .normal (eJ env t (.pro (cs.drop o))) (S.set a .dead)):aW P w0 n0 N r (.it i::k) Q .normal env S:=by
 intro ι ψ w ac hR hE
 obtain⟨ψ1,hle,hR1,hv⟩:=hR.freezeC hS
 have hx:dL ι ψ ι ψ1:=⟨(dL.refl ι ψ).pl,hle⟩
 have hE':fI ι ψ1 N (eJ env t (.pro (cs.drop o))) ac:=by
  have htd:t≠DS:=fun e=>by
   obtain⟨l,vs,h1,_⟩:=hE.defers
   rw [e,h1] at ht;cases ht
  refine⟨hE.size,hE.bound, ?_,fun s=>?_⟩
  ·obtain⟨l,vs,h1,h2,h3,h4⟩:=hE.defers
   exact⟨l,vs,by rw [eJ,if_neg (Ne.symm htd)];exact h1,h2,fun j x v hx' hv=>(h3 j x v hx' hv).mono hx,h4⟩
  simp only [eJ]
  split
  ·next hs =>
   subst hs
   have hvv:=hE.tmp s
   rw [ht] at hvv
   exact hv o _ hvv
  ·exact(hE.tmp s).mono hx
 exact KI.mono (h ι ψ1 w ac hR1 hE') fun e a2 w2 hp=>hp.chain (hx.take n0)
end Go.Fen
namespace Go.Fen
open Go.RowKit
variable {P:Program}{w0:World}{n0 N:Nat}{r:Option Nat}{Q:bP}{k:List TI}{env:dj}{S:List aH}
theorem xL{i:KI}{t:Nat}(ht:env t=.snil)
  (h:aW P w0 n0 N r (.it i::k) Q .normal (eJ env t (.sval false [])) S):aW P w0 n0 N r (.it i::k) Q .normal env S:=by
 intro ι ψ w a hR hE
 refine h ι ψ w a hR ?_
 have htd:t≠DS:=fun e=>by
  obtain⟨l,vs,h1,_⟩:=hE.defers
  rw [e,h1] at ht;cases ht
 refine⟨hE.size,hE.bound, ?_,fun s=>?_⟩
 ·obtain⟨l,vs,h1,h2,h3,h4⟩:=hE.defers
  exact⟨l,vs,by rw [eJ,if_neg (Ne.symm htd)];exact h1,h2,h3,h4⟩
 simp only [eJ]
 split
 ·next hs =>
  subst hs
  have hv:=hE.tmp s
  rw [ht] at hv
  generalize a.tmps.getD s undef=c at hv
  cases hv
  exact .svnil _
 ·exact hE.tmp s
section
variable {ops:Array Oper}{f:Nat}{listed:Array Bool}{prot:List (Nat × List Nat)}
def pf(P:Program)(w0:World)(n0 N:Nat)(r:Option Nat)(ops:Array Oper)(k:List TI)(Q:bP)(f:Nat)(listed:Array Bool)(prot:List (Nat × List Nat))(env:dj)(S:List aH)(_i:Nat):Prop:=dS P w0 n0 N r ops k Q f listed prot env S
theorem Ej(h:pf P w0 n0 N r ops k Q f listed prot env S 0):dS P w0 n0 N r ops k Q f listed prot env S:=h
theorem J6{i:Nat}(_h0:(match qj ops listed with|some j=>decide (i<j)|none=>false)=true)(h:pf P w0 n0 N r ops k Q f listed prot env S (i+1)):pf P w0 n0 N r ops k Q f listed prot env S i:=h
theorem MF{i:Nat}(_h0:(match ci .any ops listed with|[j]=>decide (i<j)|_=>false)=true)(h:pf P w0 n0 N r ops k Q f listed prot env S (i+1)):pf P w0 n0 N r ops k Q f listed prot env S i:=h
theorem yO{i:Nat}{oi:Oper}{v:AV}{fp:List Nat}(hn:qj ops listed=some i)(hQ:J_ Q)(hN:decide (N≤DS)=true)(hi:ops[i]? = some oi)(hg:bX ops env oi=some true)(hs:ee P S (bl w0 env) oi.op=some (v,S))
  (hd:eG N oi.dst=true) (hfp:lM (bl w0 env) oi.op=fp) (h:dS P w0 n0 N r ops k Q f (listed.setIfInBounds i true) ((i,fp)::prot) (putA env oi.dst v) S):pf P w0 n0 N r ops k Q (f+1) listed prot env S i :=
 JS i hn hQ hN hi hg hs hd hfp h
theorem D4{i:Nat}{oi:Oper}(hn:qj ops listed=some i)(hQ:J_ Q)(hN:decide (N≤DS)=true)(hi:ops[i]? = some oi)(hg:bX ops env oi=some false)
  (hd:eG N oi.dst=true) (h:dS P w0 n0 N r ops k Q f (listed.setIfInBounds i true) ((i,[])::prot) (putA env oi.dst (.tup [])) S):pf P w0 n0 N r ops k Q (f+1) listed prot env S i :=
 Ll i hn hQ hN hi hg hd h
theorem D5{i:Nat}(hr:ci .any ops listed=[i])(h:jl P w0 N ops Q i (fun env' S'=>cQ ops i prot S S'∧dS P w0 n0 N r ops k Q f (listed.setIfInBounds i true) prot env' S') env S):pf P w0 n0 N r ops k Q (f+1) listed prot env S i :=
 Lm i hr h
theorem GI{i:Nat}{F:Func}{S0:List aH}{R:Rt}{oi:Oper}{v:AV}{fp:List Nat}(hn:qj ops listed=some i)(hi:ops[i]? = some oi)(hg:bX ops env oi=some true)(hs:ee P S (bl w0 env) oi.op=some (v,S))
  (hd:eG N oi.dst=true) (hf:qO F oi.dst=true) (hfp:lM (bl w0 env) oi.op=fp) (h:dS P w0 n0 N r ops k (nR P w0 F S0 R) f (listed.setIfInBounds i true) ((i,fp)::prot) (putA env oi.dst v) S):pf P w0 n0 N r ops k (nR P w0 F S0 R) (f+1) listed prot env S i :=
 Gu i hn hi hg hs hd hf hfp h
end
end Go.Fen
namespace Go.Fen
open Go.RowKit
variable {P:Program}{w0:World}{S:List aH}
def Ea(P:Program)(F:Func)(S0:List aH)(R:Rt):bP
 | .normal,env,S | .ret,env,S=>∃ ms S1 vs,env DS=.dfr ms∧eP ms S=some S1∧gx P env S1 F.results.toList=some vs∧R (.ret (cY vs)) S1
 | .panic v,env,S=>∃ ms S1,env DS=.dfr ms∧eP ms S=some S1∧R (.panic v) S1
 | _,_,_=>False
theorem DC{f:FuncId}{F:Func}{c:Code}{args:List AV}{R:Rt}(hf:P.funcs[f]? = some F)(hb:F.body=some c)(hname:(F.name == "runtime.NumGoroutine")=false)(hargs:args.length≤F.ntmps)(hbd:F.ntmps≤DS)
  (h0:bD S→aW P w0 S.length F.ntmps none [.it (.code c)] (Ea P F S R) .normal (dz args) S):aj P w0 f args S R:=by
 refine⟨fun a w=>by simp only [callFunc,b8,run_program,cy,hf,hname,hb];rfl,fun ι ψ w cargs hR hl hv=>?_⟩
 have h:=h0 fun j B hB=>hR.ltB hB
 refine(callsIn_wide (n:=0)).1 ?_
 refine callsIn_of_wp_marks (F:=Fence.wide) hf hb trivial ?_
 have hE:fI ι ψ F.ntmps (dz args) { tmps:=cargs++bO (F.ntmps - cargs.size) undef,defers:=[] }:=by
  refine⟨by simp;omega,hbd,⟨[],[],by simp [dz],rfl,by simp,rfl⟩,fun t=>?_⟩
  simp only [dz]
  split
  ·next ht =>
   have:(cargs++bO (F.ntmps - cargs.size) undef).getD t undef=undef:=by
    rw [aA,c_ (by simp;omega)];rfl
   rw [this]
   exact .dfr [] [] rfl (by simp)
  ·by_cases ht:t<args.length
   ·have e1:args[t]? = some args[t]:=al ht
    have ht':t<cargs.size:=by omega
    have e2:cargs[t]? = some cargs[t]:=bj ht'
    rw [e1,aA,la ht',e2]
    exact hv t _ _ e1 e2
   ·rw [ce (by omega)]
    exact .junk _
 refine wpIn_mono (h ι ψ w _ hR hE) fun e a' w' hp=>?_
 obtain⟨ι',ψ',x,env,S',h1,h2,h3,h4,h5⟩:=hp
 have hext:dL ι ψ ι' ψ':=by rw [← hR.len,bt] at h1;exact h1
 obtain⟨ds,dvs,d1,d2,d3,d4⟩:=h3.defers
 have ret:∀ (h5:∃ ms S1 vs,env DS=.dfr ms∧eP ms S'=some S1∧gx P env S1 F.results.toList=some vs∧R (.ret (cY vs)) S1),
   LeavesInM Fence.wide 0 P F a'.tmps (fun e w'=>∃ ι' ψ' out S',dL ι ψ ι' ψ'∧cI w0 ι' ψ' S' w'∧mE ι' ψ' out e∧R out S') a'.defers .returning w':=by
  rintro⟨ms,S1,vs,q1,q2,r1,r4⟩
  rw [q1] at d1;cases d1
  rw [d4]
  refine ks (by simp) ds dvs S' S1 w' q2 d2 d3 h2 fun w1 hR1=>?_
  obtain⟨cs,q1,q2,q3⟩:=mh (P:=P) hR1 h3 _ vs r1
  have hrun:(results F a'.tmps).run P w1=.ok (if h:cs.toArray.size=1 then cs.toArray[0] else .tuple cs.toArray) w1:=by
   unfold results
   rw [xK]
   simp only [b8,Sem.run_map]
   erw [q1]
   rfl
  have hv:VR ι' ψ' (cY vs) (if h:cs.toArray.size=1 then cs.toArray[0] else .tuple cs.toArray):=by
   match vs,cs,q2,q3 with
   | [],[],_,_=>exact .tup _ _ rfl (by simp)
   | [v],[c],_,q3=>simpa [cY] using q3 0 v c rfl rfl
   | v1::v2::vs,c1::c2::cs,q2,q3 =>
    simp only [cY,il,aB]
    rw [dif_neg (by omega)]
    exact .tup _ _ (by simpa using q2) (fun j x c hx hc=>q3 j x c hx (by simpa using hc))
   | [],_::_,q2,_=>simp at q2
   | [_],[],q2,_=>simp at q2
   | [_],_::_::_,q2,_=>simp at q2
   | _::_::_,[],q2,_=>simp at q2
   | _::_::_,[_],q2,_=>simp at q2
  exact⟨_,hrun,ι',ψ',.ret _,S1,hext,hR1,hv,r4⟩
 cases x with
 | normal=>cases e<;>simp only [XR] at h4;exact ret h5
 | ret=>cases e<;>simp only [XR] at h4;exact ret h5
 | exit id=>exact h5.elim
 | goto l=>exact h5.elim
 | panic v =>
  cases e<;>simp only [XR] at h4
  obtain⟨c,rfl,hv⟩:=h4
  obtain⟨ms,S1,q1,q2,r4⟩:=h5
  rw [q1] at d1;cases d1
  show LeavesInM _ _ _ _ _ _ a'.defers _ _
  rw [d4]
  refine ks (by simp) ds dvs S' S1 w' q2 d2 d3 h2 fun w1 hR1=>?_
  exact⟨ι',ψ',.panic _,S1,hext,hR1,⟨c,rfl,hv⟩,r4⟩
theorem Dz{F:Func}{S0 S2:List aH}{env:dj}{R:Rt}{ms vs:List AV}{v:AV}(h0:env DS=.dfr ms)(h01:eP ms S=some S2)(h1:gx P env S2 F.results.toList=some vs)(h3:cY vs=v)(h:R (.ret v) S2):Ea P F S0 R .ret env S:=by
 subst h3
 exact⟨ms,S2,vs,h0,h01,h1,h⟩
end Go.Fen
namespace Go.Fen
open Go.RowKit
variable {P:Program}{w0:World}{n0 N:Nat}{r:Option Nat}{Q:bP}{k:List TI}{env:dj}{S:List aH}
theorem nG{x:AV}(h:x.leaf=true):x.cells=[x]:=by
 cases x<;>first|rfl|cases h
theorem VR.proPart{ι:List Pl}{ψ:eb}{cs:List AV}{b o l:Nat}{cv:Nat→Value}(h1:∀ j x,cs[j]? = some x→x.leaf=true∧ψ.c b (o+j)=some (cv j))(h2:∀ j x,cs[j]? = some x→VR ι ψ x (cv j)) :
  VR ι ψ (.sval false (cs.drop l)) (.slice (some ⟨b,o+l,none⟩) (cs.length - l) (cs.length - l)):=by
 have hlen:(cs.drop l).length=cs.length - l:=by simp
 rw [← hlen]
 refine .sval 1 false (cs.drop l) b (o+l) _ (fun i _=>cv (l+i)) (fun i e he=>?_) (a8 _) (fun e=>by cases e) (fun i e j x he hj=>?_) (fun i e j x he hj=>?_)
 ·rw [cS] at he
  rw [nG (h1 _ _ he).1];rfl
 ·rw [cS] at he
  have hf:=h1 _ _ he
  rw [nG hf.1] at hj
  cases j with
  | zero =>
   cases hj
   refine⟨hf.1, ?_⟩
   rw [← hf.2];congr 1;omega
  | succ j=>simp at hj
 ·rw [cS] at he
  have hf:=h1 _ _ he
  rw [nG hf.1] at hj
  cases j with
  | zero=>cases hj;exact h2 _ _ he
  | succ j=>simp at hj
theorem BM{all:Array Oper}{o:Oper}{l:List Oper}{t e:TypeId}{m:Nat}{x lo:Operand}{cs:List AV}{i:Nat}{kk:IntKind}(hg:bX all env o=some true)(ho:o.op=.slice t x (some lo) none none)(ht:P.underlying t=some (.array m e))(he:eV P e=some 1)
  (hx:bl w0 env x=.pro cs) (hlo:bl w0 env lo=.int kk (i:Int)) (hm:cs.length=m) (hi:i≤m) (hds:eG N o.dst=true)
  (h:aW P w0 n0 N r (.it (.ops all l)::k) Q .normal (putA env o.dst (.sval false (cs.drop i))) S):aW P w0 n0 N r (.it (.ops all (o::l))::k) Q .normal env S:=by
 intro ι ψ w a hR hE
 have hwt:=cU hE hg
 refine dZ hwt (fun c hc=>by rw [hc] at ho;cases ho) ?_
 have hv:=hE.eval hR x
 rw [hx] at hv
 have hv2:=hE.eval hR lo
 rw [hlo] at hv2
 generalize hcx:a.eval x=cx at hv
 generalize hcl:a.eval lo=cl at hv2
 cases hv2 with
 | int _ _ =>
 cases hv with
 | pro _ b o' cv h1 h2 =>
  have hsub:(if m=i then (⟨b,o',none⟩:Addr) else (⟨b,o',none⟩:Addr).add (i * 1))=⟨b,o'+(if m=i then 0 else i),none⟩:=by
   split
   ·rfl
   ·simp only [Addr.add_lit,Nat.mul_one]
  have hb:(ec false m m (some (.int kk (i:Int))) none none).run P w=.ok (i,m,m) w:=by
   have hle:(0:Int)≤(i:Int)∧(i:Int)≤(m:Int):=by omega
   simp [ec,GS,asIntOf,hle]
   intro hh;omega
  have hres:(execOp a.eval o).run P w=.ok (.value (.slice (some ⟨b,o'+(if m=i then 0 else i),none⟩) (m - i) (m - i))) w:=by
   rw [← hsub]
   simp [execOp,ho,hcx,hcl,fT,run_underlying ht,ep,hb,co he]
  rw [hres]
  have hvv:VR ι ψ (.sval false (cs.drop i)) (.slice (some ⟨b,o'+(if m=i then 0 else i),none⟩) (m - i) (m - i)):=by
   by_cases hmi:m=i
   ·subst hmi
    have:cs.drop m=[]:=Es (by omega)
    rw [if_pos rfl,this]
    have:=VR.sval (ι:=ι) (ψ:=ψ) 1 false [] b (o'+0) (m - m) (fun _ _=>undef) (by simp) (by simp) (fun e=>by cases e) (by simp) (by simp)
    simpa using this
   ·rw [if_neg hmi,← hm]
    exact VR.proPart h1 h2
  exact KI.mono (h ι ψ _ _ hR (hE.putA hvv hds)) fun e a2 w2 hp=>hp
theorem po{i:KI}{t a:Nat}{S1:List aH}{v:AV}(htd:(t==DS)=false)(hS:dB S a=S1)(hv:conv S1 (yp S1) 4 (env t)=v)
  (h:aW P w0 n0 N r (.it i::k) Q .normal (eJ env t v) S1):aW P w0 n0 N r (.it i::k) Q .normal env S:=by
 subst hS hv
 intro ι ψ w ac hR hE
 obtain⟨ψ1,hle,hR1⟩:=jU (w0:=w0) hR a
 have hx:dL ι ψ ι ψ1:=⟨(dL.refl ι ψ).pl,hle⟩
 have hE1:fI ι ψ1 N env ac:=hE.mono hx
 have hfr:=kw hR1
 have htd':t≠DS:=by simpa using htd
 have hE':fI ι ψ1 N (eJ env t (conv (dB S a) (yp (dB S a)) 4 (env t))) ac:=by
  refine⟨hE1.size,hE1.bound, ?_,fun s=>?_⟩
  ·obtain⟨l,vs,h1,h2,h3,h4⟩:=hE1.defers
   exact⟨l,vs,by rw [eJ,if_neg (Ne.symm htd')];exact h1,h2,h3,h4⟩
  simp only [eJ]
  split
  ·next hs =>
   subst hs
   exact iQ hR1 (eb.le_refl _) hfr 4 _ _ (hE1.tmp _)
  ·exact hE1.tmp s
 exact KI.mono (h ι ψ1 w ac hR1 hE') fun e a2 w2 hp=>hp.chain (hx.take n0)
end Go.Fen
namespace Go.Fen
open Go.RowKit
variable {P:Program}{w0:World}{n0 N:Nat}{r:Option Nat}{Q:bP}{k:List TI}{env:dj}{S:List aH}
def iW(c:Array Value)(s:List UInt8):Prop:=∀ (j:Nat) (b:UInt8),s[j]? = some b→c[j]? = some (.int .u8 (b.toNat:Int))
abbrev Qi(c:Array Value)(e:TypeId):aH:=.obj (.cells c e (c.size,c.size+1))
theorem iW.size{c:Array Value}{s:List UInt8}(h:iW c s):s.length≤c.size:=by
 cases hs:s.length with
 | zero=>omega
 | succ n =>
  have h1:s[n]? = some s[n]:=al (by omega)
  have:=(bB.1 (h n _ h1)).1
  omega
theorem iW.set{c:Array Value}{s:List UInt8}(h:iW c s)(i:Nat)(b:UInt8):iW (c.setIfInBounds i (.int .u8 (b.toNat:Int))) (s.set i b):=by
 intro j x hx
 have hsz:=h.size
 rw [List.getElem?_set] at hx
 rw [bF]
 by_cases hij:i=j
 ·subst hij
  by_cases hl:i<s.length
  ·simp only [if_true,hl] at hx
   cases hx
   rw [if_pos rfl,if_pos (by omega)]
  ·simp only [if_true,hl,if_false] at hx
   cases hx
 ·rw [if_neg hij] at hx
  rw [if_neg hij]
  exact h j x hx
theorem iW.row{c:Array Value}{s:List UInt8}(h:iW c s):oh c s.length=some s:=by
 unfold oh
 rw [if_pos h.size]
 have key:c.toList.take s.length=s.map fun b=>eA .u8 (b.toNat:Int):=by
  apply List.ext_getElem?
  intro j
  rw [a_,aI]
  by_cases hj:j<s.length
  ·rw [if_pos hj,al hj,bn]
   exact h j _ (al hj)
  ·rw [if_neg hj,ce (by omega)];rfl
 rw [key]
 clear key h
 induction s with
 | nil=>rfl
 | cons b s ih=>simp [G6,ih]
end Go.Fen
namespace Go.Fen
open Go.RowKit
section
variable {P:Program}{w0 w:World}{n0 N:Nat}{r:Option Nat}{Q:bP}{k:List TI}{env:dj}{S:List aH}{ι:List Pl}{ψ:eb}
theorem mF.take{n0 n:Nat}{pl:Pl}{B:aH}(h:mF n0 ι ψ w pl B)(hB:B.ltB n=true):mF n0 (ι.take n) ψ w pl B:=by
 cases B with
 | cells cs ty =>
  obtain⟨h0,⟨c,T,h1,h2,h3⟩,h4,h5⟩:=h
  refine⟨h0,⟨c,T,h1,h2,fun j x e=>?_⟩,h4,h5⟩
  obtain⟨hl,v,hv,hr⟩:=h3 j x e
  exact⟨hl,v,hv,hr.take (db.1 hB x (ax e))⟩
 | arr e sz fz g els =>
  obtain⟨hg,hsz,hpos,hfz,⟨xs,hown,hxs⟩,hps⟩:=h
  refine⟨hg,hsz,hpos,hfz,⟨xs,hown,fun j x e'=>?_⟩,hps⟩
  obtain⟨hl,v,hv,hr,hro⟩:=hxs j x e'
  obtain⟨el,he1,he2⟩:=oN hsz hpos e'
  exact⟨hl,v,hv,hr.take (mn (db.1 hB el (ax he1)) he2),hro⟩
 | obj o=>exact h
 | loop st pend N tm ps asg body =>
  obtain⟨h0,⟨fn,vs,d,h1,h2,h2'⟩,h3,h4⟩:=h
  exact⟨h0,⟨fn,vs,d,h1,h2,fun p hp=>(h2' p hp).take (aC.1 hB p hp)⟩,h3,h4⟩
 | mp fz es =>
  obtain⟨h0,hn,⟨me,c,l,h1,h2,h3,h4,h5⟩,h6⟩:=h
  refine⟨h0,hn,⟨me,c,l,h1,h2,h3,⟨h4.1,fun i e m he hm=>?_⟩,h5⟩,h6⟩
  have hme:=eO.1 hB e (h3.mem_iff.1 (ax he))
  obtain⟨a,b⟩:=h4.2 i e m he hm
  exact⟨a.take hme.1,b.take hme.2⟩
 | mit cur rest =>
  obtain⟨h0,h1,h3,h4⟩:=h
  obtain⟨q1,q2⟩:=rD hB
  refine⟨h0, ?_,h3,h4⟩
  rcases h1 with h1|⟨mb,ck,me,seen,l,k1,k2,k3,k4,k5⟩
  ·exact .inl h1
  ·refine .inr ⟨mb,ck,me,seen,l,k1,k2,k3,⟨k4.1,fun i e m he hm=>?_⟩,fun e he=>?_⟩
   ·have hme:=eO.1 q1 e (k3.mem_iff.1 (ax he))
    obtain⟨a,b⟩:=k4.2 i e m he hm
    exact⟨a.take hme.1,b.take hme.2⟩
   ·obtain⟨b,m,j1,j2,j3,j4⟩:=k5 e he
    exact⟨b,m,j1,j2,j3.take (q2 e he).1,j4.take (q2 e he).2⟩
 | dead=>trivial
end
section
variable {P:Program}{w0:World}{n0 N:Nat}{r:Option Nat}{Q:bP}{k:List TI}{env:dj}{S:List aH}
variable {ops:Array Oper}{f:Nat}{listed:Array Bool}{prot:List (Nat × List Nat)}
def p5(P:Program)(w0:World)(n0 N:Nat)(r:Option Nat)(ops:Array Oper)(k:List TI)(Q:bP)(f:Nat)(listed:Array Bool)(prot:List (Nat × List Nat))(env:dj)(S:List aH)(i:Nat):Prop :=
 ∀ j∈ci .any ops listed,i≤j→jl P w0 N ops Q j (fun env' S'=>cQ ops j prot S S'∧dS P w0 n0 N r ops k Q f (listed.setIfInBounds j true) prot env' S') env S
theorem Qg(_h0:(match ci .any ops listed with|[]=>false|[_]=>false|_=>true)=true)(h:p5 P w0 n0 N r ops k Q f listed prot env S 0):dS P w0 n0 N r ops k Q (f+1) listed prot env S :=
 ⟨fun e=>(by rw [e] at _h0;cases _h0),fun j hj=>h j hj (bf _)⟩
theorem aF{i:Nat}(h0:(ci .any ops listed).all (fun j=>decide (j<i))=true):p5 P w0 n0 N r ops k Q f listed prot env S i :=
 fun j hj hi=>by have:=aC.1 h0 j hj;simp at this;omega
theorem Lr{i:Nat}(h0:(!(ci .any ops listed).contains i&&(ci .any ops listed).any fun j=>decide (i<j))=true)(h:p5 P w0 n0 N r ops k Q f listed prot env S (i+1)):p5 P w0 n0 N r ops k Q f listed prot env S i :=
 fun j hj hi=>by
  by_cases e:j=i
  ·subst e
   have:(ci .any ops listed).contains j=true:=by simpa using hj
   rw [this] at h0;cases h0
  ·exact h j hj (by omega)
theorem MC{i:Nat}(h:jl P w0 N ops Q i (fun env' S'=>cQ ops i prot S S'∧dS P w0 n0 N r ops k Q f (listed.setIfInBounds i true) prot env' S') env S)(h':p5 P w0 n0 N r ops k Q f listed prot env S (i+1)):p5 P w0 n0 N r ops k Q f listed prot env S i :=
 fun j hj hi=>by
  by_cases e:j=i
  ·subst e;exact h
  ·exact h' j hj (by omega)
end
end Go.Fen
namespace Go.Fen
open Go.RowKit
section
variable {P:Program}{w0:World}{n0 N:Nat}{r:Option Nat}{Q:bP}{k:List TI}{env:dj}{S:List aH}{all:Array Oper}{l:List Oper}{dst:Option Nat}{v:AV}{K:dj→List aH→Prop}
theorem eo(h:aW P w0 n0 N r (.it (.ops all l)::k) Q .normal (putA env dst v) S):aV P w0 n0 N r all l k Q env dst (.ret v) S:=h
theorem cF(h:aW P w0 n0 N r k Q (.panic v) env S):aV P w0 n0 N r all l k Q env dst (.panic v) S:=h
theorem J4(h:K (putA env dst v) S):cV Q K env dst (.ret v) S:=h
theorem DZ(h:Q (.panic v) env S):cV Q K env dst (.panic v) S:=h
end
theorem st {G K:Prop} (h:K) (run:Hid K→G:=by
 intro kk
 first
 | (first|apply fK|apply eg|apply dx|apply eh|apply fL|apply bU|apply fQ|apply bW|apply bJ|apply cE|apply bV|apply bI|apply bo|apply fO|fail);exact kk.out
 | apply bp;(· rfl);exact kk.out
 | apply cC;simp only [List.toList_toArray];exact kk.out
 | apply dq;(· rfl);(· simp only [go_sem, *];try rfl);(· rfl);simp only [putA];exact kk.out
 | apply dr;(· simp only [go_sem, *];try rfl);(· rfl);(· simp only [go_sem, *];try rfl);exact kk.out
 | apply dF;(iterate 2 (· simp only [go_sem, *];try rfl));(· rfl);simp only [putA];exact kk.out
 | apply bH;(· simp only [go_sem, *];try rfl);(· rfl);simp only [putA];exact kk.out
 | apply dt;(· simp only [go_sem, *];try rfl);exact kk.out
 | apply dw;(· simp only [go_sem, *];try rfl);exact kk.out
 | apply eo;simp only [putA];exact kk.out
 | apply cF;exact kk.out
 | fail):G:=run h
theorem sd {G K:Prop} (h:K) (run:Hid K→G:=by
 intro kk
 first
 | apply gi;(· exact mixed);(· simp only [List.size_toArray,List.length_cons,List.length_nil,Nat.reduceAdd];try rfl);exact kk.out
 | apply yC;(· decide +kernel);exact kk.out
 | apply Ej;(repeat (apply J6;(· decide +kernel)));apply yO;(· decide +kernel);(· first|exact jJ|exact jI|exact pB|assumption);(· rfl);(iterate 3 (· simp only [go_sem, *];try rfl));(· rfl);(· simp only [go_sem, *];try rfl);simp only [putA];exact kk.out
 | apply Ej;(repeat (apply J6;(· decide +kernel)));apply D4;(· decide +kernel);(· first|exact jJ|exact jI|exact pB|assumption);(· rfl);(iterate 2 (· simp only [go_sem, *];try rfl));(· rfl);simp only [putA];exact kk.out
 | apply Ej;(repeat (apply MF;(· decide +kernel)));apply D5;(· decide +kernel);exact kk.out
 | apply Qg;(· decide +kernel);exact kk.out
 | apply Lr;(· decide +kernel);exact kk.out
 | apply uQ;(iterate 3 (· simp only [go_sem, *];try rfl));(· rfl);simp only [putA];exact kk.out
 | apply C7;(iterate 2 (· simp only [go_sem, *];try rfl));(· rfl);simp only [putA];exact kk.out
 | apply J4;simp only [putA];exact kk.out
 | apply DZ;exact kk.out
 | apply x9;exact kk.out
 | apply uH;exact kk.out
 | apply ic;exact kk.out
 | apply ou;(· decide +kernel);exact kk.out
 | apply uK;(· simp only [go_sem, *];try rfl);exact kk.out
 | fail):G:=run h
theorem sx {G K:Prop} (h:K) (run:Hid K→G:=by
 intro kk
 first
 | apply Ej;(repeat (apply J6;(· decide +kernel)));apply GI;(· decide +kernel);(iterate 3 (· simp only [go_sem, *];try rfl));(· rfl);(· first|rfl|decide +kernel);(· simp only [go_sem, *];try rfl);simp only [putA];exact kk.out
 | apply gQ;(· decide +kernel);exact kk.out
 | fail):G:=run h
theorem LS(b:Bool):(((!b)=true)=(b=false))∧(((!b)=false)=(b=true)):=by cases b<;>simp
theorem br {G K L:Prop} (h:K) (h':L) (run:Hid K→Hid L→G:=by
 intro kk ll
 first
 | apply cD;(· rfl);(fail_if_success (focus (show _=some true;(· simp only [go_sem, *];try rfl))));(· simp only [go_sem, *];try rfl);(· intro hb;(try simp only [LS] at hb);revert hb;exact kk.out);(intro hb;(try simp only [LS] at hb);revert hb;exact ll.out)
 | apply du;(· simp only [go_sem, *];try rfl);(· intro hb;(try simp only [LS] at hb);revert hb;exact kk.out);(intro hb;(try simp only [LS] at hb);revert hb;exact ll.out)
 | fail):G:=run h h'
theorem bd {G K L:Prop} (h:K) (h':L) (run:Hid K→Hid L→G:=by
 intro kk ll
 first
 | apply CY;(· exact kk.out);exact ll.out
 | apply MC;(· exact kk.out);exact ll.out
 | fail):G:=run h h'
theorem ca {G K:Prop} (h:K) (run:Hid K→G:=by
 intro kk
 first
 | apply cZ [];(· simp only [go_sem, *];try rfl);(· rfl);(· simp only [go_sem, *];try rfl);(· rfl);(iterate 2 (· simp only [go_sem, *];try rfl));exact kk.out
 | fail):G:=run h
theorem cd {G K:Prop} (h:K) (run:Hid K→G:=by
 intro kk
 first
 | apply iI [];(iterate 2 (· simp only [go_sem, *];try rfl));(· rfl);(· simp only [go_sem, *];try rfl);(· rfl);(iterate 2 (· simp only [go_sem, *];try rfl));exact kk.out
 | fail):G:=run h
theorem fR {G K p:Prop} (hr:p) (h:K) (run:Hid p→Hid K→G:=by
 intro rr kk
 apply zL
 iterate 7 (· simp only [go_sem, *,rr.out];try rfl)
 exact kk.out):G:=run hr h
theorem fE {G K p:Prop} (hr:p) (h:K) (run:Hid p→Hid K→G:=by
 intro rr kk
 apply Li
 iterate 7 (· simp only [go_sem, *,rr.out];try rfl)
 exact kk.out):G:=run hr h
theorem fP {G K:Prop} (h:K) (run:Hid K→G:=by
 intro kk
 apply Gk
 iterate 6 (· simp only [go_sem, *];try rfl)
 exact kk.out):G:=run h
theorem Gl {G A B K p:Prop} (hr:p) (hO:A) (hl:B) (h:K) (run:Hid p→Hid A→Hid B→Hid K→G:=by
 intro rr aa bb kk
 apply Dx
 iterate 5 (· simp only [go_sem, *,rr.out];try rfl)
 ·exact aa.out
 ·exact bb.out
 exact kk.out):G:=run hr hO hl h
theorem JI {G A B K p:Prop} (hr:p) (hO:A) (hl:B) (h:K) (run:Hid p→Hid A→Hid B→Hid K→G:=by
 intro rr aa bb kk
 apply JF
 iterate 5 (· simp only [go_sem, *,rr.out];try rfl)
 ·exact aa.out
 ·exact bb.out
 exact kk.out):G:=run hr hO hl h
theorem eN{P:Program}{w0:World}{S:List aH}{f:FuncId}{F:Func}{c:Code}{args:List AV}{R:Rt}{n:Nat}(hf:P.funcs[f]? = some F)(hb:F.body=some c)(hn:F.ntmps=n)
 (h0:bD S→aW P w0 S.length n none [.it (.code c)] (kC P F S R) .normal (dz args) S) (hname:(F.name == "runtime.NumGoroutine")=false:=by decide +kernel) (hargs:args.length≤n:=by simp) (hbd:n≤DS:=by decide):aj P w0 f args S R:=by
 subst hn;exact enter hf hb hname hargs hbd h0
theorem ss{p:Prop}(h:p:=by (simp only [go_sem, *];try rfl)):p:=h
end Go.Fen
namespace Go.Fen
open Go.RowKit
theorem dp(n:Nat){P:Program}{w0:World}{n0 N:Nat}{r:Option Nat}{Q:bP}{k:List TI}{env:dj}{S:List aH}{all:Array Oper}{o:Oper}{l:List Oper}(h:o.dst=some n)(hf:False):aW P w0 n0 N r (.it (.ops all (o::l))::k) Q .normal env S:=hf.elim
theorem cq(n:Nat){P:Program}{w0:World}{n0 N:Nat}{r:Option Nat}{Q:bP}{k:List TI}{env:dj}{S:List aH}{ops:Array Oper}{b:Bool}(hf:False):aW P w0 n0 N r (.it (.code (.region n ops b))::k) Q .normal env S:=hf.elim
section
variable {P:Program}{w0:World}{n0 N:Nat}{r:Option Nat}{Q:bP}{k:List TI}{ops:Array Oper}
end
end Go.Fen
namespace Go.Fen
open Go.RowKit
variable {P:Program}{w0:World}{n0 N:Nat}{r:Option Nat}{Q:bP}{k:List TI}{env:dj}{S:List aH}
theorem qV{all:Array Oper}{o:Oper}{l:List Oper}{t e:TypeId}{x:Operand}{n sz:Nat}{els:List AV}(hg:bX all env o=some true)(ho:o.op=.slice t x none none none)(ht:P.underlying t=some (.array n e))(hs:eV P e=some sz)
  (hx:bl w0 env x=.pro (en els)) (hl:els.length=n) (hok:∀ y∈els,y.cells.length=sz) (hds:eG N o.dst=true)
  (h:aW P w0 n0 N r (.it (.ops all l)::k) Q .normal (putA env o.dst (.sval true els)) S):aW P w0 n0 N r (.it (.ops all (o::l))::k) Q .normal env S:=by
 intro ι ψ w a hR hE
 have hw:=cU hE hg
 refine dZ hw (fun c hc=>by rw [hc] at ho;cases ho) ?_
 have hv:=hE.eval hR x
 rw [hx] at hv
 generalize hcx:a.eval x=cx at hv
 cases hv with
 | pro _ b off cv h1 h2 =>
  have hres:(execOp a.eval o).run P w=.ok (.value (.slice (some ⟨b,off,none⟩) n n)) w:=by
   by_cases hn:n=0
   ·subst hn
    simp [execOp,ho,hcx,fT,ep,run_underlying ht,ec,co hs]
   ·simp [execOp,ho,hcx,fT,ep,run_underlying ht,ec,co hs,hn,Addr.add_lit]
  rw [hres]
  have hvv:VR ι ψ (.sval true els) (.slice (some ⟨b,off,none⟩) n n):=by
   rw [← hl]
   refine .sval sz true els b off els.length (fun i j=>cv (i * sz+j)) (fun i y hy=>hok y (ax hy)) (a8 _) (fun _=>rfl) (fun i y j z hy hz=>?_) (fun i y j z hy hz=>?_)
   ·have:=h1 _ _ (j6 hok hy hz)
    rw [ub]
    exact this
   ·exact h2 _ _ (j6 hok hy hz)
  exact KI.mono (h ι ψ _ _ hR (hE.putA hvv hds)) fun e a2 w2 hp=>hp
end Go.Fen
namespace Go.Fen
open Go.RowKit
section
variable {P:Program}{w0:World}{n0 N:Nat}{r:Option Nat}{Q:bP}{k:List TI}{ops:Array Oper}
def rH(ops:Array Oper)(listed:Array Bool):Nat:=(ba ops.size).countP fun i=>!listed.getD i true
theorem sf{p q:Nat→Bool}{i:Nat}:∀ {l:List Nat},l.Nodup→i∈l→p i=true→q i=false→(∀ j,j≠i→q j=p j)→l.countP q+1=l.countP p
 | [],_,h,_,_,_=>by cases h
 | a::l,hn,h,h1,h2,h3=>by
  rw [pj] at hn
  rcases bz.1 h with rfl|h
  ·rw [List.countP_cons_of_neg (by simp [h2]),List.countP_cons_of_pos h1]
   congr 1
   refine List.countP_congr fun j hj=>?_
   rw [h3 j (fun e=>hn.1 (e▸hj))]
  ·have ih:=sf hn.2 h h1 h2 h3
   have hai:a≠i:=fun e=>hn.1 (e▸h)
   rw [Et,Et,h3 a hai]
   omega
theorem zO(I:Array Bool→dj→List aH→Prop)
  (step:∀ (listed:Array Bool) (env:dj) (S:List aH) (i:Nat) (o:Oper),I listed env S→ops[i]? = some o→listed.getD i true=false→(∀ e∈o.after,eU .any e=true→listed.getD e.on false=true)→jl P w0 N ops Q i (fun env' S'=>I (listed.setIfInBounds i true) env' S') env S)
  (fin:∀ (listed:Array Bool) (env:dj) (S:List aH),I listed env S→ci .any ops listed=[]→aW P w0 n0 N r k Q .normal env S) :
  ∀ (f:Nat) (listed:Array Bool) (env:dj) (S:List aH),I listed env S→rH ops listed≤f→dS P w0 n0 N r ops k Q f listed [] env S:=by
 intro f
 induction f with
 | zero =>
  intro listed env S hI hl
  have hr:ci .any ops listed=[]:=by
   rw [List.eq_nil_iff_forall_not_mem]
   intro i hi
   obtain⟨hu,o,ho,_⟩:=mem_ready.1 hi
   have hlt:i<ops.size:=(bB.1 ho).1
   have:0<rH ops listed:=List.countP_pos_iff.2 ⟨i,dI.2 hlt,by simp [hu]⟩
   omega
  exact⟨hr,fin _ _ _ hI hr⟩
 | succ f ih =>
  intro listed env S hI hl
  refine⟨fun hr=>fin _ _ _ hI hr,fun i hi=>?_⟩
  obtain⟨hu,o,ho,hd⟩:=mem_ready.1 hi
  have hlt:i<ops.size:=(bB.1 ho).1
  refine(step listed env S i o hI ho hu hd).mono fun env' S' hI'=>⟨trivial,ih _ _ _ hI' ?_⟩
  have hsz:i<listed.size:=by
   by_cases h:i<listed.size
   ·exact h
   ·have:listed.getD i true=true:=by simp [lb,h]
    rw [this] at hu;cases hu
  have:=sf (p:=fun i=>!listed.getD i true) (q:=fun j=>!(listed.setIfInBounds i true).getD j true) (i:=i) List.nodup_range (dI.2 hlt) (by simp [hu]) (by simp [aA,hsz]) (fun j hj=>by
   simp only [aA,jH (Ne.symm hj)])
  unfold rH at hl ⊢
  omega
def r_(ops:Array Oper):Bool:=(ba ops.size).all fun i=>match ops[i]? with
 | some o=>o.after.all fun e=>!eU .any e||decide (e.on<i)
 | none=>true
theorem lx(hd:r_ ops=true){listed:Array Bool}(hr:ci .any ops listed=[]):∀ i,i<ops.size→listed.getD i true=true:=by
 intro i
 induction i using Nat.strongRecOn with
 | _ i ih =>
  intro hi
  cases hl:listed.getD i true with
  | true=>rfl
  | false =>
   have hm:i∈ci .any ops listed:=by
    refine mem_ready.2 ⟨hl,ops[i],bj hi,fun e he hb=>?_⟩
    have h1:=aC.1 hd i (dI.2 hi)
    rw [bj hi] at h1
    simp only [Array.all_eq_true_iff_forall_mem] at h1
    have h2:=h1 e he
    rw [hb] at h2
    simp only [b9,vH,decide_eq_true_eq] at h2
    have h3:=ih e.on h2 (by omega)
    have hsz:e.on<listed.size:=by
     have:i<listed.size:=by
      by_cases h:i<listed.size
      ·exact h
      ·have:listed.getD i true=true:=by simp [lb,h]
       rw [this] at hl;cases hl
     omega
    simp only [aA,bj hsz,En] at h3 ⊢
    exact h3
   rw [hr] at hm;cases hm
end
end Go.Fen
namespace Go.Fen
open Go.RowKit
theorem VR.mperm{ι:List Pl}{ψ:eb}{es es':List (AV × AV)}{c:Value}(h:VR ι ψ (.mval es) c)(hp:es.Perm es'):VR ι ψ (.mval es') c:=by
 cases h with
 | mval _ l b ck me hb hp' hl hn h1 h2=>exact .mval es' l b ck me hb (hp'.trans hp) hl ((hp.map cG).nodup_iff.1 hn) h1 h2
section
variable {P:Program}{w0:World}{n0 N:Nat}{r:Option Nat}{Q:bP}{k:List TI}{env:dj}{S:List aH}
theorem aj.mperm{f:FuncId}{args:List AV}{R:Rt}{E:List (AV × AV)}(h:aj P w0 f args S (fun out S'=>∃ es,out=.ret (.mval es)∧es.Perm E∧R (.ret (.mval E)) S')):aj P w0 f args S R:=by
 refine⟨h.1,fun ι ψ w cargs hR hl hv=>(h.2 ι ψ w cargs hR hl hv).mono ?_⟩
 rintro e w' ⟨ι',ψ',out,S',h1,h2,h3,es,rfl,e2,e3⟩
 refine⟨ι',ψ',.ret (.mval E),S',h1,h2, ?_,e3⟩
 cases e<;>simp only [mE] at h3 ⊢
 exact h3.mperm e2
end
inductive g9 where
 | val (d:Nat) (v:AV)
 | mk (d:Nat)
 | ent (k v:AV)
def g9.dst:g9→Option Nat
 | .val d _=>some d
 | .mk d=>some d
 | .ent _ _=>none
def g9.out(m:Nat):g9→AV
 | .val _ v=>v
 | .mk _=>.mown m
 | .ent _ _=>.tup []
def jg:Nat→List g9→List (Nat × AV × AV)
 | _,[]=>[]
 | i,.ent k v::r=>(i,k,v)::jg (i+1) r
 | i,_::r=>jg (i+1) r
def gm(T:List (Nat × AV × AV))(listed:Array Bool):List (AV × AV):=(T.filter fun p=>listed.getD p.1 true).map fun p=>p.2
theorem jV{T:List (Nat × AV × AV)}{listed:Array Bool}{i:Nat}(h:∀ p∈T,p.1≠i):gm T (listed.setIfInBounds i true)=gm T listed:=by
 unfold gm
 congr 1
 refine List.filter_congr fun p hp=>?_
 rw [getD_set_ne true (Ne.symm (h p hp))]
theorem j7:∀ {l:List g9}{i:Nat},∀ p∈jg i l,i≤p.1
 | [],_,p,h=>by cases h
 | .ent k v::r,i,p,h=>by
  rcases bz.1 h with rfl|h
  ·exact a8 _
  ·have:=j7 p h;omega
 | .val d v::r,i,p,h=>by have:=j7 (l:=r) p h;omega
 | .mk d::r,i,p,h=>by have:=j7 (l:=r) p h;omega
theorem iP:∀ {l:List g9}{i j:Nat}{k v:AV},(j,k,v)∈jg i l→l[j - i]? = some (.ent k v)
 | [],_,_,_,_,h=>by cases h
 | .ent k v::r,i,j,k',v',h=>by
  rcases bz.1 h with h|h
  ·cases h;simp
  ·have h1:=j7 _ h
   have h2:=iP h
   rw [show j - i=(j - (i+1))+1 by simp only at h1;omega]
   exact h2
 | .val d v::r,i,j,k',v',h=>by
  have h1:=j7 (l:=r) _ h
  have h2:=iP (l:=r) h
  rw [show j - i=(j - (i+1))+1 by simp only at h1;omega]
  exact h2
 | .mk d::r,i,j,k',v',h=>by
  have h1:=j7 (l:=r) _ h
  have h2:=iP (l:=r) h
  rw [show j - i=(j - (i+1))+1 by simp only at h1;omega]
  exact h2
theorem tR:∀ {l:List g9}{i j:Nat}{k v:AV},l[j]? = some (.ent k v)→∃ A B,jg i l=A++(i+j,k,v)::B∧(∀ p∈A,p.1≠i+j)∧(∀ p∈B,p.1≠i+j)
 | [],_,_,_,_,h=>by simp at h
 | x::r,i,0,k,v,h=>by
  simp at h
  subst h
  exact⟨[],jg (i+1) r,rfl,by simp,fun p hp=>by have:=j7 p hp;omega⟩
 | x::r,i,j+1,k,v,h=>by
  obtain⟨A,B,h1,h2,h3⟩:=tR (l:=r) (i:=i+1) (j:=j) (by simpa using h)
  rw [show i+1+j=i+(j+1) by omega] at h1 h2 h3
  cases x with
  | val d v=>exact⟨A,B,h1,h2,h3⟩
  | mk d=>exact⟨A,B,h1,h2,h3⟩
  | ent k' v' =>
   refine⟨(i,k',v')::A,B,by rw [jg,h1];rfl,fun p hp=>?_,h3⟩
   rcases bz.1 hp with rfl|hp
   ·simp only;omega
   ·exact h2 p hp
theorem AO{A B:List (Nat × AV × AV)}{listed:Array Bool}{i:Nat}{k v:AV}{es:List (AV × AV)}(hp:es.Perm (gm (A++(i,k,v)::B) listed))(hu:listed.getD i true=false)(h1:∀ p∈A,p.1≠i)(h2:∀ p∈B,p.1≠i) :
  (es++[(k,v)]).Perm (gm (A++(i,k,v)::B) (listed.setIfInBounds i true)):=by
 have hi:i<listed.size:=by
  by_cases h:i<listed.size
  ·exact h
  ·have:listed.getD i true=true:=by simp [lb,h]
   rw [this] at hu;cases hu
 have e0:∀ l:Array Bool,gm (A++(i,k,v)::B) l=gm A l++(gm [(i,k,v)] l++gm B l):=by
  intro l;unfold gm;rw [show A++(i,k,v)::B=A++([(i,k,v)]++B) by simp,GQ,GQ,aY,aY]
 rw [e0] at hp
 rw [e0,jV h1,jV h2]
 have e1:gm [(i,k,v)] listed=[]:=by
  unfold gm
  rw [List.filter_cons_of_neg (by simp only;rw [hu];decide)]
  rfl
 have e2:gm [(i,k,v)] (listed.setIfInBounds i true)=[(k,v)]:=by simp [gm,aA,hi]
 rw [e1,fS] at hp
 rw [e2]
 refine(hp.append_right _).trans ?_
 rw [aN]
 exact(List.perm_append_comm).append_left _
def mr(P:Program)(kt:TypeId):List (AV × AV)→Bool
 | []=>true
 | e::l=>eX P kt e.1&&((l.all fun f=>!ku e.1 f.1)&&((l.all fun f=>!ku f.1 e.1)&&mr P kt l))
theorem nI{P:Program}{kt:TypeId}:∀ {l:List (AV × AV)},mr P kt l=true→∀ e∈l,eX P kt e.1=true
 | [],_,e,he=>by cases he
 | x::l,h,e,he=>by
  simp only [mr,ao] at h
  rcases bz.1 he with rfl|he
  ·exact h.1
  ·exact nI h.2.2.2 e he
theorem nH{P:Program}{kt:TypeId}:∀ {A B:List (AV × AV)}{e:AV × AV},mr P kt (A++e::B)=true→∀ f,f∈A∨f∈B→ku e.1 f.1=false
 | [],B,e,h,f,hf=>by
  simp only [fS,mr,ao,aC,aw] at h
  rcases hf with hf|hf
  ·cases hf
  ·exact h.2.1 f hf
 | x::A,B,e,h,f,hf=>by
  simp only [ft,mr,ao,aC,aw] at h
  rcases hf with hf|hf
  ·rcases bz.1 hf with rfl|hf
   ·exact h.2.2.1 e (by simp)
   ·exact nH h.2.2.2 f (.inl hf)
  ·exact nH h.2.2.2 f (.inr hf)
section
variable {P:Program}{w0:World}{n0 N:Nat}{r:Option Nat}{Q:bP}{k:List TI}{ops:Array Oper}
def GL(ops:Array Oper)(pl:List g9)(m:Nat)(dz:dj)(i:Nat)(env:dj):Prop :=
 (∀ j,kQ ops i j=false→∀ f,pl[j]? = some f→∀ d,f.dst=some d→env d=f.out m)∧∀ t,(pl.all fun f=>!(f.dst==some t))=true→env t=dz t
def Hz(P:Program)(w0:World)(N:Nat)(Q:bP)(ops:Array Oper)(pl:List g9)(S0:List aH)(dz:dj)(t kt et:TypeId)(i:Nat):Prop :=
 match pl[i]? with
 | some (.val d v)=>∀ env S,GL ops pl S0.length dz i env→(S=S0∨∃ es,S=S0++[.mp false es])→jl P w0 N ops Q i (fun env' S'=>env'=eJ env d v∧S'=S) env S
 | some (.mk d)=>∀ env,GL ops pl S0.length dz i env→jl P w0 N ops Q i (fun env' S'=>env'=eJ env d (.mown S0.length)∧S'=S0++[.mp false []]) env S0
 | some (.ent a v)=>∃ (o:Oper) (mo ko vo:Operand),ops[i]? = some o∧o.dst=none∧o.guard=none∧(o.op=.mapUpdate t mo ko vo∨o.op=.insert t mo ko vo)∧∀ env,GL ops pl S0.length dz i env→bl w0 env mo=.mown S0.length∧bl w0 env ko=a∧bl w0 env vo=v
 | none=>True
def o4(F:Nat→Prop):Nat→Nat→Prop
 | _,0=>True
 | i,n+1=>F i∧o4 F (i+1) n
theorem kB{F:Nat→Prop}:∀ {n i j:Nat},o4 F i n→i≤j→j<i+n→F j
 | 0,i,j,_,h1,h2=>by omega
 | n+1,i,j,h,h1,h2=>by
  by_cases e:i=j
  ·subst e;exact h.1
  ·exact kB h.2 (by omega) (by omega)
def CZ(ops:Array Oper)(pl:List g9)(j0:Nat):Bool :=
 pl.length==ops.size&&((match pl[j0]? with
  | some (.mk _)=>true
  | _=>false)&&((ba pl.length).all fun i=>match pl[i]? with
   | some (.mk _)=>i==j0
   | some (.ent _ _)=>!kQ ops i j0
   | _=>true))&&decide ((pl.filterMap g9.dst).Nodup)
theorem JO{pl:List g9}(h:(pl.filterMap g9.dst).Nodup):∀ {i j:Nat}{f g:g9}{d:Nat},pl[i]? = some f→pl[j]? = some g→f.dst=some d→g.dst=some d→i=j:=by
 induction pl with
 | nil=>intro i j f g d h1;simp at h1
 | cons x pl ih =>
  intro i j f g d h1 h2 h3 h4
  have hmem:∀ {j:Nat}{g:g9},pl[j]? = some g→g.dst=some d→d∈pl.filterMap g9.dst:=fun hg hd=>sI.2 ⟨_,ax hg,hd⟩
  have hn:(pl.filterMap g9.dst).Nodup∧(x.dst=some d→d∉pl.filterMap g9.dst):=by
   cases hx:x.dst with
   | none=>rw [List.filterMap_cons_none hx] at h;exact⟨h,fun e=>by cases e⟩
   | some d'=>rw [List.filterMap_cons_some hx] at h;rw [pj] at h;exact⟨h.2,fun e=>by cases e;exact h.1⟩
  cases i with
  | zero =>
   simp at h1;subst h1
   cases j with
   | zero=>rfl
   | succ j=>exact absurd (hmem (by simpa using h2) h4) (hn.2 h3)
  | succ i =>
   cases j with
   | zero=>simp at h2;subst h2;exact absurd (hmem (by simpa using h1) h3) (hn.2 h4)
   | succ j =>
    have:=ih hn.1 (i:=i) (j:=j) (by simpa using h1) (by simpa using h2) h3 h4
    omega
structure LJ (pl:List g9) (j0:Nat) (dz:dj) (S0:List aH) (listed:Array Bool) (env:dj) (S:List aH):Prop where
 slot:∀ i f,pl[i]? = some f→listed.getD i true=true→∀ d,f.dst=some d→env d=f.out S0.length
 keep:∀ t,(pl.all fun f=>!(f.dst==some t))=true→env t=dz t
 m1:listed.getD j0 true=true→∃ es,es.Perm (gm (jg 0 pl) listed)∧S=S0++[.mp false es]
 m0:listed.getD j0 true=false→gm (jg 0 pl) listed=[]∧S=S0
theorem wb{pl:List g9}(hn:(pl.filterMap g9.dst).Nodup){m i d:Nat}{f:g9}{listed:Array Bool}{env:dj}(hf:pl[i]? = some f)(hd:f.dst=some d)
  (h:∀ i f,pl[i]? = some f→listed.getD i true=true→∀ d,f.dst=some d→env d=f.out m) :
  ∀ j g,pl[j]? = some g→(listed.setIfInBounds i true).getD j true=true→∀ e,g.dst=some e→eJ env d (f.out m) e=g.out m:=by
 intro j g hg hl e he
 by_cases hji:j=i
 ·subst hji
  rw [hf] at hg;cases hg
  rw [hd] at he;cases he
  simp [eJ]
 ·have hde:e≠d:=fun hh=>hji (JO hn hg hf he (hh▸hd))
  rw [show eJ env d (f.out m) e=env e by simp [eJ,hde]]
  rw [getD_set_ne true (Ne.symm hji)] at hl
  exact h j g hg hl e he
theorem wN{pl:List g9}{i d:Nat}{f:g9}{env dz:dj}{v:AV}(hf:pl[i]? = some f)(hd:f.dst=some d)(h:∀ t,(pl.all fun f=>!(f.dst==some t))=true→env t=dz t) :
  ∀ t,(pl.all fun f=>!(f.dst==some t))=true→eJ env d v t=dz t:=by
 intro t ht
 have hne:t≠d:=by
  rintro rfl
  have:=aC.1 ht f (ax hf)
  rw [hd] at this
  simp at this
 rw [show eJ env d v t=env t by simp [eJ,hne]]
 exact h t ht
theorem vV{kk v:AV}{es:List (AV × AV)}(h:∀ e∈es,ku kk e.1=false):jC kk v es=es++[(kk,v)]:=by
 unfold jC
 rw [if_neg]
 rw [Bool.not_eq_true,Eg]
 intro e he
 rw [h e he]
 decide
theorem JT{it:KI}(pl:List g9)(j0:Nat){t kt et:TypeId}{n:Nat}{dz:dj}{S0:List aH}(hn:ops.size=n)(hok:CZ ops pl j0=true)(hdep:r_ ops=true)(ht:P.underlying t=some (.map kt et))(hk:mr P kt ((jg 0 pl).map fun p=>p.2)=true)
  (hstep:o4 (Hz P w0 N Q ops pl S0 dz t kt et) 0 n)
  (fin:∀ env:dj,(∀ (i:Nat) (f:g9),pl[i]? = some f→∀ d,f.dst=some d→env d=f.out S0.length)→(∀ t,(pl.all fun f=>!(f.dst==some t))=true→env t=dz t)→aW P w0 n0 N r (.it it::k) Q .normal env (S0++[.mp false ((jg 0 pl).map fun p=>p.2)])) :
  dS P w0 n0 N r ops (.it it::k) Q n (bO n false) [] dz S0:=by
 simp only [CZ,ao,beq_iff_eq,decide_eq_true_eq,aC,dI] at hok
 obtain⟨⟨hlen,hmk,hall⟩,hnd⟩:=hok
 have hT:∀ p∈jg 0 pl,p.1≠j0:=by
  rintro⟨j,a,v⟩ hp rfl
  have h1:=iP hp
  rw [Nat.sub_zero] at h1
  rw [h1] at hmk
  cases hmk
 refine zO (fun listed env S=>LJ pl j0 dz S0 listed env S) ?step ?fin n _ _ _ ?init ?left
 case left =>
  unfold rH
  rw [← hn]
  exact eT (nS) (by simp)
 case init =>
  have hj:j0<n:=by
   cases h:pl[j0]? with
   | none=>rw [h] at hmk;cases hmk
   | some f=>have:=(af.1 h).1;omega
  have hrep:∀ i,i<n→(bO n false).getD i true=false:=fun i hi=>by simp [lb,hi]
  refine⟨fun i f hf hl=>?_,fun t _=>rfl,fun hl=>?_,fun _=>⟨?_,rfl⟩⟩
  ·have hi:=(af.1 hf).1
   rw [hrep i (by omega)] at hl;cases hl
  ·rw [hrep j0 hj] at hl;cases hl
  ·unfold gm
   rw [List.map_eq_nil_iff,List.filter_eq_nil_iff]
   rintro⟨j,a,v⟩ hp
   have h1:=iP hp
   have hi:=(af.1 h1).1
   simp only
   rw [hrep j (by omega)]
   simp
 case fin =>
  intro listed env S hI hr
  have hal:=lx hdep hr
  have hl:∀ i,i<pl.length→listed.getD i true=true:=fun i hi=>hal i (by omega)
  have hj:j0<pl.length:=by
   cases h:pl[j0]? with
   | none=>rw [h] at hmk;cases hmk
   | some f=>exact(af.1 h).1
  obtain⟨es,hp,rfl⟩:=hI.m1 (hl j0 hj)
  have hm:gm (jg 0 pl) listed=(jg 0 pl).map fun p=>p.2:=by
   unfold gm
   congr 1
   rw [List.filter_eq_self]
   rintro⟨j,a,v⟩ hp
   have h1:=iP hp
   exact hl j (by have:=(af.1 h1).1;omega)
  rw [hm] at hp
  have hg:(S0++[aH.mp false es])[S0.length]? = some (.mp false es):=by simp
  refine nZ S0.length hg hp (by rw [fb _ _ (a8 _),Nat.sub_self]) ?_
  exact fin env (fun i f hf d hd=>hI.slot i f hf (hl i (af.1 hf).1) d hd) hI.keep
 case step =>
  intro listed env S i o hI ho hu hd
  have hi:i<n:=by have:=(bB.1 ho).1;omega
  have hs:=kB hstep (bf i) (by omega)
  have hD:GL ops pl S0.length dz i env:=by
   refine⟨fun j hj f hf d hd'=>hI.slot j f hf ?_ d hd',hI.keep⟩
   unfold kQ at hj
   simp only [ho,aE] at hj
   rw [pk] at hj
   obtain⟨e,he,hb⟩:=hj
   simp only [ao,beq_iff_eq] at hb
   have h1:=hd e he hb.1
   rw [hb.2] at h1
   simp only [aA] at h1 ⊢
   cases hx:listed[j]? with
   | none=>rfl
   | some b=>rw [hx] at h1;simpa using h1
  unfold Hz at hs
  have hpi:∃ f,pl[i]? = some f:=⟨pl[i]'(by omega),al (by omega)⟩
  obtain⟨f,hf⟩:=hpi
  rw [hf] at hs
  have hne0:(∀ d,f≠.mk d)→j0≠i:=by
   rintro h rfl
   rw [hf] at hmk
   cases f with
   | mk d=>exact h d rfl
   | val=>cases hmk
   | ent=>cases hmk
  cases f with
  | val d v =>
   have hj:=hne0 (fun d h=>by cases h)
   have hTi:∀ p∈jg 0 pl,p.1≠i:=by
    rintro⟨j,a,v⟩ hp rfl
    have h1:=iP hp
    rw [Nat.sub_zero,hf] at h1;cases h1
   have hSS:S=S0∨∃ es,S=S0++[.mp false es]:=by
    cases hl:listed.getD j0 true with
    | true=>obtain⟨es,_,e⟩:=hI.m1 hl;exact .inr ⟨es,e⟩
    | false=>exact .inl (hI.m0 hl).2
   refine(hs env S hD hSS).mono ?_
   rintro env' S' ⟨rfl,rfl⟩
   refine⟨wb hnd hf rfl hI.slot,wN hf rfl hI.keep,fun hl=>?_,fun hl=>?_⟩
   ·rw [getD_set_ne true (Ne.symm hj)] at hl
    rw [jV hTi]
    exact hI.m1 hl
   ·rw [getD_set_ne true (Ne.symm hj)] at hl
    rw [jV hTi]
    exact hI.m0 hl
  | mk d =>
   have hij:i=j0:=by
    have:=hall i (by omega)
    rw [hf] at this
    simpa using this
   subst hij
   obtain⟨hm,rfl⟩:=hI.m0 hu
   refine(hs env hD).mono ?_
   rintro env' S' ⟨rfl,rfl⟩
   refine⟨wb (f:=.mk d) hnd hf rfl hI.slot,wN hf rfl hI.keep,fun hl=>⟨[], ?_,rfl⟩,fun hl=>?_⟩
   ·rw [jV hT,hm]
   ·have hsz:i<listed.size:=by
     by_cases h:i<listed.size
     ·exact h
     ·have:listed.getD i true=true:=by simp [lb,h]
      rw [this] at hu;cases hu
    simp [aA,hsz] at hl
  | ent a v =>
   obtain⟨o',mo,ko,vo,ho',hdst,hgd,hop,hev⟩:=hs
   rw [ho] at ho';cases ho'
   obtain⟨ev1,ev2,ev3⟩:=hev env hD
   have hj:=hne0 (fun d h=>by cases h)
   have hjl:listed.getD j0 true=true:=by
    have h1:=hall i (by omega)
    rw [hf] at h1
    simp only [aw] at h1
    unfold kQ at h1
    simp only [ho,aE] at h1
    rw [pk] at h1
    obtain⟨e,he,hb⟩:=h1
    simp only [ao,beq_iff_eq] at hb
    have h2:=hd e he hb.1
    rw [hb.2] at h2
    simp only [aA] at h2 ⊢
    cases hx:listed[j0]? with
    | none=>rfl
    | some b=>rw [hx] at h2;simpa using h2
   obtain⟨es,hp,rfl⟩:=hI.m1 hjl
   obtain⟨A,B,hAB,hA,hB⟩:=tR (i:=0) hf
   rw [bC] at hAB hA hB
   have hmemE:∀ e∈es,∃ p,(p∈A∨p∈B)∧e=p.2:=by
    intro e he
    have h1:=hp.mem_iff.1 he
    unfold gm at h1
    obtain⟨p,hp1,rfl⟩:=aM.1 h1
    obtain⟨hp2,hp3⟩:=BA.1 hp1
    rw [hAB] at hp2
    rcases cH.1 hp2 with h|h
    ·exact⟨p,.inl h,rfl⟩
    ·rcases bz.1 h with rfl|h
     ·simp only at hp3;rw [hu] at hp3;cases hp3
     ·exact⟨p,.inr h,rfl⟩
   have hkk:=hk
   rw [hAB,aY,ap] at hkk
   have hnew:∀ e∈es,ku a e.1=false:=by
    intro e he
    obtain⟨p,hp,rfl⟩:=hmemE e he
    exact nH hkk p.2 (hp.imp (fun h=>cR h) (fun h=>cR h))
   have hkeys:∀ e∈es,eX P kt e.1=true:=by
    intro e he
    obtain⟨p,hp,rfl⟩:=hmemE e he
    refine nI hkk p.2 ?_
    rcases hp with h|h
    ·exact k8 _ (cR h)
    ·exact dA _ (gY _ (cR h))
   have hka:eX P kt a=true:=nI hkk (a,v) (dA _ (dk ..))
   have hst:ee P (S0++[.mp false es]) (bl w0 env) o.op=some (.tup [],S0++[.mp false (es++[(a,v)])]):=by
    rcases hop with hop|hop
    all_goals
     rw [hop]
     simp only [ee,ei,ht,ev1,ev2,ev3,aD (a8 _),Nat.sub_self,List.getElem?_cons_zero]
     rw [if_pos (by simp only [ao,aC];exact⟨hka,hkeys⟩),vV hnew]
     simp [fb]
   refine uQ ho (by simp [bX,hgd]) hst (by rw [hdst];rfl) ?_
   rw [hdst]
   refine⟨fun j g hg hl e he=>?_,hI.keep,fun _=>⟨_, ?_,rfl⟩,fun hl=>?_⟩
   ·by_cases hji:j=i
    ·subst hji;rw [hf] at hg;cases hg;cases he
    ·rw [getD_set_ne true (Ne.symm hji)] at hl
     exact hI.slot j g hg hl e he
   ·rw [hAB] at hp ⊢
    exact AO hp hu hA hB
   ·rw [getD_set_ne true (Ne.symm hj),hjl] at hl;cases hl
end
def softV:AV→AV
 | .snil=>.sval false []
 | x=>x
theorem VR.softV{ι:List Pl}{ψ:eb}{x:AV}{v:Value}(h:VR ι ψ x v):VR ι ψ (softV x) v:=by
 cases x<;>try exact h
 cases h
 exact .svnil _
theorem xR{x:AV}(h:x.leaf=true):(softV x).leaf=true:=by
 cases x<;>first|exact h|rfl
theorem cI.softC{w0 w:World}{ι:List Pl}{ψ:eb}{S:List aH}(h:cI w0 ι ψ S w){a:Nat}{cs:List AV}{ty:Option TypeId}(ha:S[a]? = some (.cells cs ty)):cI w0 ι ψ (S.set a (.cells (cs.map softV) ty)) w:=by
 obtain⟨pl,hpl,hB⟩:=h.get ha
 have hset:ι.set a pl=ι:=gk hpl
 obtain⟨h0,⟨c,T,h1,h2,h3⟩,h4,h5⟩:=hB
 have key:=h.update (w':=w) (ψ':=ψ) (B':=.cells (cs.map softV) ty) (pl':=pl) ha hpl (BD _ _) (fun _ _ _=>rfl) (by rw [hset];exact dL.refl _ _) (by
  rw [hset]
  refine⟨h0,⟨c,T,h1,by simpa using h2,fun m x ex=>?_⟩,h4,h5⟩
  rw [aI] at ex
  cases e:cs[m]? with
  | none=>rw [e] at ex;cases ex
  | some y =>
   rw [e] at ex;cases ex
   obtain⟨q1,v,q2,q3⟩:=h3 m y e
   exact⟨xR q1,v,q2,q3.softV⟩) (fun k hk=>.inl hk) (fun b o v e=>.inl ⟨e,fun hk=>by
  simp only [aH.at,bi] at hk;subst hk;rw [h4 o] at e;cases e⟩) rfl
 rw [hset] at key
 exact key
theorem aj.softC{P:Program}{w0:World}{S:List aH}{f:FuncId}{args:List AV}{R:Rt}(a:Nat)(h:aj P w0 f args S (fun out S'=>∃ cs ty,S'[a]? = some (.cells cs ty)∧R out (S'.set a (.cells (cs.map softV) ty)))):aj P w0 f args S R:=by
 refine⟨h.1,fun ι ψ w cargs hR hl hv=>(h.2 ι ψ w cargs hR hl hv).mono ?_⟩
 rintro e w' ⟨ι',ψ',out,S',h1,h2,h3,cs,ty,e1,e2⟩
 exact⟨ι',ψ',out,_,h1,h2.softC e1,h3,e2⟩
theorem mP{X:List aH}{B C B' C':aH}(h:bD (X++[B,C]))(hB:B'.ltB (X.length+2)=true)(hC:C'.ltB (X.length+2)=true):bD (X++[B',C']):=by
 intro j D hD
 have hl:(X++[B',C']).length=(X++[B,C]).length:=by simp
 rw [hl]
 by_cases hj:j<X.length
 ·rw [az hj] at hD
  exact h j D (by rw [az hj];exact hD)
 ·rw [aD (by omega)] at hD
  have h2:(X++[B,C]).length=X.length+2:=by simp
  rw [h2]
  match e:j - X.length,hD with
  | 0,hD=>simp at hD;subst hD;exact hB
  | 1,hD=>simp at hD;subst hD;exact hC
  | n+2,hD=>simp at hD
theorem BP{P:Program}{w0:World}{n0 N:Nat}{r:Option Nat}{Q:bP}{k:List TI}{env:dj}{S S1:List aH}{it:KI}(t:Nat)(sh:List Nat){cs cs':List AV}{ty:Option TypeId}(hS1:sh.foldl dB S=S1)(ht:S1[t]? = some (.cells cs ty))(hc:cs.map (conv S1 (yp S1) 4)=cs')(hl:i8 cs'=true)
  (h:aW P w0 n0 N r (.it it::k) Q .normal env (S1.set t (.cells cs' ty))):aW P w0 n0 N r (.it it::k) Q .normal env S:=by
 subst hS1 hc
 intro ι ψ w ac hR hE
 obtain⟨ψ1,hle,hR1⟩:=iY (w0:=w0) sh S ψ hR
 have hx:dL ι ψ ι ψ1:=⟨(dL.refl ι ψ).pl,hle⟩
 have hfr:=kw hR1
 obtain⟨pl,hpl,hB⟩:=hR1.get ht
 have hset:ι.set t pl=ι:=gk hpl
 obtain⟨h0,⟨c,T,h1,h2,h3⟩,h4,h5⟩:=hB
 have key:=hR1.update (w':=w) (ψ':=ψ1) (B':=.cells (cs.map (conv (sh.foldl dB S) (yp (sh.foldl dB S)) 4)) ty) (pl':=pl) ht hpl (BD _ _) (fun _ _ _=>rfl) (by rw [hset];exact dL.refl _ _) (by
  rw [hset]
  refine⟨h0,⟨c,T,h1,by simpa using h2,fun m x ex=>?_⟩,h4,h5⟩
  have hlf:x.leaf=true:=aC.1 hl x (ax ex)
  rw [aI] at ex
  cases e:cs[m]? with
  | none=>rw [e] at ex;cases ex
  | some y =>
   rw [e] at ex;cases ex
   obtain⟨q1,v,q2,q3⟩:=h3 m y e
   exact⟨hlf,v,q2,iQ hR1 (eb.le_refl _) hfr 4 _ _ q3⟩) (fun k hk=>.inl hk) (fun b o v e=>.inl ⟨e,fun hk=>by
  simp only [aH.at,bi] at hk;subst hk;rw [h4 o] at e;cases e⟩) rfl
 rw [hset] at key
 exact KI.mono (h ι ψ1 w ac key (hE.mono hx)) fun e a2 w2 hp=>hp.chain (hx.take n0)
theorem GY{P:Program}{w0:World}{n0 N:Nat}{r:Option Nat}{Q:bP}{k:List TI}{env:dj}{S:List aH}{it:KI}(S0:List aH){cs:List AV}{ty:Option TypeId}{t:Nat}(sl:List Nat)(hS:S=S0++[.cells cs ty])(hO:bD S0)(hn:n0=S0.length)(ht:env t=.own S0.length 0)
  (hds:(env DS).lt S0.length=true) (hsl:(sl.all fun u=>(eJ env t (.pro cs) u).lt S0.length)=true) (h:aW P w0 n0 N r (.it it::k) Q .normal (ii sl (eJ env t (.pro cs))) S0):aW P w0 n0 N r (.it it::k) Q .normal env S:=by
 subst hS
 have hg:(S0++[aH.cells cs ty])[S0.length]? = some (.cells cs ty):=by simp
 refine n8 (a:=S0.length) (o:=0) ht hg ?_
 have e:(S0++[aH.cells cs ty]).set S0.length .dead=S0++[.dead]:=by rw [fb _ _ (a8 _),Nat.sub_self];rfl
 rw [e,cJ]
 have htd:DS≠t∨DS=t:=by omega
 refine n7 hO 0 sl hn ?_ (by simpa using hsl) rfl (by simpa using h)
 rcases htd with htd|htd
 ·simpa [eJ,htd] using hds
 ·rw [htd,ht] at hds
  simp [AV.lt] at hds
end Go.Fen
namespace Go.Fen
open Go.RowKit
section
variable {P:Program}{w0:World}{n0 N:Nat}{r:Option Nat}{Q:bP}{k:List TI}{ops:Array Oper}
def o9(ops:Array Oper)(listed:Array Bool):Prop:=∀ j o,ops[j]? = some o→listed.getD j true=true→∀ e∈o.after,eU .any e=true→listed.getD e.on false=true
def yF(ops:Array Oper)(n:Nat):Bool:=(ba n).all fun i=>(ba (n+1)).any fun j=>decide (i<j)&&!kQ ops j i
def MJ(ops:Array Oper)(pl:List (Nat × AV))(dz:dj)(i:Nat)(env:dj):Prop :=
 (∀ j,kQ ops i j=false→∀ d v,pl[j]? = some (d,v)→env d=v)∧∀ t,(pl.all fun p=>!(p.1==t))=true→env t=dz t
def Hx(P:Program)(w0:World)(N:Nat)(Q:bP)(ops:Array Oper)(pl:List (Nat × AV))(S0:List aH)(dz:dj)(i:Nat):Prop :=
 match pl[i]? with
 | some (d,v)=>∀ env,MJ ops pl dz i env→jl P w0 N ops Q i (fun env' S'=>env'=eJ env d v∧S'=S0) env S0
 | none=>True
theorem f_{i j:Nat}{o:Oper}(ho:ops[i]? = some o)(h:kQ ops i j=false):∃ e∈o.after,eU .any e=true∧e.on=j:=by
 unfold kQ at h
 simp only [ho,aE] at h
 rw [pk] at h
 obtain⟨e,he,hb⟩:=h
 simp only [ao,beq_iff_eq] at hb
 exact⟨e,he,hb.1,hb.2⟩
theorem jD{l:Array Bool}{j:Nat}(h:l.getD j false=true):l.getD j true=true:=by
 simp only [aA] at h ⊢
 cases hx:l[j]? with
 | none=>rfl
 | some b=>rw [hx] at h;simpa using h
theorem lu(pl:List (Nat × AV)){n:Nat}{dz:dj}{S0:List aH}(hn:ops.size=n+1)(hpl:pl.length=n)(hnd:decide ((pl.map cG).Nodup)=true)(hdep:r_ ops=true)(hcov:yF ops n=true)
  (hstep:o4 (Hx P w0 N Q ops pl S0 dz) 0 n)
  (hz:∀ env:dj,(∀ (i d:Nat) (v:AV),pl[i]? = some (d,v)→env d=v)→(∀ t,(pl.all fun p=>!(p.1==t))=true→env t=dz t)→jl P w0 N ops Q n (fun env' S'=>aW P w0 n0 N r k Q .normal env' S') env S0) :
  dS P w0 n0 N r ops k Q (n+1) (bO (n+1) false) [] dz S0:=by
 have hnd:(pl.map cG).Nodup:=by simpa using hnd
 refine zO (fun listed env S=>(listed.getD n true=false∧(∀ (i d:Nat) (v:AV),pl[i]? = some (d,v)→listed.getD i true=true→env d=v)∧(∀ t,(pl.all fun p=>!(p.1==t))=true→env t=dz t)∧S=S0∧o9 ops listed)∨((∀ i,i≤n→listed.getD i true=true)∧aW P w0 n0 N r k Q .normal env S)) ?step ?fin (n+1) _ _ _ ?init ?left
 case left =>
  unfold rH
  rw [← hn]
  exact eT (nS) (by simp)
 case init =>
  have hrep:∀ i,i<n+1→(bO (n+1) false).getD i true=false:=fun i hi=>by simp [lb,hi]
  refine .inl ⟨hrep n (by omega),fun i d v hi hl=>?_,fun _ _=>rfl,rfl,fun j o ho hl=>?_⟩
  ·have h1:=(af.1 hi).1
   rw [hrep i (by omega)] at hl;cases hl
  ·have h1:=(bB.1 ho).1
   rw [hrep j (by omega)] at hl;cases hl
 case fin =>
  intro listed env S hI hr
  have hal:=lx hdep hr
  rcases hI with⟨h1,_⟩|⟨_,h⟩
  ·rw [hal n (by omega)] at h1;cases h1
  ·exact h
 case step =>
  intro listed env S i o hI ho hu hd
  have hi:i<n+1:=by have:=(bB.1 ho).1;omega
  rcases hI with⟨h1,h2,h3,rfl,h5⟩|⟨h,_⟩
  rotate_left
  ·rw [h i (by omega)] at hu;cases hu
  by_cases hin:i=n
  ·subst hin
   have hall:∀ m j,j+m=i→listed.getD j true=true∨j=i:=by
    intro m
    induction m using Nat.strongRecOn with
    | _ m ih =>
     intro j hj
     by_cases hji:j=i
     ·exact .inr hji
     ·left
      have hc:=aC.1 hcov j (dI.2 (by omega))
      obtain⟨q,hq,hq2⟩:=List.any_eq_true.1 hc
      simp only [ao,decide_eq_true_eq,aw] at hq2
      have hqi:q≤i:=by have:=dI.1 hq;omega
      rcases ih (i - q) (by omega) q (by omega) with hl|rfl
      ·obtain⟨oq,hoq⟩:∃ oq,ops[q]? = some oq:=⟨ops[q]'(by omega),bj (by omega)⟩
       obtain⟨e,he,hb,heq⟩:=f_ hoq hq2.2
       have:=h5 q oq hoq hl e he hb
       rw [heq] at this
       exact jD this
      ·obtain⟨e,he,hb,heq⟩:=f_ ho hq2.2
       have:=hd e he hb
       rw [heq] at this
       exact jD this
   have hl:∀ j,j<i→listed.getD j true=true:=fun j hj=>(hall (i - j) j (by omega)).resolve_right (by omega)
   refine(hz env (fun j d v hj=>h2 j d v hj (hl j (by have:=(af.1 hj).1;omega))) h3).mono fun env' S' hk=>.inr ⟨fun j hj=>?_,hk⟩
   by_cases hji:j=i
   ·subst hji
    simp only [aA,bF]
    by_cases hs:j<listed.size<;>simp [hs]
   ·rw [getD_set_ne true (Ne.symm hji)]
    exact hl j (by omega)
  ·have hs:=kB hstep (bf i) (by omega)
   unfold Hx at hs
   obtain⟨⟨d,v⟩,hf⟩:∃ f,pl[i]? = some f:=⟨pl[i]'(by omega),al (by omega)⟩
   rw [hf] at hs
   simp only at hs
   refine(hs env ⟨fun j hj d' v' hd'=>?_,h3⟩).mono ?_
   ·obtain⟨e,he,hb,heq⟩:=f_ ho hj
    have:=hd e he hb
    rw [heq] at this
    exact h2 j d' v' hd' (jD this)
   ·rintro env' S' ⟨rfl,rfl⟩
    refine .inl ⟨by rw [getD_set_ne true hin];exact h1,fun j d' v' hj hl=>?_,fun t ht=>?_,rfl,fun j oj hoj hl e he hb=>?_⟩
    ·by_cases hji:j=i
     ·subst hji
      rw [hf] at hj;cases hj
      simp [eJ]
     ·have hde:d'≠d:=fun hh=>by
       subst hh
       have e1:(pl.map cG)[j]? = some d':=by rw [aI,hj];rfl
       have e2:(pl.map cG)[i]? = some d':=by rw [aI,hf];rfl
       have hjl:j<(pl.map cG).length:=(af.1 e1).1
       exact hji ((List.getElem?_inj hjl hnd).1 (e1.trans e2.symm))
      rw [show eJ env d v d'=env d' by simp [eJ,hde]]
      rw [getD_set_ne true (Ne.symm hji)] at hl
      exact h2 j d' v' hj hl
    ·have hne:t≠d:=by
      rintro rfl
      have:=aC.1 ht _ (ax hf)
      simp at this
     rw [show eJ env d v t=env t by simp [eJ,hne]]
     exact h3 t ht
    ·have hset:∀ m,listed.getD m false=true→(listed.setIfInBounds i true).getD m false=true:=by
      intro m hm
      simp only [aA,bF] at hm ⊢
      split
      ·split<;>simp_all
      ·exact hm
     by_cases hji:j=i
     ·subst hji
      rw [ho] at hoj;cases hoj
      exact hset _ (hd e he hb)
     ·rw [getD_set_ne true (Ne.symm hji)] at hl
      exact hset _ (h5 j oj hoj hl e he hb)
end
end Go.Fen
