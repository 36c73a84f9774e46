/- YthdbijpefkapnaaGreatDoorOfCore3: a part of the proof. -/
import Derived.Test.YthdbijpefkapnaaGreatDoorOfCore2
import Derived.Lib.ConvBytes
import Derived.Lib.AtoiErrMem
set_option linter.all false
set_option linter.unusedVariables false
set_option linter.unusedSimpArgs false
open Array renaming any_eq_true' → pW, ext_getElem? → ma, getD → lF, getD_eq_getD_getElem? → aC, getElem?_append_left → lD, getElem?_eq_getElem → bm, getElem?_eq_none → dg, getElem?_eq_some_iff → bF, getElem?_setIfInBounds → bJ, getElem?_setIfInBounds_ne → ka, getElem?_toList → bu, length_toList → fk, mapM_eq_mapM_toList → yJ, replicate → bT
open Bool renaming and_eq_true → aq, false_eq_true → aZ, false_or → wG, not_eq_false' → aE, not_eq_true' → ay, not_true → cq
open Go.Instr renaming sliceAt → gj, sliceBound → IQ, sliceBounds → eu, sureAddr → eF
open Go.Op renaming operands → bB
open Go.Region renaming binds → fe, free_spec → Fj, ready → cu
open Go.Result renaming andThen → IK, andThen_ok → cA
open Go.RowKit renaming Below → mv
open Go.RowKit.Below renaming refl → Cx
open Go.Sem renaming run_bind → co
open Go.Value renaming int → eK
open Go.World renaming block_lt_of_cell? → jy, cell? → qG
open List renaming all_cons → tL, all_eq_true → aD, any_eq_false → Jm, append_assoc → aP, cons_append → fQ, countP_cons → Fx, countP_le_length → oH, drop_eq_nil_of_le → Fw, drop_zero → cQ, filter_append → IP, getElem?_append_left → au, getElem?_append_right → aA, getElem?_drop → cZ, getElem?_eq_getElem → ap, getElem?_eq_none → bR, getElem?_eq_some_iff → af, getElem?_map → aJ, getElem?_set_ne → be, getElem?_take → bc, getElem?_toArray → gA, length → jI, length_append → ah, length_cons → aB, length_map → bi, length_set → bx, map_append → aM, map_cons → al, mem_append → bV, mem_append_left → lA, mem_append_right → dF, mem_cons → bD, mem_cons_of_mem → iv, mem_cons_self → dG, mem_filter → Cv, mem_filterMap → tK, mem_map → aN, mem_map_of_mem → dc, mem_of_getElem? → ax, mem_range → dT, nil_append → gu, nodup_cons → pT, range → bh, set_append_left → iP, set_append_right → eI, size_toArray → iM, take_left → yB, take_length → bC
open Nat renaming add_assoc → qI, le_refl → ba, le_trans → fc, sub_self → la, zero_add → bG, zero_le → bf
open Option renaming getD_some → Fs, map_some → dp
open Option.some renaming injEq → bl
open Prod renaming fst → cP
namespace Go.Fen
open Go.RowKit
variable {P:Program}{w0 w w':World}{ι:List Pl}{ψ:eo}{S:List aH}
theorem bH.app{S0 L:List aH}(h:bH S0)(hL:L.all (fun B=>B.ltB (S0.length+L.length))=true):bH (S0++L):=by
 intro j B hB
 rw [ah]
 by_cases hj:j<S0.length
 ·rw [au hj] at hB
  exact aH.ltB_mono ω (h j B hB)
 ·rw [aA ω] at hB
  exact aD.1 hL B (ax hB)
theorem bH.set{S0:List aH}{a:Nat}{B:aH}(h:bH S0)(hB:B.ltB S0.length=true):bH (S0.set a B):=by
 intro j C hC
 rw [bx]
 by_cases hj:j=a
 ·subst hj
  by_cases hl:j<S0.length
  ·simp [hl] at hC;subst hC;exact hB
  ·rw [bR κ] at hC;cases hC
 ·rw [be (fun e=>hj e.symm)] at hC
  exact h j C hC
theorem od{S0 S2 L:List aH}(hO:bH S2)(hl:S2.length=S0.length):fV S0.length S0 (S2++L):=by
 intro j B hj hB
 rw [au ω] at hB
 have:=hO j B hB
 rw [hl] at this
 exact .inr this
theorem EB{F:Func}{S0 S S2 L:List aH}{R:Rt}{ms vs:List AV}{env:du}{v:AV}(h0:env DS=.dfr ms)(h01:fa ms S=some (S2++L))(hl:S2.length=S0.length)(hO:bH S2)(h1:gr P env (S2++L) F.results.toList=some vs)
  (h3:conv (S2++L) (fun a=>decide (S2.length≤a)) 4 (de vs)=v) (h4:v.lt S2.length=true) (h:R (.ret v) S2):jV P F S0 R .ret env S:=by
 subst h3
 refine⟨ms,S2++L,vs,h0,h01,h1,od hO hl, ?_, ?_⟩
 ·rw [← hl];exact h4
 ·rw [← hl,yB];exact h
theorem K0{F:Func}{S0 S S2 L:List aH}{R:Rt}{ms vs:List AV}{env:du}{v:AV}(h0:env DS=.dfr ms)(h01:fa ms S=some (S2++L))(hl:S2.length=S0.length)(hO:bH S2)(h1:gr P env (S2++L) F.results.toList=some vs)
  (h3:conv (S2++L) (fun a=>decide (S2.length≤a)) 4 (de vs)=v) (h4:v.lt S2.length=true) (h:R (.ret v) S2):jV P F S0 R .normal env S:=EB (F:=F) h0 h01 hl hO h1 h3 h4 h
theorem oQ{n0 N:Nat}{r:Option Nat}{Q:bU}{k:List TI}{env:du}{i:KI}{S0 L:List aH}(hO:bH S0)(m:Nat)(sl:List Nat)(hn:n0=S0.length)(hds:(env DS).lt (S0.length+m)=true)(hsl:sl.all (fun t=>(env t).lt (S0.length+m))=true)(hL:(L.take m).all (fun B=>B.ltB (S0.length+m))=true)
  (h:aX P w0 n0 N r (.it i::k) Q .normal (iJ sl env) (S0++L.take m)):aX P w0 n0 N r (.it i::k) Q .normal env (S0++L):=bX hO m sl hn hds hsl hL h
theorem u7{n0 N:Nat}{r:Option Nat}{Q:bU}{k:List TI}{env:du}{all:Array Oper}{o:Oper}{l:List Oper}{fop:Operand}{args:Array Operand}{tys:Array TypeId}{a:Nat}{A:List AV}
  (hg:ce all env o=some true) (ho:o.op=.call ⟨.value fop,args,tys⟩) (hf:bo w0 env fop=.yld a) (hd:eV N o.dst=true) (hA:args.toList.map (bo w0 env)=A)
  (h:YA P w0 a A S (aU P w0 n0 N r all l k Q env o.dst)) :
  aX P w0 n0 N r (.it (.ops all (o::l))::k) Q .normal env S:=by
 subst hA
 exact CG hg ho hf hd h
theorem vJ(n:Nat)(S:List aH):fV n S S=True:=eq_true fun _ _ _ h=>.inl h
theorem H5{S L:List aH}{a:Nat}(h:a<S.length):(S++L)[a]? = S[a]?:=au h
theorem FK{S L:List aH}{a:Nat}{B:aH}(h:a<S.length):(S++L).set a B=S.set a B++L:=iP _ _ h
theorem H4(S:List aH)(a:Nat)(B:aH):(S.set a B)[a]? = (S[a]?).map (fun _=>B):=by
 by_cases h:a<S.length
 ·simp [h]
 ·rw [bR κ,bR ω];rfl
theorem set_set(S:List aH)(a:Nat)(B C:aH):(S.set a B).set a C=S.set a C:=List.set_set ..
theorem Hz(S:List aH)(a:Nat)(B:aH):(S.set a B).length=S.length:=bx ..
theorem EA{F:Func}{S0 S S2:List aH}{R:Rt}{ms vs:List AV}{env:du}{v:AV}(h0:env DS=.dfr ms)(h01:fa ms S=some S2)(h1:gr P env S2 F.results.toList=some vs)
  (h3:conv S2 (fun a=>decide (S0.length≤a)) 4 (de vs)=v) (h4:v.lt S0.length=true) (hO:bH S2) (hl:S2.length=S0.length) (h:R (.ret v) S2):jV P F S0 R .ret env S:=by
 subst h3
 refine⟨ms,S2,vs,h0,h01,h1, ?_,h4, ?_⟩
 ·have:=od (L:=[]) hO hl
  simpa using this
 ·have e:S2.take S0.length=S2:=by rw [← hl];exact bC
  rw [e];exact h
theorem KZ{F:Func}{S0 S S2:List aH}{R:Rt}{ms vs:List AV}{env:du}{v:AV}(h0:env DS=.dfr ms)(h01:fa ms S=some S2)(h1:gr P env S2 F.results.toList=some vs)
  (h3:conv S2 (fun a=>decide (S0.length≤a)) 4 (de vs)=v) (h4:v.lt S0.length=true) (hO:bH S2) (hl:S2.length=S0.length) (h:R (.ret v) S2):jV P F S0 R .normal env S:=EA (F:=F) h0 h01 h1 h3 h4 hO hl h
theorem HG(S:List aH)(a b:Nat):S.length+a+b=S.length+(a+b):=qI _ _ _
def YB(P:Program)(w0:World)(a n N rb:Nat)(LB BB:aH)(R:Rt)(body:Code):bU :=
 fun x env1 S1=>x=.normal∧S1[a]? = some LB∧aX P w0 n N (some rb) [.it (.code body)] (uW a R) .normal env1 (S1.set a BB)
theorem wL{LB:aH}{a N:Nat}{tm:List (Nat × AV)}{ps:Array Tmp}{asg body:Code}{args:List AV}{E:du}{R:Rt}(hLB:LB=.loop .ready none N tm ps asg body)(hS:S[a]? = some LB)(hps:ps.size=args.length)(hN:decide (N≤DS)=true)
  (htm:tm.all (fun p=>decide (p.1<N))=true) (hpp:ps.toList.all (fun p=>decide (p<N))=true) (hE:xg (tW tm) (ps.toList.zip args)=E)
  (h:∀ rb BB,BB=.loop .busy none N tm ps asg body→aX P w0 S.length N (some rb) [.it (.code asg)] (YB P w0 a S.length N rb LB BB R body) .normal E S):YA P w0 a args S R:=by
 subst hLB hE
 refine⟨none,N,tm,ps,asg,body,hS,hps,by simpa using hN,fun p hp=>by simpa using aD.1 htm p hp,fun p hp=>by simpa using aD.1 hpp p hp,fun rb=>Dt ?_ (h rb _ rfl)⟩
 rintro x e S1 ⟨rfl,h1,h2⟩
 exact⟨rfl,none,h1,h2⟩
theorem wK{a n N rb:Nat}{LB BB:aH}{R:Rt}{body:Code}{env:du}{S2:List aH}(h1:S[a]? = some LB)(h2:S.set a BB=S2)(h:aX P w0 n N (some rb) [.it (.code body)] (uW a R) .normal env S2):YB P w0 a n N rb LB BB R body .normal env S:=by
 subst h2;exact⟨rfl,h1,h⟩
theorem LZ{a N:Nat}{R:Rt}{env:du}{LB BB:aH}{tm:List (Nat × AV)}{ps:Array Tmp}{asg body:Code}{S1:List aH}(hLB:LB=.loop .ready none N tm ps asg body)(hBB:BB=.loop .busy none N tm ps asg body)(h:S[a]? = some BB)(h1:S.set a LB=S1)(h2:R (.ret (.bool true)) S1):uW a R .normal env S:=by
 subst h1 hLB hBB;exact⟨_,_,N,tm,ps,asg,body,h,h2⟩
theorem ke{a:Nat}{R:Rt}:LF (uW a R):=fun _ _ _ _ _ h=>h
theorem qb{a n N rb:Nat}{LB BB:aH}{R:Rt}{body:Code}:LF (YB P w0 a n N rb LB BB R body):=fun _ _ _ _ _ h=>absurd h.1 χ
theorem wN{n0 N:Nat}{Q:bU}{k:List TI}{env:du}{g:Operand}{ps:Array Tmp}{asg body:Code}{f:FuncId}{first cap ds A:List AV}{tm:List (Nat × AV)}(keep:List Nat)(hf:bo w0 env g=.fn (.func f) first cap)(hds:env DS=.dfr ds)
  (hk:keep.all (fun t=>decide (t<N))=true) (hA:first++[.yld (S.length+1)]++cap=A) (hT:(keep.map fun t=>(t,env t))=tm)
  (h:∀ LB,LB=aH.loop .ready none N tm ps asg body→ao P w0 f A (S++[.obj (.deferred (some [])),LB]) (oC P w0 n0 N (S.length+1) k Q (eY env DS (.dfr (.own S.length 0::ds))))) :
  aX P w0 n0 N none (.it (.code (.rangeFunc g ps asg body))::k) Q .normal env S:=by
 subst hA hT
 exact wO keep hf hds hk (h _ rfl)
theorem A1{n0 N m:Nat}{k:List TI}{Q:bU}{env:du}{v:AV}{LB XB:aH}{N':Nat}{tm:List (Nat × AV)}{ps:Array Tmp}{asg body:Code}{S1:List aH}(hLB:LB=.loop .ready none N' tm ps asg body)(hXB:XB=.loop .exhausted none N' tm ps asg body)(hS:S[m]? = some LB)(h1:S.set m XB=S1)
  (h:aX P w0 n0 N none k Q .normal env S1):oC P w0 n0 N m k Q env (.ret v) S:=by
 subst hLB hXB h1;exact⟨.ready,none,N',tm,ps,asg,body,hS,rfl,h⟩
attribute [go_sem] vJ H5 FK H4 set_set Hz HG xg tW List.foldr_cons List.foldr_nil List.zip_cons_cons List.zip_nil_left List.zip_nil_right
end Go.Fen
namespace Go.Fen
open Go.RowKit
variable {P:Program}{w0 w w':World}{ι:List Pl}{ψ:eo}{S:List aH}
theorem cO.mperm(h:cO w0 ι ψ S w){a:Nat}{fz:Bool}{es es':List (AV × AV)}(hS:S[a]? = some (.mp fz es))(hp:es.Perm es'):cO w0 ι ψ (S.set a (.mp fz es')) w:=by
 have hal:a<S.length:=(af.1 hS).1
 have back:∀ (i:Nat) (B:aH),(S.set a (.mp fz es'))[i]? = some B→∃ B0,S[i]? = some B0∧∀ p,B0.at p=B.at p:=by
  intro i B hB
  by_cases hi:i=a
  ·subst hi
   simp [hal] at hB
   subst hB
   exact⟨_,hS,fun _=>rfl⟩
  ·rw [be ω] at hB
   exact⟨B,hB,fun _=>rfl⟩
 refine⟨h.below,h.psi,h.psim,by simp [h.len],fun i B q hB hq=>?_,h.old,fun i j B C p q k hB hC hp hq hk1 hk2=>?_⟩
 ·by_cases hi:i=a
  ·subst hi
   simp [hal] at hB
   subst hB
   obtain⟨h0,hn,⟨me,c,l,h1,h2,h3,h4,h5⟩,h6⟩:=h.blk i _ q hS hq
   exact⟨h0,(hp.map cP).nodup_iff.1 hn,⟨me,c,l,h1,h2,h3.trans hp,h4,h5⟩,h6⟩
  ·rw [be ω] at hB
   exact h.blk i B q hB hq
 ·obtain⟨B0,e1,e2⟩:=back i B hB
  obtain⟨C0,e3,e4⟩:=back j C hC
  exact h.inj i j B0 C0 p q k e1 e3 hp hq (by rw [e2];exact hk1) (by rw [e4];exact hk2)
section
variable {n0 N:Nat}{r:Option Nat}{Q:bU}{k:List TI}{env:du}
theorem oO{i:KI}(a:Nat){fz:Bool}{es es':List (AV × AV)}{S1:List aH}(hS:S[a]? = some (.mp fz es))(hp:es.Perm es')(h1:S.set a (.mp fz es')=S1)(h:aX P w0 n0 N r (.it i::k) Q .normal env S1):aX P w0 n0 N r (.it i::k) Q .normal env S:=by
 subst h1
 intro ι ψ w ac hR hE
 exact h ι ψ w ac (hR.mperm hS hp) hE
theorem IW{all:Array Oper}{o:Oper}{l:List Oper}{t kt et:TypeId}{m x y:Operand}{a:Nat}{es:List (AV × AV)}{K V:AV}{S1:List aH}(hg:ce all env o=some true)(ho:o.op=.mapUpdate t m x y)(hu:P.underlying t=some (.map kt et))(hm:bo w0 env m=.mown a)(hx:bo w0 env x=K)(hy:bo w0 env y=V)
  (hS:S[a]? = some (.mp false es)) (hk:fh P kt K=true) (hall:es.all (fun e=>fh P kt e.1)=true) (hf:es.any (fun e=>kR K e.1)=false) (hd:eV N o.dst=true) (h1:S.set a (.mp false (es++[(K,V)]))=S1)
  (h:aX P w0 n0 N r (.it (.ops all l)::k) Q .normal (putA env o.dst (.tup [])) S1):aX P w0 n0 N r (.it (.ops all (o::l))::k) Q .normal env S:=by
 subst h1
 refine dM hg ?_ hd h
 rw [ho]
 simp only [ew,eC,hu,hm,hS,hx,hy,hk,hall,jZ,hf,Bool.and_self,if_true,aZ,if_false]
end
theorem lP{kt:TypeId}{es:List (AV × AV)}{K:AV}(hk:fh P kt K=true)(hall:∀ e∈es,fh P kt e.1=true)(hn:K∉es.map cP):es.any (fun e=>kR K e.1)=false:=by
 rw [Jm]
 intro e he hq
 have:=(jt hk (hall e he)).1 hq
 exact hn (this▸dc he)
end Go.Fen
namespace Go.Fen
open Go.RowKit
section
variable {P:Program}{w0:World}{n0 N:Nat}{r:Option Nat}{ops:Array Oper}{Q:bU}{k:List TI}{env:du}{S:List aH}
theorem zS{i:Nat}{oi:Oper}{v:AV}{fp:List Nat}(hi:ops[i]? = some oi)(hd:eV N oi.dst=true)(hQ:∀ u env S,Q (.panic u) (putA env oi.dst v) S→Q (.panic u) env S) :
  ∀ (f:Nat) (listed:Array Bool) (prot:List (Nat × List Nat)) (env:du) (S:List aH),
   (∀ j oj,ops[j]? = some oj→j≠i→listed.getD j true=false→(∀ e∈oj.after,fe .any e=true→e.on≠i)→oi.apart ops oj=true) →
   i∈cu .any ops listed→pM w0 P ops oi v fp env S→dS P w0 n0 N r ops k Q f (listed.setIfInBounds i true) ((i,fp)::prot) (putA env oi.dst v) S→dS P w0 n0 N r ops k Q (f+1) listed prot env S:=by
 intro f
 induction f with
 | zero =>
  intro listed prot env S hfree hr hrd h
  refine⟨fun e=>(by rw [e] at hr;cases hr),fun j hj=>?_⟩
  by_cases hji:j=i
  ·subst hji
   refine⟨oi,hi,hd, ?_⟩
   rcases hrd with⟨h1,h2⟩|⟨h1,h2,h3,h4⟩
   ·subst h2
    exact .inl ⟨h1,fK,fF _ _ _ _ h⟩
   ·exact .inr (.inl ⟨h1,v,S,h4,fK,fF _ _ _ _ h⟩)
  ·have:=ready_mono hj hji
   rw [h.1] at this;cases this
 | succ f ih =>
  intro listed prot env S hfree hr hrd h
  refine⟨fun e=>(by rw [e] at hr;cases hr),fun j hj=>?_⟩
  by_cases hji:j=i
  ·subst hji
   refine⟨oi,hi,hd, ?_⟩
   rcases hrd with⟨h1,h2⟩|⟨h1,h2,h3,h4⟩
   ·subst h2
    exact .inl ⟨h1,fK,fF _ _ _ _ h⟩
   ·exact .inr (.inl ⟨h1,v,S,h4,fK,fF _ _ _ _ h⟩)
  ·obtain⟨hun,oj,hoj,hall⟩:=mem_ready.1 hj
   have hiu:listed.getD i false=false:=by
    have:=(mem_ready.1 hr).1
    simp only [aC] at this ⊢
    cases e:listed[i]? with
    | none=>rfl
    | some b=>rw [e] at this;simpa using this
   have hno:∀ e∈oj.after,fe .any e=true→e.on≠i:=fun e he hb heq=>by
    have:=hall e he hb
    rw [heq,hiu] at this;cases this
   have hap:=hfree j oj hoj hji hun hno
   obtain⟨a1,a2,a3⟩:=Oper.apart_spec hap
   have hrel:lk ops j i=true:=by
    unfold lk
    simp only [hoj]
    simp only [ay,Array.any_eq_false']
    intro e he
    by_cases hb:fe .any e=true
    ·simp [hb,hno e he hb]
    ·simp [hb]
   obtain⟨o,ho,hdj,hcase⟩:=h.2 j (ready_mono hj hji)
   rw [hoj] at ho;cases ho
   have hcomm:(listed.setIfInBounds i true).setIfInBounds j true=(listed.setIfInBounds j true).setIfInBounds i true:=by
    apply ma
    intro m
    simp only [bJ]
    by_cases h1:i=m<;>by_cases h2:j=m<;>simp_all
   have hop:=lL (w0:=w0) (env:=env) (v:=v) a1
   have hgd:=lR (env:=env) (v:=v) a1
   have next:∀ (u:AV) (S':List aH),(cJ ops j ((i,fp)::prot) S S'∧dS P w0 n0 N r ops k Q f ((listed.setIfInBounds i true).setIfInBounds j true) ((i,fp)::prot) (putA (putA env oi.dst v) oj.dst u) S') →
     cJ ops j prot S S'∧dS P w0 n0 N r ops k Q (f+1) (listed.setIfInBounds j true) prot (putA env oj.dst u) S':=by
    rintro u S' ⟨hp,hk⟩
    refine⟨hp.2,ih _ prot _ S' ?_ (ready_mono hr (fun e=>hji e.symm)) (hrd.later a3 (hp.1 hrel)) ?_⟩
    ·intro m om hom hmi hmu hmno
     refine hfree m om hom hmi ?_ hmno
     by_cases hmj:m=j
     ·subst hmj
      simp only [aC,bJ] at hmu ⊢
      by_cases hlt:m<listed.size
      ·simp [hlt] at hmu
      ·simp [hlt] at hmu
     ·rw [getD_set_ne true (fun e=>hmj e.symm)] at hmu;exact hmu
    ·rw [← hcomm,← uo a2];exact hk
   refine⟨oj,hoj,hdj, ?_⟩
   rcases hcase with⟨b1,b2⟩|⟨b1,u,S',b2,b3⟩|⟨b1,fop,args,tys,fn,first,cap,sh,b2,b3,b4⟩
   ·exact .inl ⟨by rw [← hgd];exact b1,next _ _ b2⟩
   ·exact .inr (.inl ⟨by rw [← hgd];exact b1,u,S',by rw [← kM hop];exact b2,next _ _ b3⟩)
   ·have hargs:args.toList.map (bo w0 (putA env oi.dst v))=args.toList.map (bo w0 env):=jg fun y hy=>hop y (by rw [b2];simp [bB,Call.operands];exact .inr (by simpa using hy))
    have hfop:bo w0 (putA env oi.dst v) fop=bo w0 env fop:=hop fop (by rw [b2];simp [bB,Call.operands])
    refine .inr (.inr ⟨by rw [← hgd];exact b1,fop,args,tys,fn,first,cap,sh,b2,by rw [← hfop];exact b3, ?_⟩)
    rw [hargs] at b4
    refine b4.mono fun out S' hk=>?_
    cases out with
    | ret u=>exact next u S' hk
    | panic u=>exact hQ u _ _ hk
def vv:ResultVar→Nat
 | .tmp t=>t
 | .cell t _=>t
theorem Bz{d:Nat}{x:AV}:∀ {l:List ResultVar},(l.all fun y=>!(vv y==d))=true→gr P (eY env d x) S l=gr P env S l:=by
 intro l
 induction l with
 | nil=>intro _;rfl
 | cons y l ih =>
  intro h
  simp only [tL,aq] at h
  have hy:vv y≠d:=by have:=h.1;simpa using this
  have h1:vu P (eY env d x) S y=vu P env S y:=by
   cases y<;>simp only [vv] at hy<;>simp only [vu,eY,if_neg hy]
  simp only [gr,h1,ih h.2]
def rG(F:Func)(d:Option Nat):Bool:=match d with
 | none=>true
 | some d=>(F.results.toList.all fun y=>!(vv y==d))&&!(d==DS)
theorem Q_{F:Func}{S0:List aH}{R:Rt}{d:Option Nat}{v:AV}(hd:rG F d=true):∀ u env S,oG P w0 F S0 R (.panic u) (putA env d v) S→oG P w0 F S0 R (.panic u) env S:=by
 intro u env S h
 cases d with
 | none=>exact h
 | some d =>
  simp only [rG,aq] at hd
  have hds:DS≠d:=by have:=hd.2;simp at this;exact fun e=>this e.symm
  obtain⟨g,first,cap,h1,h2⟩:=h
  refine⟨g,first,cap, ?_, ?_⟩
  ·rw [← h1];simp only [putA,eY,if_neg hds]
  ·have:uV P F S0 (putA env (some d) v) R=uV P F S0 env R:=by
    funext S'
    simp only [uV,putA,Bz hd.1]
   rwa [this] at h2
theorem Il(i:Nat){F:Func}{S0:List aH}{R:Rt}{f:Nat}{listed:Array Bool}{prot:List (Nat × List Nat)}{oi:Oper}{v:AV}{fp:List Nat}(hn:qV ops listed=some i)(hi:ops[i]? = some oi)(hg:ce ops env oi=some true)(hs:ew P S (bo w0 env) oi.op=some (v,S))
  (hd:eV N oi.dst=true) (hf:rG F oi.dst=true) (hfp:mm (bo w0 env) oi.op=fp) (h:dS P w0 n0 N r ops k (oG P w0 F S0 R) f (listed.setIfInBounds i true) ((i,fp)::prot) (putA env oi.dst v) S):dS P w0 n0 N r ops k (oG P w0 F S0 R) (f+1) listed prot env S:=by
 obtain⟨h1,h2,h3⟩:=oh hn
 exact zS hi hd (Q_ hf) f listed prot env S (Fj hi h3) h1 (.inr ⟨hg,h2 _ hi,hfp,hs⟩) h
theorem hY{i p:Nat}{q:List Nat}{prot:List (Nat × List Nat)}{S S':List aH}(hp:lk ops i p=false)(h:cJ ops i prot S S'):cJ ops i ((p,q)::prot) S S':=o8 hp h
end
end Go.Fen
namespace Go.Fen
open Go.RowKit
section
variable {P:Program}{w0 w:World}{ι:List Pl}{ψ:eo}{n0 N:Nat}{r:Option Nat}{Q:bU}{k:List TI}{env:du}{S:List aH}
def jm(b:UInt8):AV:=.int .u8 (b.toNat:Int)
theorem cO.bytes(h:cO w0 ι ψ S w)(e:TypeId)(s:ByteArray) :
  ∃ ψ',ψ.le ψ'∧cO w0 ι ψ' S (Lib.bytesWorld w e s)∧∀ cap,s.size≤cap→VR ι ψ' (.sval false (s.data.toList.map jm)) (.slice (some ⟨w.heap.size,0,none⟩) s.size cap):=by
 let ψ':eo:=⟨fun b o=>if b=w.heap.size then (if o<s.size then some (.int .u8 ((s.data.toList.getD o 0).toNat:Int)) else none) else ψ.c b o,ψ.m⟩
 have hfresh:∀ o v,ψ.c w.heap.size o=some v→False:=fun o v e=>by
  have:=jy w _ (h.psi _ _ _ e)
  simp at this
 have hle:ψ.le ψ':=⟨fun b o v e=>by
  by_cases hb:b=w.heap.size
  ·subst hb;exact absurd e (fun e=>hfresh _ _ e)
  ·simp only [ψ',if_neg hb];exact e,fun b es e=>e⟩
 refine⟨ψ',hle,h.grow ((Lib.bytesWorld_below w e s).mono h.n0) (fun j hj=>Lib.bytesWorld_at_old w e s j hj) hle (fun b o v e'=>?_) (fun b es c e'=>.inl e'),fun cap hcap=>?_⟩
 ·simp only [ψ'] at e'
  split at e'
  ·next hb =>
   subst hb
   split at e'
   ·next ho =>
    cases e'
    exact .inr ⟨ba _,Lib.bytesWorld_cell w e s o ho⟩
   ·cases e'
  ·exact .inl e'
 ·have hl:(s.data.toList.map jm).length=s.size:=by rw [bi,fk];rfl
  have key:=VR.sval (ι:=ι) (ψ:=ψ') 1 false (s.data.toList.map jm) w.heap.size 0 cap (fun i _=>.int .u8 ((s.data.toList.getD i 0).toNat:Int)) ?_ ω χ ?_ ?_
  ·rw [hl] at key;exact key
  ·intro i x hx
   obtain⟨y,_,rfl⟩:=aN.1 (ax hx)
   rfl
  ·intro i x j y hx hy
   have hi:i<s.size:=by have:=(af.1 hx).1;omega
   obtain⟨z,_,rfl⟩:=aN.1 (ax hx)
   cases j with
   | zero=>cases hy;exact⟨rfl,by simp [ψ',hi]⟩
   | succ j=>simp [jm,AV.cells] at hy
  ·intro i x j y hx hy
   rw [aJ] at hx
   cases hz:s.data.toList[i]? with
   | none=>rw [hz] at hx;cases hx
   | some z =>
    rw [hz] at hx
    cases hx
    cases j with
    | zero =>
     cases hy
     simp only [List.getD,hz,Fs]
     exact .int _ _
    | succ j=>simp [jm,AV.cells] at hy
theorem oU{all:Array Oper}{o:Oper}{l:List Oper}{src dst e:TypeId}{u:TypeDesc}{x:Operand}{s:List UInt8}(hg:ce all env o=some true)(ho:o.op=.convert src dst x)(hs:P.underlying src=some u)(hd:P.underlying dst=some (.slice e))(he:P.underlying e=some (.int .u8))
  (hx:bo w0 env x=.str s) (hds:eV N o.dst=true) (h:aX P w0 n0 N r (.it (.ops all l)::k) Q .normal (putA env o.dst (.sval false (s.map jm))) S):aX P w0 n0 N r (.it (.ops all (o::l))::k) Q .normal env S:=by
 intro ι ψ w a hR hE
 have hw:=da hE hg
 refine ej hw (fun c hc=>by rw [hc] at ho;cases ho) ?_
 have hv:=hE.eval hR x
 rw [hx] at hv
 generalize hcx:a.eval x=cx at hv
 cases hv with
 | str _ b hb =>
  subst hb
  have hres:(execOp a.eval o).run P w=.ok (.value (.slice (some ⟨w.heap.size,0,none⟩) b.size (grownCap w b.size 0 e))) (Lib.bytesWorld w e b):=by
   have:=Lib.run_convert_string_bytes (P:=P) w src dst e b hs hd he
   simp [execOp,ho,hcx,this,IK]
  rw [hres]
  obtain⟨ψ',hle,hR',hv'⟩:=hR.bytes e b
  have hx':dW ι ψ ι ψ':=⟨(dW.refl ι ψ).pl,hle⟩
  exact KI.mono (h ι ψ' _ _ hR' ((hE.mono hx').putA (hv' _ (grownCap_ge _ _ _ _)) hds)) fun e a2 w2 hp=>hp.chain (hx'.take n0)
def Nj:AV→Option Value
 | .ifc t x=>(EI x).map (.iface t)
 | x=>EI x
theorem B8{x:AV}{c v:Value}(hx:VR ι ψ x c)(h:Nj x=some v):c=v:=by
 cases x<;>try exact nG hx h
 next t y =>
 cases hx with
 | ifc _ _ u hu =>
  simp only [Nj] at h
  cases hy:EI y with
  | none=>rw [hy] at h;cases h
  | some z =>
   rw [hy] at h
   cases h
   rw [nG hu hy]
theorem ao.libR{f:FuncId}{args:List AV}{vs:List Value}{R:Rt}(he:∀ (a:Array Value) (w:World),(callFunc f a).run P w=.ok (.enter f a) w)(ha:args.map Nj=vs.map some)
  (h:∀ w,mv w0.heap.size w0 w→Calls P f vs.toArray w fun e w'=>∃ c,e=.returned c∧mv w.heap.size w w'∧∃ v,(∀ ι ψ,VR ι ψ v c)∧R (.ret v) S):ao P w0 f args S R:=by
 unfold ao
 refine⟨he,fun ι ψ w cargs hRel hl hargs=>?_⟩
 have hlen:args.length=vs.length:=by simpa using congrArg jI ha
 have:cargs=vs.toArray:=by
  apply ma
  intro j
  by_cases hj:j<args.length
  ·have h1:args[j]? = some args[j]:=ap hj
   have h2:cargs[j]? = some cargs[j]:=bm ω
   have h3:vs[j]? = some vs[j]:=ap ω
   have h4:=hargs j _ _ h1 h2
   have h5:(args.map Nj)[j]? = (vs.map some)[j]?:=by rw [ha]
   simp only [aJ,h1,h3,dp,bl] at h5
   rw [h2]
   simp only [gA,h3]
   rw [B8 h4 h5]
  ·rw [dg ω,gA,bR ω]
 subst this
 refine(h w hRel.below).mono ?_
 rintro e w' ⟨c,rfl,hb,v,hv,hR⟩
 have hb0:mv w0.heap.size w w':=hb.mono hRel.n0
 exact⟨ι,ψ,.ret v,S,dW.refl _ _,hRel.grow hb0 (fun k hk=>hb.block k hk) (eo.le_refl _) (fun _ _ _ e=>.inl e) (fun _ _ _ e=>.inl e),hv _ _,hR⟩
end
end Go.Fen
namespace Go.Fen
def fb:List Nat→du→du→Prop
 | [],_,_=>True
 | t::l,e,e'=>e t=e' t∧fb l e e'
theorem re(e:du):∀ l,fb l e e
 | []=>trivial
 | _::l=>⟨rfl,re e l⟩
section
variable {P:Program}{w0:World}{n0 N:Nat}{r:Option Nat}{Q:bU}{k:List TI}{env:du}{S:List aH}
theorem g_{i:KI}(L:List Nat)(h:∀ env',fb L env' env→aX P w0 n0 N r (.it i::k) Q .normal env' S):aX P w0 n0 N r (.it i::k) Q .normal env S:=h env (re env L)
theorem share{G:Prop}(K:Prop)(hK:K)(f:K→G):G:=f hK
end
end Go.Fen
namespace Go.Fen
open Go.RowKit
variable {P:Program}{w0:World}{n0 N:Nat}{r:Option Nat}{Q:bU}{k:List TI}{env:du}{S:List aH}
theorem cO.freezeC{ι:List Pl}{ψ:eo}{w:World}(h:cO w0 ι ψ S w){a:Nat}{cs:List AV}{ty:Option TypeId}(hS:S[a]? = some (.cells cs ty)) :
  ∃ ψ',ψ.le ψ'∧cO w0 ι ψ' (S.set a .dead) w∧∀ (o:Nat) (v:Value),VR ι ψ (.own a o) v→VR ι ψ' (.pro (cs.drop o)) v:=by
 obtain⟨pl,hpl,hB⟩:=h.get hS
 have hset:ι.set a pl=ι:=gB hpl
 obtain⟨hn0,⟨c,T,hw,hsz,hc⟩,hno,hty⟩:=hB
 have hcell:∀ j v,c[j]? = some v→w.cell? ⟨pl.blk,j,none⟩=some v:=fun j v hv=>by
  simp [qG,hw,hv]
 have hle:ψ.le (ψ.addRow pl.blk c.toList):=eo.le_addRow fun o v e=>by rw [hno o] at e;cases e
 have hext:dW ι ψ ι (ψ.addRow pl.blk c.toList):=⟨(dW.refl ι ψ).pl,hle⟩
 refine⟨ψ.addRow pl.blk c.toList,hle, ?_, ?_⟩
 ·have key:=h.update (w':=w) (ψ':=ψ.addRow pl.blk c.toList) (B':=.dead) (pl':=pl) hS hpl (Cx _ _) (fun _ _ _=>rfl) (by rw [hset];exact hext) ?_ (fun k hk=>by cases hk) ?_ rfl
  ·rw [hset] at key;exact key
  ·trivial
  ·intro b o v ev
   simp only [eo.addRow] at ev
   split at ev
   ·next hb=>subst hb;exact .inr ⟨.inl rfl,hcell o v (by simpa using ev)⟩
   ·next hb=>exact .inl ⟨ev,by simp [aH.at];exact fun e=>hb e.symm⟩
 ·intro o v hv
  cases hv with
  | own _ _ pl' h' =>
   rw [hpl] at h';cases h'
   refine .pro (cs.drop o) pl.blk o (fun j=>(c[o+j]?).getD default) (fun j x ex=>?_) (fun j x ex=>?_)
   ·rw [cZ] at ex
    obtain⟨h1,v,h2,_⟩:=hc (o+j) x ex
    exact⟨h1,by simp [eo.addRow,h2]⟩
   ·rw [cZ] at ex
    obtain⟨h1,v,h2,h3⟩:=hc (o+j) x ex
    rw [h2]
    exact h3.mono hext
theorem oT{i:KI}{t a o:Nat}{cs:List AV}{ty:Option TypeId}(ht:env t=.own a o)(hS:S[a]? = some (.cells cs ty))
  (h:aX P w0 n0 N r (.it i::k) Q .normal (eY env t (.pro (cs.drop o))) (S.set a .dead)):aX P w0 n0 N r (.it i::k) Q .normal env S:=by
 intro ι ψ w ac hR hE
 obtain⟨ψ1,hle,hR1,hv⟩:=hR.freezeC hS
 have hx:dW ι ψ ι ψ1:=⟨(dW.refl ι ψ).pl,hle⟩
 have hE':fT ι ψ1 N (eY env t (.pro (cs.drop o))) ac:=by
  have htd:t≠DS:=fun e=>by
   obtain⟨l,vs,h1,_⟩:=hE.defers
   rw [e,h1] at ht;cases ht
  refine⟨hE.size,hE.bound, ?_,fun s=>?_⟩
  ·obtain⟨l,vs,h1,h2,h3,h4⟩:=hE.defers
   exact⟨l,vs,by rw [eY,if_neg (Ne.symm htd)];exact h1,h2,fun j x v hx' hv=>(h3 j x v hx' hv).mono hx,h4⟩
  simp only [eY]
  split
  ·next hs =>
   subst hs
   have hvv:=hE.tmp s
   rw [ht] at hvv
   exact hv o _ hvv
  ·exact(hE.tmp s).mono hx
 exact KI.mono (h ι ψ1 w ac hR1 hE') fun e a2 w2 hp=>hp.chain (hx.take n0)
end Go.Fen
namespace Go.Fen
open Go.RowKit
variable {P:Program}{w0:World}{n0 N:Nat}{r:Option Nat}{Q:bU}{k:List TI}{env:du}{S:List aH}
theorem yK{i:KI}{t:Nat}(ht:env t=.snil)
  (h:aX P w0 n0 N r (.it i::k) Q .normal (eY env t (.sval false [])) S):aX P w0 n0 N r (.it i::k) Q .normal env S:=by
 intro ι ψ w a hR hE
 refine h ι ψ w a hR ?_
 have htd:t≠DS:=fun e=>by
  obtain⟨l,vs,h1,_⟩:=hE.defers
  rw [e,h1] at ht;cases ht
 refine⟨hE.size,hE.bound, ?_,fun s=>?_⟩
 ·obtain⟨l,vs,h1,h2,h3,h4⟩:=hE.defers
  exact⟨l,vs,by rw [eY,if_neg (Ne.symm htd)];exact h1,h2,h3,h4⟩
 simp only [eY]
 split
 ·next hs =>
  subst hs
  have hv:=hE.tmp s
  rw [ht] at hv
  generalize a.tmps.getD s undef=c at hv
  cases hv
  exact .svnil _
 ·exact hE.tmp s
section
variable {ops:Array Oper}{f:Nat}{listed:Array Bool}{prot:List (Nat × List Nat)}
def pQ(P:Program)(w0:World)(n0 N:Nat)(r:Option Nat)(ops:Array Oper)(k:List TI)(Q:bU)(f:Nat)(listed:Array Bool)(prot:List (Nat × List Nat))(env:du)(S:List aH)(_i:Nat):Prop:=dS P w0 n0 N r ops k Q f listed prot env S
theorem Fp(h:pQ P w0 n0 N r ops k Q f listed prot env S 0):dS P w0 n0 N r ops k Q f listed prot env S:=h
theorem Lz{i:Nat}(_h0:(match qV ops listed with|some j=>decide (i<j)|none=>false)=true)(h:pQ P w0 n0 N r ops k Q f listed prot env S (i+1)):pQ P w0 n0 N r ops k Q f listed prot env S i:=h
theorem N6{i:Nat}(_h0:(match cu .any ops listed with|[j]=>decide (i<j)|_=>false)=true)(h:pQ P w0 n0 N r ops k Q f listed prot env S (i+1)):pQ P w0 n0 N r ops k Q f listed prot env S i:=h
theorem zV{i:Nat}{oi:Oper}{v:AV}{fp:List Nat}(hn:qV ops listed=some i)(hQ:LF Q)(hN:decide (N≤DS)=true)(hi:ops[i]? = some oi)(hg:ce ops env oi=some true)(hs:ew P S (bo w0 env) oi.op=some (v,S))
  (hd:eV N oi.dst=true) (hfp:mm (bo w0 env) oi.op=fp) (h:dS P w0 n0 N r ops k Q f (listed.setIfInBounds i true) ((i,fp)::prot) (putA env oi.dst v) S):pQ P w0 n0 N r ops k Q (f+1) listed prot env S i :=
 Lj i hn hQ hN hi hg hs hd hfp h
theorem E8{i:Nat}{oi:Oper}(hn:qV ops listed=some i)(hQ:LF Q)(hN:decide (N≤DS)=true)(hi:ops[i]? = some oi)(hg:ce ops env oi=some false)
  (hd:eV N oi.dst=true) (h:dS P w0 n0 N r ops k Q f (listed.setIfInBounds i true) ((i,[])::prot) (putA env oi.dst (.tup [])) S):pQ P w0 n0 N r ops k Q (f+1) listed prot env S i :=
 MO i hn hQ hN hi hg hd h
theorem E9{i:Nat}(hr:cu .any ops listed=[i])(h:i7 P w0 N ops Q i (fun env' S'=>cJ ops i prot S S'∧dS P w0 n0 N r ops k Q f (listed.setIfInBounds i true) prot env' S') env S):pQ P w0 n0 N r ops k Q (f+1) listed prot env S i :=
 MP i hr h
theorem IE{i:Nat}{F:Func}{S0:List aH}{R:Rt}{oi:Oper}{v:AV}{fp:List Nat}(hn:qV ops listed=some i)(hi:ops[i]? = some oi)(hg:ce ops env oi=some true)(hs:ew P S (bo w0 env) oi.op=some (v,S))
  (hd:eV N oi.dst=true) (hf:rG F oi.dst=true) (hfp:mm (bo w0 env) oi.op=fp) (h:dS P w0 n0 N r ops k (oG P w0 F S0 R) f (listed.setIfInBounds i true) ((i,fp)::prot) (putA env oi.dst v) S):pQ P w0 n0 N r ops k (oG P w0 F S0 R) (f+1) listed prot env S i :=
 Il i hn hi hg hs hd hf hfp h
end
end Go.Fen
namespace Go.Fen
open Go.RowKit
variable {P:Program}{w0:World}{S:List aH}
def Fg(P:Program)(F:Func)(S0:List aH)(R:Rt):bU
 | .normal,env,S | .ret,env,S=>∃ ms S1 vs,env DS=.dfr ms∧fa ms S=some S1∧gr P env S1 F.results.toList=some vs∧R (.ret (de vs)) S1
 | .panic v,env,S=>∃ ms S1,env DS=.dfr ms∧fa ms S=some S1∧R (.panic v) S1
 | _,_,_=>False
theorem zD{f:FuncId}{F:Func}{c:Code}{args:List AV}{R:Rt}(hf:P.funcs[f]? = some F)(hb:F.body=some c)(hname:(F.name == "runtime.NumGoroutine")=false)(hargs:args.length≤F.ntmps)(hbd:F.ntmps≤DS)
  (h0:bH S→aX P w0 S.length F.ntmps none [.it (.code c)] (Fg P F S R) .normal (dE args) S):ao P w0 f args S R:=by
 refine⟨fun a w=>by simp only [callFunc,co,run_program,cA,hf,hname,hb];rfl,fun ι ψ w cargs hR hl hv=>?_⟩
 have h:=h0 fun j B hB=>hR.ltB hB
 refine(callsIn_wide (n:=0)).1 ?_
 refine callsIn_of_wp_marks (F:=Fence.wide) hf hb trivial ?_
 have hE:fT ι ψ F.ntmps (dE args) { tmps:=cargs++bT (F.ntmps - cargs.size) undef,defers:=[] }:=by
  refine⟨κ,hbd,⟨[],[],by simp [dE],rfl,χ,rfl⟩,fun t=>?_⟩
  simp only [dE]
  split
  ·next ht =>
   have:(cargs++bT (F.ntmps - cargs.size) undef).getD t undef=undef:=by
    rw [aC,dg κ];rfl
   rw [this]
   exact .dfr [] [] rfl χ
  ·by_cases ht:t<args.length
   ·have e1:args[t]? = some args[t]:=ap ht
    have ht':t<cargs.size:=ω
    have e2:cargs[t]? = some cargs[t]:=bm ht'
    rw [e1,aC,lD ht',e2]
    exact hv t _ _ e1 e2
   ·rw [bR ω]
    exact .junk _
 refine wpIn_mono (h ι ψ w _ hR hE) fun e a' w' hp=>?_
 obtain⟨ι',ψ',x,env,S',h1,h2,h3,h4,h5⟩:=hp
 have hext:dW ι ψ ι' ψ':=by rw [← hR.len,bC] at h1;exact h1
 obtain⟨ds,dvs,d1,d2,d3,d4⟩:=h3.defers
 have ret:∀ (h5:∃ ms S1 vs,env DS=.dfr ms∧fa ms S'=some S1∧gr P env S1 F.results.toList=some vs∧R (.ret (de vs)) S1),
   LeavesInM Fence.wide 0 P F a'.tmps (fun e w'=>∃ ι' ψ' out S',dW ι ψ ι' ψ'∧cO w0 ι' ψ' S' w'∧nf ι' ψ' out e∧R out S') a'.defers .returning w':=by
  rintro⟨ms,S1,vs,q1,q2,r1,r4⟩
  rw [q1] at d1;cases d1
  rw [d4]
  refine kQ χ ds dvs S' S1 w' q2 d2 d3 h2 fun w1 hR1=>?_
  obtain⟨cs,q1,q2,q3⟩:=mL (P:=P) hR1 h3 _ vs r1
  have hrun:(results F a'.tmps).run P w1=.ok (if h:cs.toArray.size=1 then cs.toArray[0] else .tuple cs.toArray) w1:=by
   unfold results
   rw [yJ]
   simp only [co,Sem.run_map]
   erw [q1]
   rfl
  have hv:VR ι' ψ' (de vs) (if h:cs.toArray.size=1 then cs.toArray[0] else .tuple cs.toArray):=by
   match vs,cs,q2,q3 with
   | [],[],_,_=>exact .tup _ _ rfl χ
   | [v],[c],_,q3=>simpa [de] using q3 0 v c rfl rfl
   | v1::v2::vs,c1::c2::cs,q2,q3 =>
    simp only [de,iM,aB]
    rw [dif_neg ω]
    exact .tup _ _ (by simpa using q2) (fun j x c hx hc=>q3 j x c hx (by simpa using hc))
   | [],_::_,q2,_=>simp at q2
   | [_],[],q2,_=>simp at q2
   | [_],_::_::_,q2,_=>simp at q2
   | _::_::_,[],q2,_=>simp at q2
   | _::_::_,[_],q2,_=>simp at q2
  exact⟨_,hrun,ι',ψ',.ret _,S1,hext,hR1,hv,r4⟩
 cases x with
 | normal=>cases e<;>simp only [XR] at h4;exact ret h5
 | ret=>cases e<;>simp only [XR] at h4;exact ret h5
 | exit id=>exact h5.elim
 | goto l=>exact h5.elim
 | panic v =>
  cases e<;>simp only [XR] at h4
  obtain⟨c,rfl,hv⟩:=h4
  obtain⟨ms,S1,q1,q2,r4⟩:=h5
  rw [q1] at d1;cases d1
  show LeavesInM _ _ _ _ _ _ a'.defers _ _
  rw [d4]
  refine kQ χ ds dvs S' S1 w' q2 d2 d3 h2 fun w1 hR1=>?_
  exact⟨ι',ψ',.panic _,S1,hext,hR1,⟨c,rfl,hv⟩,r4⟩
theorem zy{F:Func}{S0 S2:List aH}{env:du}{R:Rt}{ms vs:List AV}{v:AV}(h0:env DS=.dfr ms)(h01:fa ms S=some S2)(h1:gr P env S2 F.results.toList=some vs)(h3:de vs=v)(h:R (.ret v) S2):Fg P F S0 R .ret env S:=by
 subst h3
 exact⟨ms,S2,vs,h0,h01,h1,h⟩
end Go.Fen
namespace Go.Fen
open Go.RowKit
variable {P:Program}{w0:World}{n0 N:Nat}{r:Option Nat}{Q:bU}{k:List TI}{env:du}{S:List aH}
theorem ol{x:AV}(h:x.leaf=true):x.cells=[x]:=by
 cases x<;>first|rfl|cases h
theorem VR.proPart{ι:List Pl}{ψ:eo}{cs:List AV}{b o l:Nat}{cv:Nat→Value}(h1:∀ j x,cs[j]? = some x→x.leaf=true∧ψ.c b (o+j)=some (cv j))(h2:∀ j x,cs[j]? = some x→VR ι ψ x (cv j)) :
  VR ι ψ (.sval false (cs.drop l)) (.slice (some ⟨b,o+l,none⟩) (cs.length - l) (cs.length - l)):=by
 have hlen:(cs.drop l).length=cs.length - l:=χ
 rw [← hlen]
 refine .sval 1 false (cs.drop l) b (o+l) _ (fun i _=>cv (l+i)) (fun i e he=>?_) (ba _) (fun e=>by cases e) (fun i e j x he hj=>?_) (fun i e j x he hj=>?_)
 ·rw [cZ] at he
  rw [ol (h1 _ _ he).1];rfl
 ·rw [cZ] at he
  have hf:=h1 _ _ he
  rw [ol hf.1] at hj
  cases j with
  | zero =>
   cases hj
   refine⟨hf.1, ?_⟩
   rw [← hf.2];congr 1;omega
  | succ j=>simp at hj
 ·rw [cZ] at he
  have hf:=h1 _ _ he
  rw [ol hf.1] at hj
  cases j with
  | zero=>cases hj;exact h2 _ _ he
  | succ j=>simp at hj
theorem CH{all:Array Oper}{o:Oper}{l:List Oper}{t e:TypeId}{m:Nat}{x lo:Operand}{cs:List AV}{i:Nat}{kk:IntKind}(hg:ce all env o=some true)(ho:o.op=.slice t x (some lo) none none)(ht:P.underlying t=some (.array m e))(he:ff P e=some 1)
  (hx:bo w0 env x=.pro cs) (hlo:bo w0 env lo=.int kk (i:Int)) (hm:cs.length=m) (hi:i≤m) (hds:eV N o.dst=true)
  (h:aX P w0 n0 N r (.it (.ops all l)::k) Q .normal (putA env o.dst (.sval false (cs.drop i))) S):aX P w0 n0 N r (.it (.ops all (o::l))::k) Q .normal env S:=by
 intro ι ψ w a hR hE
 have hwt:=da hE hg
 refine ej hwt (fun c hc=>by rw [hc] at ho;cases ho) ?_
 have hv:=hE.eval hR x
 rw [hx] at hv
 have hv2:=hE.eval hR lo
 rw [hlo] at hv2
 generalize hcx:a.eval x=cx at hv
 generalize hcl:a.eval lo=cl at hv2
 cases hv2 with
 | int _ _ =>
 cases hv with
 | pro _ b o' cv h1 h2 =>
  have hsub:(if m=i then (⟨b,o',none⟩:Addr) else (⟨b,o',none⟩:Addr).add (i * 1))=⟨b,o'+(if m=i then 0 else i),none⟩:=by
   split
   ·rfl
   ·simp only [Addr.add_lit,Nat.mul_one]
  have hb:(eu false m m (some (.int kk (i:Int))) none none).run P w=.ok (i,m,m) w:=by
   have hle:(0:Int)≤(i:Int)∧(i:Int)≤(m:Int):=ω
   simp [eu,IQ,asIntOf,hle]
   intro hh;omega
  have hres:(execOp a.eval o).run P w=.ok (.value (.slice (some ⟨b,o'+(if m=i then 0 else i),none⟩) (m - i) (m - i))) w:=by
   rw [← hsub]
   simp [execOp,ho,hcx,hcl,gj,run_underlying ht,eF,hb,cy he]
  rw [hres]
  have hvv:VR ι ψ (.sval false (cs.drop i)) (.slice (some ⟨b,o'+(if m=i then 0 else i),none⟩) (m - i) (m - i)):=by
   by_cases hmi:m=i
   ·subst hmi
    have:cs.drop m=[]:=Fw ω
    rw [if_pos rfl,this]
    have:=VR.sval (ι:=ι) (ψ:=ψ) 1 false [] b (o'+0) (m - m) (fun _ _=>undef) χ χ (fun e=>by cases e) χ χ
    simpa using this
   ·rw [if_neg hmi,← hm]
    exact VR.proPart h1 h2
  exact KI.mono (h ι ψ _ _ hR (hE.putA hvv hds)) fun e a2 w2 hp=>hp
theorem mD{i:KI}{t a:Nat}{S1:List aH}{v:AV}(htd:(t==DS)=false)(hS:dH S a=S1)(hv:conv S1 (zu S1) 4 (env t)=v)
  (h:aX P w0 n0 N r (.it i::k) Q .normal (eY env t v) S1):aX P w0 n0 N r (.it i::k) Q .normal env S:=by
 subst hS hv
 intro ι ψ w ac hR hE
 obtain⟨ψ1,hle,hR1⟩:=ku (w0:=w0) hR a
 have hx:dW ι ψ ι ψ1:=⟨(dW.refl ι ψ).pl,hle⟩
 have hE1:fT ι ψ1 N env ac:=hE.mono hx
 have hfr:=kS hR1
 have htd':t≠DS:=by simpa using htd
 have hE':fT ι ψ1 N (eY env t (conv (dH S a) (zu (dH S a)) 4 (env t))) ac:=by
  refine⟨hE1.size,hE1.bound, ?_,fun s=>?_⟩
  ·obtain⟨l,vs,h1,h2,h3,h4⟩:=hE1.defers
   exact⟨l,vs,by rw [eY,if_neg (Ne.symm htd')];exact h1,h2,h3,h4⟩
  simp only [eY]
  split
  ·next hs =>
   subst hs
   exact jk hR1 (eo.le_refl _) hfr 4 _ _ (hE1.tmp _)
  ·exact hE1.tmp s
 exact KI.mono (h ι ψ1 w ac hR1 hE') fun e a2 w2 hp=>hp.chain (hx.take n0)
end Go.Fen
namespace Go.Fen
open Go.RowKit
variable {P:Program}{w0:World}{n0 N:Nat}{r:Option Nat}{Q:bU}{k:List TI}{env:du}{S:List aH}
def jp(c:Array Value)(s:List UInt8):Prop:=∀ (j:Nat) (b:UInt8),s[j]? = some b→c[j]? = some (.int .u8 (b.toNat:Int))
abbrev RE(c:Array Value)(e:TypeId):aH:=.obj (.cells c e (c.size,c.size+1))
theorem jp.size{c:Array Value}{s:List UInt8}(h:jp c s):s.length≤c.size:=by
 cases hs:s.length with
 | zero=>omega
 | succ n =>
  have h1:s[n]? = some s[n]:=ap ω
  have:=(bF.1 (h n _ h1)).1
  omega
theorem jp.set{c:Array Value}{s:List UInt8}(h:jp c s)(i:Nat)(b:UInt8):jp (c.setIfInBounds i (.int .u8 (b.toNat:Int))) (s.set i b):=by
 intro j x hx
 have hsz:=h.size
 rw [List.getElem?_set] at hx
 rw [bJ]
 by_cases hij:i=j
 ·subst hij
  by_cases hl:i<s.length
  ·simp only [if_true,hl] at hx
   cases hx
   rw [if_pos rfl,if_pos ω]
  ·simp only [if_true,hl,if_false] at hx
   cases hx
 ·rw [if_neg hij] at hx
  rw [if_neg hij]
  exact h j x hx
theorem jp.row{c:Array Value}{s:List UInt8}(h:jp c s):o4 c s.length=some s:=by
 unfold o4
 rw [if_pos h.size]
 have key:c.toList.take s.length=s.map fun b=>eK .u8 (b.toNat:Int):=by
  apply List.ext_getElem?
  intro j
  rw [bc,aJ]
  by_cases hj:j<s.length
  ·rw [if_pos hj,ap hj,bu]
   exact h j _ (ap hj)
  ·rw [if_neg hj,bR ω];rfl
 rw [key]
 clear key h
 induction s with
 | nil=>rfl
 | cons b s ih=>simp [I5,ih]
end Go.Fen
namespace Go.Fen
open Go.RowKit
section
variable {P:Program}{w0 w:World}{n0 N:Nat}{r:Option Nat}{Q:bU}{k:List TI}{env:du}{S:List aH}{ι:List Pl}{ψ:eo}
theorem ng.take{n0 n:Nat}{pl:Pl}{B:aH}(h:ng n0 ι ψ w pl B)(hB:B.ltB n=true):ng n0 (ι.take n) ψ w pl B:=by
 cases B with
 | cells cs ty =>
  obtain⟨h0,⟨c,T,h1,h2,h3⟩,h4,h5⟩:=h
  refine⟨h0,⟨c,T,h1,h2,fun j x e=>?_⟩,h4,h5⟩
  obtain⟨hl,v,hv,hr⟩:=h3 j x e
  exact⟨hl,v,hv,hr.take (c_.1 hB x (ax e))⟩
 | arr e sz fz g els =>
  obtain⟨hg,hsz,hpos,hfz,⟨xs,hown,hxs⟩,hps⟩:=h
  refine⟨hg,hsz,hpos,hfz,⟨xs,hown,fun j x e'=>?_⟩,hps⟩
  obtain⟨hl,v,hv,hr,hro⟩:=hxs j x e'
  obtain⟨el,he1,he2⟩:=pw hsz hpos e'
  exact⟨hl,v,hv,hr.take (mS (c_.1 hB el (ax he1)) he2),hro⟩
 | obj o=>exact h
 | loop st pend N tm ps asg body =>
  obtain⟨h0,⟨fn,vs,d,h1,h2,h2'⟩,h3,h4⟩:=h
  exact⟨h0,⟨fn,vs,d,h1,h2,fun p hp=>(h2' p hp).take (aD.1 hB p hp)⟩,h3,h4⟩
 | mp fz es =>
  obtain⟨h0,hn,⟨me,c,l,h1,h2,h3,h4,h5⟩,h6⟩:=h
  refine⟨h0,hn,⟨me,c,l,h1,h2,h3,⟨h4.1,fun i e m he hm=>?_⟩,h5⟩,h6⟩
  have hme:=e_.1 hB e (h3.mem_iff.1 (ax he))
  obtain⟨a,b⟩:=h4.2 i e m he hm
  exact⟨a.take hme.1,b.take hme.2⟩
 | mit cur rest =>
  obtain⟨h0,h1,h3,h4⟩:=h
  obtain⟨q1,q2⟩:=sB hB
  refine⟨h0, ?_,h3,h4⟩
  rcases h1 with h1|⟨mb,ck,me,seen,l,k1,k2,k3,k4,k5⟩
  ·exact .inl h1
  ·refine .inr ⟨mb,ck,me,seen,l,k1,k2,k3,⟨k4.1,fun i e m he hm=>?_⟩,fun e he=>?_⟩
   ·have hme:=e_.1 q1 e (k3.mem_iff.1 (ax he))
    obtain⟨a,b⟩:=k4.2 i e m he hm
    exact⟨a.take hme.1,b.take hme.2⟩
   ·obtain⟨b,m,j1,j2,j3,j4⟩:=k5 e he
    exact⟨b,m,j1,j2,j3.take (q2 e he).1,j4.take (q2 e he).2⟩
 | dead=>trivial
end
section
variable {P:Program}{w0:World}{n0 N:Nat}{r:Option Nat}{Q:bU}{k:List TI}{env:du}{S:List aH}
variable {ops:Array Oper}{f:Nat}{listed:Array Bool}{prot:List (Nat × List Nat)}
def qF(P:Program)(w0:World)(n0 N:Nat)(r:Option Nat)(ops:Array Oper)(k:List TI)(Q:bU)(f:Nat)(listed:Array Bool)(prot:List (Nat × List Nat))(env:du)(S:List aH)(i:Nat):Prop :=
 ∀ j∈cu .any ops listed,i≤j→i7 P w0 N ops Q j (fun env' S'=>cJ ops j prot S S'∧dS P w0 n0 N r ops k Q f (listed.setIfInBounds j true) prot env' S') env S
theorem RC(_h0:(match cu .any ops listed with|[]=>false|[_]=>false|_=>true)=true)(h:qF P w0 n0 N r ops k Q f listed prot env S 0):dS P w0 n0 N r ops k Q (f+1) listed prot env S :=
 ⟨fun e=>(by rw [e] at _h0;cases _h0),fun j hj=>h j hj (bf _)⟩
theorem aF{i:Nat}(h0:(cu .any ops listed).all (fun j=>decide (j<i))=true):qF P w0 n0 N r ops k Q f listed prot env S i :=
 fun j hj hi=>by have:=aD.1 h0 j hj;simp at this;omega
theorem MW{i:Nat}(h0:(!(cu .any ops listed).contains i&&(cu .any ops listed).any fun j=>decide (i<j))=true)(h:qF P w0 n0 N r ops k Q f listed prot env S (i+1)):qF P w0 n0 N r ops k Q f listed prot env S i :=
 fun j hj hi=>by
  by_cases e:j=i
  ·subst e
   have:(cu .any ops listed).contains j=true:=by simpa using hj
   rw [this] at h0;cases h0
  ·exact h j hj ω
theorem N3{i:Nat}(h:i7 P w0 N ops Q i (fun env' S'=>cJ ops i prot S S'∧dS P w0 n0 N r ops k Q f (listed.setIfInBounds i true) prot env' S') env S)(h':qF P w0 n0 N r ops k Q f listed prot env S (i+1)):qF P w0 n0 N r ops k Q f listed prot env S i :=
 fun j hj hi=>by
  by_cases e:j=i
  ·subst e;exact h
  ·exact h' j hj ω
end
end Go.Fen
namespace Go.Fen
open Go.RowKit
section
variable {P:Program}{w0:World}{n0 N:Nat}{r:Option Nat}{Q:bU}{k:List TI}{env:du}{S:List aH}{all:Array Oper}{l:List Oper}{dst:Option Nat}{v:AV}{K:du→List aH→Prop}
theorem eE(h:aX P w0 n0 N r (.it (.ops all l)::k) Q .normal (putA env dst v) S):aU P w0 n0 N r all l k Q env dst (.ret v) S:=h
theorem cN(h:aX P w0 n0 N r k Q (.panic v) env S):aU P w0 n0 N r all l k Q env dst (.panic v) S:=h
theorem Lx(h:K (putA env dst v) S):cC Q K env dst (.ret v) S:=h
theorem E0(h:Q (.panic v) env S):cC Q K env dst (.panic v) S:=h
end
theorem st {G K:Prop} (h:K) (run:Hid K→G:=by
 intro kk
 first
 | (first|apply fX|apply eA|apply dC|apply eB|apply fY|apply b8|apply gh|apply b_|apply bN|apply cM|apply b9|apply bM|apply bv|apply gg|fail);exact kk.out
 | apply bw;(· rfl);exact kk.out
 | apply cK;simp only [List.toList_toArray];exact kk.out
 | apply dx;(· rfl);(· simp only [go_sem, *];try rfl);(· rfl);simp only [putA];exact kk.out
 | apply dy;(· simp only [go_sem, *];try rfl);(· rfl);(· simp only [go_sem, *];try rfl);exact kk.out
 | apply dM;(iterate 2 (· simp only [go_sem, *];try rfl));(· rfl);simp only [putA];exact kk.out
 | apply bL;(· simp only [go_sem, *];try rfl);(· rfl);simp only [putA];exact kk.out
 | apply dz;(· simp only [go_sem, *];try rfl);exact kk.out
 | apply dB;(· simp only [go_sem, *];try rfl);exact kk.out
 | apply eE;simp only [putA];exact kk.out
 | apply cN;exact kk.out
 | fail):G:=run h
theorem sd {G K:Prop} (h:K) (run:Hid K→G:=by
 intro kk
 first
 | apply gy;(· exact mixed);(· simp only [List.size_toArray,List.length_cons,List.length_nil,Nat.reduceAdd];try rfl);exact kk.out
 | apply zI;(· decide +kernel);exact kk.out
 | apply Fp;(repeat (apply Lz;(· decide +kernel)));apply zV;(· decide +kernel);(· first|exact kf|exact ke|exact qb|assumption);(· rfl);(iterate 3 (· simp only [go_sem, *];try rfl));(· rfl);(· simp only [go_sem, *];try rfl);simp only [putA];exact kk.out
 | apply Fp;(repeat (apply Lz;(· decide +kernel)));apply E8;(· decide +kernel);(· first|exact kf|exact ke|exact qb|assumption);(· rfl);(iterate 2 (· simp only [go_sem, *];try rfl));(· rfl);simp only [putA];exact kk.out
 | apply Fp;(repeat (apply N6;(· decide +kernel)));apply E9;(· decide +kernel);exact kk.out
 | apply RC;(· decide +kernel);exact kk.out
 | apply MW;(· decide +kernel);exact kk.out
 | apply vO;(iterate 3 (· simp only [go_sem, *];try rfl));(· rfl);simp only [putA];exact kk.out
 | apply D7;(iterate 2 (· simp only [go_sem, *];try rfl));(· rfl);simp only [putA];exact kk.out
 | apply Lx;simp only [putA];exact kk.out
 | apply E0;exact kk.out
 | apply za;exact kk.out
 | apply vF;exact kk.out
 | apply iG;exact kk.out
 | apply o8;(· decide +kernel);exact kk.out
 | apply vI;(· simp only [go_sem, *];try rfl);exact kk.out
 | fail):G:=run h
theorem sx {G K:Prop} (h:K) (run:Hid K→G:=by
 intro kk
 first
 | apply Fp;(repeat (apply Lz;(· decide +kernel)));apply IE;(· decide +kernel);(iterate 3 (· simp only [go_sem, *];try rfl));(· rfl);(· first|rfl|decide +kernel);(· simp only [go_sem, *];try rfl);simp only [putA];exact kk.out
 | apply hY;(· decide +kernel);exact kk.out
 | fail):G:=run h
theorem Nl(b:Bool):(((!b)=true)=(b=false))∧(((!b)=false)=(b=true)):=by cases b<;>simp
theorem br {G K L:Prop} (h:K) (h':L) (run:Hid K→Hid L→G:=by
 intro kk ll
 first
 | apply cL;(· rfl);(fail_if_success (focus (show _=some true;(· simp only [go_sem, *];try rfl))));(· simp only [go_sem, *];try rfl);(· intro hb;(try simp only [Nl] at hb);revert hb;exact kk.out);(intro hb;(try simp only [Nl] at hb);revert hb;exact ll.out)
 | apply dA;(· simp only [go_sem, *];try rfl);(· intro hb;(try simp only [Nl] at hb);revert hb;exact kk.out);(intro hb;(try simp only [Nl] at hb);revert hb;exact ll.out)
 | fail):G:=run h h'
theorem bd {G K L:Prop} (h:K) (h':L) (run:Hid K→Hid L→G:=by
 intro kk ll
 first
 | apply DZ;(· exact kk.out);exact ll.out
 | apply N3;(· exact kk.out);exact ll.out
 | fail):G:=run h h'
theorem ca {G K:Prop} (h:K) (run:Hid K→G:=by
 intro kk
 first
 | apply df [];(· simp only [go_sem, *];try rfl);(· rfl);(· simp only [go_sem, *];try rfl);(· rfl);(iterate 2 (· simp only [go_sem, *];try rfl));exact kk.out
 | fail):G:=run h
theorem cd {G K:Prop} (h:K) (run:Hid K→G:=by
 intro kk
 first
 | apply je [];(iterate 2 (· simp only [go_sem, *];try rfl));(· rfl);(· simp only [go_sem, *];try rfl);(· rfl);(iterate 2 (· simp only [go_sem, *];try rfl));exact kk.out
 | fail):G:=run h
theorem fR {G K p:Prop} (hr:p) (h:K) (run:Hid p→Hid K→G:=by
 intro rr kk
 apply uJ
 iterate 7 (· simp only [go_sem, *,rr.out];try rfl)
 exact kk.out):G:=run hr h
theorem fE {G K p:Prop} (hr:p) (h:K) (run:Hid p→Hid K→G:=by
 intro rr kk
 apply ML
 iterate 7 (· simp only [go_sem, *,rr.out];try rfl)
 exact kk.out):G:=run hr h
theorem fP {G K:Prop} (h:K) (run:Hid K→G:=by
 intro kk
 apply Ia
 iterate 6 (· simp only [go_sem, *];try rfl)
 exact kk.out):G:=run h
theorem Ib {G A B K p:Prop} (hr:p) (hO:A) (hl:B) (h:K) (run:Hid p→Hid A→Hid B→Hid K→G:=by
 intro rr aa bb kk
 apply EA
 iterate 5 (· simp only [go_sem, *,rr.out];try rfl)
 ·exact aa.out
 ·exact bb.out
 exact kk.out):G:=run hr hO hl h
theorem K8 {G A B K p:Prop} (hr:p) (hO:A) (hl:B) (h:K) (run:Hid p→Hid A→Hid B→Hid K→G:=by
 intro rr aa bb kk
 apply KZ
 iterate 5 (· simp only [go_sem, *,rr.out];try rfl)
 ·exact aa.out
 ·exact bb.out
 exact kk.out):G:=run hr hO hl h
theorem eN{P:Program}{w0:World}{S:List aH}{f:FuncId}{F:Func}{c:Code}{args:List AV}{R:Rt}{n:Nat}(hf:P.funcs[f]? = some F)(hb:F.body=some c)(hn:F.ntmps=n)
 (h0:bH S→aX P w0 S.length n none [.it (.code c)] (jV P F S R) .normal (dE args) S) (hname:(F.name == "runtime.NumGoroutine")=false:=by decide +kernel) (hargs:args.length≤n:=by simp) (hbd:n≤DS:=by decide):ao P w0 f args S R:=by
 subst hn;exact enter hf hb hname hargs hbd h0
theorem ss{p:Prop}(h:p:=by (simp only [go_sem, *];try rfl)):p:=h
theorem ε0{G K:Prop}(h:K)(run:Hid K→G:=by
 intro kk
 (repeat' first|refine st ?_|fail)
 all_goals exact kk.out):G:=run h
theorem ε1{G K T0:Prop}(a0:T0)(h:K)(run:Hid T0→Hid K→G:=by
 intro a0 kk
 (repeat' first|refine st ?_|(refine ca ?_;apply a0.out)|fail)
 all_goals exact kk.out):G:=run a0 h
theorem Δ1{G K T0:Prop}(a0:T0)(h:K)(run:Hid T0→Hid K→G:=by
 intro a0 kk
 (repeat' first|refine st ?_|(refine ca ?_;apply a0.out)|refine sd ?_|apply aw|(apply aF;(· decide +kernel))|refine bd ?_ ?_|(refine cd ?_;apply a0.out)|fail)
 all_goals exact kk.out):G:=run a0 h
theorem ε2{G K T0 T1:Prop}(a0:T0)(a1:T1)(h:K)(run:Hid T0→Hid T1→Hid K→G:=by
 intro a0 a1 kk
 (repeat' first|refine st ?_|(refine ca ?_;first|apply a0.out|apply a1.out)|fail)
 all_goals exact kk.out):G:=run a0 a1 h
theorem Δ0{G K:Prop}(h:K)(run:Hid K→G:=by
 intro kk
 (repeat' first|refine st ?_|refine sd ?_|apply aw|(apply aF;(· decide +kernel))|refine bd ?_ ?_|fail)
 all_goals exact kk.out):G:=run h
theorem ε3{G K T0 T1 T2:Prop}(a0:T0)(a1:T1)(a2:T2)(h:K)(run:Hid T0→Hid T1→Hid T2→Hid K→G:=by
 intro a0 a1 a2 kk
 (repeat' first|refine st ?_|(refine ca ?_;first|apply a0.out|apply a1.out|apply a2.out)|fail)
 all_goals exact kk.out):G:=run a0 a1 a2 h
theorem ε4{G K T0 T1 T2 T3:Prop}(a0:T0)(a1:T1)(a2:T2)(a3:T3)(h:K)(run:Hid T0→Hid T1→Hid T2→Hid T3→Hid K→G:=by
 intro a0 a1 a2 a3 kk
 (repeat' first|refine st ?_|(refine ca ?_;first|apply a0.out|apply a1.out|apply a2.out|apply a3.out)|fail)
 all_goals exact kk.out):G:=run a0 a1 a2 a3 h
theorem Δ2{G K T0 T1:Prop}(a0:T0)(a1:T1)(h:K)(run:Hid T0→Hid T1→Hid K→G:=by
 intro a0 a1 kk
 (repeat' first|refine st ?_|(refine ca ?_;first|apply a0.out|apply a1.out)|refine sd ?_|apply aw|(apply aF;(· decide +kernel))|refine bd ?_ ?_|(refine cd ?_;first|apply a0.out|apply a1.out)|fail)
 all_goals exact kk.out):G:=run a0 a1 h
theorem ε11{G K T0 T1:Prop}(a0:T0)(b0:T1)(h:K)(run:Hid T0→Hid T1→Hid K→G:=by
 intro a0 b0 kk
 (repeat' first|refine st ?_|(refine ca ?_;first|apply a0.out|(apply b0.out;(· simp only [go_sem, *];try rfl)))|fail)
 all_goals exact kk.out):G:=run a0 b0 h
theorem Δ3{G K T0 T1 T2:Prop}(a0:T0)(a1:T1)(a2:T2)(h:K)(run:Hid T0→Hid T1→Hid T2→Hid K→G:=by
 intro a0 a1 a2 kk
 (repeat' first|refine st ?_|(refine ca ?_;first|apply a0.out|apply a1.out|apply a2.out)|refine sd ?_|apply aw|(apply aF;(· decide +kernel))|refine bd ?_ ?_|(refine cd ?_;first|apply a0.out|apply a1.out|apply a2.out)|fail)
 all_goals exact kk.out):G:=run a0 a1 a2 h
theorem ε01{G K T0:Prop}(b0:T0)(h:K)(run:Hid T0→Hid K→G:=by
 intro b0 kk
 (repeat' first|refine st ?_|(refine ca ?_;(apply b0.out;(· simp only [go_sem, *];try rfl)))|fail)
 all_goals exact kk.out):G:=run b0 h
theorem ε21{G K T0 T1 T2:Prop}(a0:T0)(a1:T1)(b0:T2)(h:K)(run:Hid T0→Hid T1→Hid T2→Hid K→G:=by
 intro a0 a1 b0 kk
 (repeat' first|refine st ?_|(refine ca ?_;first|apply a0.out|apply a1.out|(apply b0.out;(· simp only [go_sem, *];try rfl)))|fail)
 all_goals exact kk.out):G:=run a0 a1 b0 h
theorem Δ12{G K T0 T1 T2:Prop}(a0:T0)(b0:T1)(b1:T2)(h:K)(run:Hid T0→Hid T1→Hid T2→Hid K→G:=by
 intro a0 b0 b1 kk
 (repeat' first|refine st ?_|(refine ca ?_;first|apply a0.out|(apply b0.out;(· simp only [go_sem, *];try rfl))|(apply b1.out;(· simp only [go_sem, *];try rfl)))|refine sd ?_|apply aw|(apply aF;(· decide +kernel))|refine bd ?_ ?_|(refine cd ?_;first|apply a0.out|(apply b0.out;(· simp only [go_sem, *];try rfl))|(apply b1.out;(· simp only [go_sem, *];try rfl)))|fail)
 all_goals exact kk.out):G:=run a0 b0 b1 h
theorem γR0{G K p q r:Prop}(f:p)(n:q)(s:r)(h:K)(run:Hid p→Hid q→Hid r→Hid K→G:=by
 intro ff nn rr kk
 refine eN ff.out rfl nn.out fun hO=>?_
 (repeat' first|refine st ?_|fail)
 all_goals (refine fR rr.out ?_;exact kk.out)):G:=run f n s h
theorem γR1{G K p q r T0:Prop}(a0:T0)(f:p)(n:q)(s:r)(h:K)(run:Hid T0→Hid p→Hid q→Hid r→Hid K→G:=by
 intro a0 ff nn rr kk
 refine eN ff.out rfl nn.out fun hO=>?_
 (repeat' first|refine st ?_|(refine ca ?_;apply a0.out)|fail)
 all_goals (refine fR rr.out ?_;exact kk.out)):G:=run a0 f n s h
theorem ΓR1{G K p q r T0:Prop}(a0:T0)(f:p)(n:q)(s:r)(h:K)(run:Hid T0→Hid p→Hid q→Hid r→Hid K→G:=by
 intro a0 ff nn rr kk
 refine eN ff.out rfl nn.out fun hO=>?_
 (repeat' first|refine st ?_|(refine ca ?_;apply a0.out)|refine sd ?_|apply aw|(apply aF;(· decide +kernel))|refine bd ?_ ?_|(refine cd ?_;apply a0.out)|fail)
 all_goals (refine fR rr.out ?_;exact kk.out)):G:=run a0 f n s h
theorem γR2{G K p q r T0 T1:Prop}(a0:T0)(a1:T1)(f:p)(n:q)(s:r)(h:K)(run:Hid T0→Hid T1→Hid p→Hid q→Hid r→Hid K→G:=by
 intro a0 a1 ff nn rr kk
 refine eN ff.out rfl nn.out fun hO=>?_
 (repeat' first|refine st ?_|(refine ca ?_;first|apply a0.out|apply a1.out)|fail)
 all_goals (refine fR rr.out ?_;exact kk.out)):G:=run a0 a1 f n s h
theorem γR4{G K p q r T0 T1 T2 T3:Prop}(a0:T0)(a1:T1)(a2:T2)(a3:T3)(f:p)(n:q)(s:r)(h:K)(run:Hid T0→Hid T1→Hid T2→Hid T3→Hid p→Hid q→Hid r→Hid K→G:=by
 intro a0 a1 a2 a3 ff nn rr kk
 refine eN ff.out rfl nn.out fun hO=>?_
 (repeat' first|refine st ?_|(refine ca ?_;first|apply a0.out|apply a1.out|apply a2.out|apply a3.out)|fail)
 all_goals (refine fR rr.out ?_;exact kk.out)):G:=run a0 a1 a2 a3 f n s h
theorem ΓR2{G K p q r T0 T1:Prop}(a0:T0)(a1:T1)(f:p)(n:q)(s:r)(h:K)(run:Hid T0→Hid T1→Hid p→Hid q→Hid r→Hid K→G:=by
 intro a0 a1 ff nn rr kk
 refine eN ff.out rfl nn.out fun hO=>?_
 (repeat' first|refine st ?_|(refine ca ?_;first|apply a0.out|apply a1.out)|refine sd ?_|apply aw|(apply aF;(· decide +kernel))|refine bd ?_ ?_|(refine cd ?_;first|apply a0.out|apply a1.out)|fail)
 all_goals (refine fR rr.out ?_;exact kk.out)):G:=run a0 a1 f n s h
theorem γR3{G K p q r T0 T1 T2:Prop}(a0:T0)(a1:T1)(a2:T2)(f:p)(n:q)(s:r)(h:K)(run:Hid T0→Hid T1→Hid T2→Hid p→Hid q→Hid r→Hid K→G:=by
 intro a0 a1 a2 ff nn rr kk
 refine eN ff.out rfl nn.out fun hO=>?_
 (repeat' first|refine st ?_|(refine ca ?_;first|apply a0.out|apply a1.out|apply a2.out)|fail)
 all_goals (refine fR rr.out ?_;exact kk.out)):G:=run a0 a1 a2 f n s h
end Go.Fen
namespace Go.Fen
open Go.RowKit
theorem dk(n:Nat){P:Program}{w0:World}{n0 N:Nat}{r:Option Nat}{Q:bU}{k:List TI}{env:du}{S:List aH}{all:Array Oper}{o:Oper}{l:List Oper}(h:o.dst=some n)(hf:False):aX P w0 n0 N r (.it (.ops all (o::l))::k) Q .normal env S:=hf.elim
theorem ci(n:Nat){P:Program}{w0:World}{n0 N:Nat}{r:Option Nat}{Q:bU}{k:List TI}{env:du}{S:List aH}{ops:Array Oper}{b:Bool}(hf:False):aX P w0 n0 N r (.it (.code (.region n ops b))::k) Q .normal env S:=hf.elim
section
variable {P:Program}{w0:World}{n0 N:Nat}{r:Option Nat}{Q:bU}{k:List TI}{ops:Array Oper}
end
end Go.Fen
namespace Go.Fen
open Go.RowKit
variable {P:Program}{w0:World}{n0 N:Nat}{r:Option Nat}{Q:bU}{k:List TI}{env:du}{S:List aH}
theorem rO{all:Array Oper}{o:Oper}{l:List Oper}{t e:TypeId}{x:Operand}{n sz:Nat}{els:List AV}(hg:ce all env o=some true)(ho:o.op=.slice t x none none none)(ht:P.underlying t=some (.array n e))(hs:ff P e=some sz)
  (hx:bo w0 env x=.pro (ei els)) (hl:els.length=n) (hok:∀ y∈els,y.cells.length=sz) (hds:eV N o.dst=true)
  (h:aX P w0 n0 N r (.it (.ops all l)::k) Q .normal (putA env o.dst (.sval true els)) S):aX P w0 n0 N r (.it (.ops all (o::l))::k) Q .normal env S:=by
 intro ι ψ w a hR hE
 have hw:=da hE hg
 refine ej hw (fun c hc=>by rw [hc] at ho;cases ho) ?_
 have hv:=hE.eval hR x
 rw [hx] at hv
 generalize hcx:a.eval x=cx at hv
 cases hv with
 | pro _ b off cv h1 h2 =>
  have hres:(execOp a.eval o).run P w=.ok (.value (.slice (some ⟨b,off,none⟩) n n)) w:=by
   by_cases hn:n=0
   ·subst hn
    simp [execOp,ho,hcx,gj,eF,run_underlying ht,eu,cy hs]
   ·simp [execOp,ho,hcx,gj,eF,run_underlying ht,eu,cy hs,hn,Addr.add_lit]
  rw [hres]
  have hvv:VR ι ψ (.sval true els) (.slice (some ⟨b,off,none⟩) n n):=by
   rw [← hl]
   refine .sval sz true els b off els.length (fun i j=>cv (i * sz+j)) (fun i y hy=>hok y (ax hy)) (ba _) (fun _=>rfl) (fun i y j z hy hz=>?_) (fun i y j z hy hz=>?_)
   ·have:=h1 _ _ (kA hok hy hz)
    rw [qI]
    exact this
   ·exact h2 _ _ (kA hok hy hz)
  exact KI.mono (h ι ψ _ _ hR (hE.putA hvv hds)) fun e a2 w2 hp=>hp
end Go.Fen
namespace Go.Fen
open Go.RowKit
section
variable {P:Program}{w0:World}{n0 N:Nat}{r:Option Nat}{Q:bU}{k:List TI}{ops:Array Oper}
def sF(ops:Array Oper)(listed:Array Bool):Nat:=(bh ops.size).countP fun i=>!listed.getD i true
theorem tg{p q:Nat→Bool}{i:Nat}:∀ {l:List Nat},l.Nodup→i∈l→p i=true→q i=false→(∀ j,j≠i→q j=p j)→l.countP q+1=l.countP p
 | [],_,h,_,_,_=>by cases h
 | a::l,hn,h,h1,h2,h3=>by
  rw [pT] at hn
  rcases bD.1 h with rfl|h
  ·rw [List.countP_cons_of_neg (by simp [h2]),List.countP_cons_of_pos h1]
   congr 1
   refine List.countP_congr fun j hj=>?_
   rw [h3 j (fun e=>hn.1 (e▸hj))]
  ·have ih:=tg hn.2 h h1 h2 h3
   have hai:a≠i:=fun e=>hn.1 (e▸h)
   rw [Fx,Fx,h3 a hai]
   omega
theorem AW(I:Array Bool→du→List aH→Prop)
  (step:∀ (listed:Array Bool) (env:du) (S:List aH) (i:Nat) (o:Oper),I listed env S→ops[i]? = some o→listed.getD i true=false→(∀ e∈o.after,fe .any e=true→listed.getD e.on false=true)→i7 P w0 N ops Q i (fun env' S'=>I (listed.setIfInBounds i true) env' S') env S)
  (fin:∀ (listed:Array Bool) (env:du) (S:List aH),I listed env S→cu .any ops listed=[]→aX P w0 n0 N r k Q .normal env S) :
  ∀ (f:Nat) (listed:Array Bool) (env:du) (S:List aH),I listed env S→sF ops listed≤f→dS P w0 n0 N r ops k Q f listed [] env S:=by
 intro f
 induction f with
 | zero =>
  intro listed env S hI hl
  have hr:cu .any ops listed=[]:=by
   rw [List.eq_nil_iff_forall_not_mem]
   intro i hi
   obtain⟨hu,o,ho,_⟩:=mem_ready.1 hi
   have hlt:i<ops.size:=(bF.1 ho).1
   have:0<sF ops listed:=List.countP_pos_iff.2 ⟨i,dT.2 hlt,by simp [hu]⟩
   omega
  exact⟨hr,fin _ _ _ hI hr⟩
 | succ f ih =>
  intro listed env S hI hl
  refine⟨fun hr=>fin _ _ _ hI hr,fun i hi=>?_⟩
  obtain⟨hu,o,ho,hd⟩:=mem_ready.1 hi
  have hlt:i<ops.size:=(bF.1 ho).1
  refine(step listed env S i o hI ho hu hd).mono fun env' S' hI'=>⟨trivial,ih _ _ _ hI' ?_⟩
  have hsz:i<listed.size:=by
   by_cases h:i<listed.size
   ·exact h
   ·have:listed.getD i true=true:=by simp [lF,h]
    rw [this] at hu;cases hu
  have:=tg (p:=fun i=>!listed.getD i true) (q:=fun j=>!(listed.setIfInBounds i true).getD j true) (i:=i) List.nodup_range (dT.2 hlt) (by simp [hu]) (by simp [aC,hsz]) (fun j hj=>by
   simp only [aC,ka (Ne.symm hj)])
  unfold sF at hl ⊢
  omega
def s_(ops:Array Oper):Bool:=(bh ops.size).all fun i=>match ops[i]? with
 | some o=>o.after.all fun e=>!fe .any e||decide (e.on<i)
 | none=>true
theorem lX(hd:s_ ops=true){listed:Array Bool}(hr:cu .any ops listed=[]):∀ i,i<ops.size→listed.getD i true=true:=by
 intro i
 induction i using Nat.strongRecOn with
 | _ i ih =>
  intro hi
  cases hl:listed.getD i true with
  | true=>rfl
  | false =>
   have hm:i∈cu .any ops listed:=by
    refine mem_ready.2 ⟨hl,ops[i],bm hi,fun e he hb=>?_⟩
    have h1:=aD.1 hd i (dT.2 hi)
    rw [bm hi] at h1
    simp only [Array.all_eq_true_iff_forall_mem] at h1
    have h2:=h1 e he
    rw [hb] at h2
    simp only [cq,wG,decide_eq_true_eq] at h2
    have h3:=ih e.on h2 ω
    have hsz:e.on<listed.size:=by
     have:i<listed.size:=by
      by_cases h:i<listed.size
      ·exact h
      ·have:listed.getD i true=true:=by simp [lF,h]
       rw [this] at hl;cases hl
     omega
    simp only [aC,bm hsz,Fs] at h3 ⊢
    exact h3
   rw [hr] at hm;cases hm
end
end Go.Fen
namespace Go.Fen
open Go.RowKit
theorem VR.mperm{ι:List Pl}{ψ:eo}{es es':List (AV × AV)}{c:Value}(h:VR ι ψ (.mval es) c)(hp:es.Perm es'):VR ι ψ (.mval es') c:=by
 cases h with
 | mval _ l b ck me hb hp' hl hn h1 h2=>exact .mval es' l b ck me hb (hp'.trans hp) hl ((hp.map cP).nodup_iff.1 hn) h1 h2
section
variable {P:Program}{w0:World}{n0 N:Nat}{r:Option Nat}{Q:bU}{k:List TI}{env:du}{S:List aH}
theorem ao.mperm{f:FuncId}{args:List AV}{R:Rt}{E:List (AV × AV)}(h:ao P w0 f args S (fun out S'=>∃ es,out=.ret (.mval es)∧es.Perm E∧R (.ret (.mval E)) S')):ao P w0 f args S R:=by
 refine⟨h.1,fun ι ψ w cargs hR hl hv=>(h.2 ι ψ w cargs hR hl hv).mono ?_⟩
 rintro e w' ⟨ι',ψ',out,S',h1,h2,h3,es,rfl,e2,e3⟩
 refine⟨ι',ψ',.ret (.mval E),S',h1,h2, ?_,e3⟩
 cases e<;>simp only [nf] at h3 ⊢
 exact h3.mperm e2
end
inductive im where
 | val (d:Nat) (v:AV)
 | mk (d:Nat)
 | ent (k v:AV)
def im.dst:im→Option Nat
 | .val d _=>some d
 | .mk d=>some d
 | .ent _ _=>none
def im.out(m:Nat):im→AV
 | .val _ v=>v
 | .mk _=>.mown m
 | .ent _ _=>.tup []
def jD:Nat→List im→List (Nat × AV × AV)
 | _,[]=>[]
 | i,.ent k v::r=>(i,k,v)::jD (i+1) r
 | i,_::r=>jD (i+1) r
def gC(T:List (Nat × AV × AV))(listed:Array Bool):List (AV × AV):=(T.filter fun p=>listed.getD p.1 true).map fun p=>p.2
theorem kv{T:List (Nat × AV × AV)}{listed:Array Bool}{i:Nat}(h:∀ p∈T,p.1≠i):gC T (listed.setIfInBounds i true)=gC T listed:=by
 unfold gC
 congr 1
 refine List.filter_congr fun p hp=>?_
 rw [getD_set_ne true (Ne.symm (h p hp))]
theorem kB:∀ {l:List im}{i:Nat},∀ p∈jD i l,i≤p.1
 | [],_,p,h=>by cases h
 | .ent k v::r,i,p,h=>by
  rcases bD.1 h with rfl|h
  ·exact ba _
  ·have:=kB p h;omega
 | .val d v::r,i,p,h=>by have:=kB (l:=r) p h;omega
 | .mk d::r,i,p,h=>by have:=kB (l:=r) p h;omega
theorem jj:∀ {l:List im}{i j:Nat}{k v:AV},(j,k,v)∈jD i l→l[j - i]? = some (.ent k v)
 | [],_,_,_,_,h=>by cases h
 | .ent k v::r,i,j,k',v',h=>by
  rcases bD.1 h with h|h
  ·cases h;simp
  ·have h1:=kB _ h
   have h2:=jj h
   rw [show j - i=(j - (i+1))+1 by simp only at h1;omega]
   exact h2
 | .val d v::r,i,j,k',v',h=>by
  have h1:=kB (l:=r) _ h
  have h2:=jj (l:=r) h
  rw [show j - i=(j - (i+1))+1 by simp only at h1;omega]
  exact h2
 | .mk d::r,i,j,k',v',h=>by
  have h1:=kB (l:=r) _ h
  have h2:=jj (l:=r) h
  rw [show j - i=(j - (i+1))+1 by simp only at h1;omega]
  exact h2
theorem uH:∀ {l:List im}{i j:Nat}{k v:AV},l[j]? = some (.ent k v)→∃ A B,jD i l=A++(i+j,k,v)::B∧(∀ p∈A,p.1≠i+j)∧(∀ p∈B,p.1≠i+j)
 | [],_,_,_,_,h=>by simp at h
 | x::r,i,0,k,v,h=>by
  simp at h
  subst h
  exact⟨[],jD (i+1) r,rfl,χ,fun p hp=>by have:=kB p hp;omega⟩
 | x::r,i,j+1,k,v,h=>by
  obtain⟨A,B,h1,h2,h3⟩:=uH (l:=r) (i:=i+1) (j:=j) (by simpa using h)
  rw [show i+1+j=i+(j+1) by omega] at h1 h2 h3
  cases x with
  | val d v=>exact⟨A,B,h1,h2,h3⟩
  | mk d=>exact⟨A,B,h1,h2,h3⟩
  | ent k' v' =>
   refine⟨(i,k',v')::A,B,by rw [jD,h1];rfl,fun p hp=>?_,h3⟩
   rcases bD.1 hp with rfl|hp
   ·simp only;omega
   ·exact h2 p hp
theorem BP{A B:List (Nat × AV × AV)}{listed:Array Bool}{i:Nat}{k v:AV}{es:List (AV × AV)}(hp:es.Perm (gC (A++(i,k,v)::B) listed))(hu:listed.getD i true=false)(h1:∀ p∈A,p.1≠i)(h2:∀ p∈B,p.1≠i) :
  (es++[(k,v)]).Perm (gC (A++(i,k,v)::B) (listed.setIfInBounds i true)):=by
 have hi:i<listed.size:=by
  by_cases h:i<listed.size
  ·exact h
  ·have:listed.getD i true=true:=by simp [lF,h]
   rw [this] at hu;cases hu
 have e0:∀ l:Array Bool,gC (A++(i,k,v)::B) l=gC A l++(gC [(i,k,v)] l++gC B l):=by
  intro l;unfold gC;rw [show A++(i,k,v)::B=A++([(i,k,v)]++B) by simp,IP,IP,aM,aM]
 rw [e0] at hp
 rw [e0,kv h1,kv h2]
 have e1:gC [(i,k,v)] listed=[]:=by
  unfold gC
  rw [List.filter_cons_of_neg (by simp only;rw [hu];decide)]
  rfl
 have e2:gC [(i,k,v)] (listed.setIfInBounds i true)=[(k,v)]:=by simp [gC,aC,hi]
 rw [e1,gu] at hp
 rw [e2]
 refine(hp.append_right _).trans ?_
 rw [aP]
 exact(List.perm_append_comm).append_left _
def mV(P:Program)(kt:TypeId):List (AV × AV)→Bool
 | []=>true
 | e::l=>fh P kt e.1&&((l.all fun f=>!kR e.1 f.1)&&((l.all fun f=>!kR f.1 e.1)&&mV P kt l))
theorem ou{P:Program}{kt:TypeId}:∀ {l:List (AV × AV)},mV P kt l=true→∀ e∈l,fh P kt e.1=true
 | [],_,e,he=>by cases he
 | x::l,h,e,he=>by
  simp only [mV,aq] at h
  rcases bD.1 he with rfl|he
  ·exact h.1
  ·exact ou h.2.2.2 e he
theorem ot{P:Program}{kt:TypeId}:∀ {A B:List (AV × AV)}{e:AV × AV},mV P kt (A++e::B)=true→∀ f,f∈A∨f∈B→kR e.1 f.1=false
 | [],B,e,h,f,hf=>by
  simp only [gu,mV,aq,aD,ay] at h
  rcases hf with hf|hf
  ·cases hf
  ·exact h.2.1 f hf
 | x::A,B,e,h,f,hf=>by
  simp only [fQ,mV,aq,aD,ay] at h
  rcases hf with hf|hf
  ·rcases bD.1 hf with rfl|hf
   ·exact h.2.2.1 e χ
   ·exact ot h.2.2.2 f (.inl hf)
  ·exact ot h.2.2.2 f (.inr hf)
section
variable {P:Program}{w0:World}{n0 N:Nat}{r:Option Nat}{Q:bU}{k:List TI}{ops:Array Oper}
def IJ(ops:Array Oper)(pl:List im)(m:Nat)(dE:du)(i:Nat)(env:du):Prop :=
 (∀ j,lk ops i j=false→∀ f,pl[j]? = some f→∀ d,f.dst=some d→env d=f.out m)∧∀ t,(pl.all fun f=>!(f.dst==some t))=true→env t=dE t
def Jj(P:Program)(w0:World)(N:Nat)(Q:bU)(ops:Array Oper)(pl:List im)(S0:List aH)(dE:du)(t kt et:TypeId)(i:Nat):Prop :=
 match pl[i]? with
 | some (.val d v)=>∀ env S,IJ ops pl S0.length dE i env→(S=S0∨∃ es,S=S0++[.mp false es])→i7 P w0 N ops Q i (fun env' S'=>env'=eY env d v∧S'=S) env S
 | some (.mk d)=>∀ env,IJ ops pl S0.length dE i env→i7 P w0 N ops Q i (fun env' S'=>env'=eY env d (.mown S0.length)∧S'=S0++[.mp false []]) env S0
 | some (.ent a v)=>∃ (o:Oper) (mo ko vo:Operand),ops[i]? = some o∧o.dst=none∧o.guard=none∧(o.op=.mapUpdate t mo ko vo∨o.op=.insert t mo ko vo)∧∀ env,IJ ops pl S0.length dE i env→bo w0 env mo=.mown S0.length∧bo w0 env ko=a∧bo w0 env vo=v
 | none=>True
def pJ(F:Nat→Prop):Nat→Nat→Prop
 | _,0=>True
 | i,n+1=>F i∧pJ F (i+1) n
theorem kW{F:Nat→Prop}:∀ {n i j:Nat},pJ F i n→i≤j→j<i+n→F j
 | 0,i,j,_,h1,h2=>ω
 | n+1,i,j,h,h1,h2=>by
  by_cases e:i=j
  ·subst e;exact h.1
  ·exact kW h.2 ω ω
def D0(ops:Array Oper)(pl:List im)(j0:Nat):Bool :=
 pl.length==ops.size&&((match pl[j0]? with
  | some (.mk _)=>true
  | _=>false)&&((bh pl.length).all fun i=>match pl[i]? with
   | some (.mk _)=>i==j0
   | some (.ent _ _)=>!lk ops i j0
   | _=>true))&&decide ((pl.filterMap im.dst).Nodup)
theorem Lf{pl:List im}(h:(pl.filterMap im.dst).Nodup):∀ {i j:Nat}{f g:im}{d:Nat},pl[i]? = some f→pl[j]? = some g→f.dst=some d→g.dst=some d→i=j:=by
 induction pl with
 | nil=>intro i j f g d h1;simp at h1
 | cons x pl ih =>
  intro i j f g d h1 h2 h3 h4
  have hmem:∀ {j:Nat}{g:im},pl[j]? = some g→g.dst=some d→d∈pl.filterMap im.dst:=fun hg hd=>tK.2 ⟨_,ax hg,hd⟩
  have hn:(pl.filterMap im.dst).Nodup∧(x.dst=some d→d∉pl.filterMap im.dst):=by
   cases hx:x.dst with
   | none=>rw [List.filterMap_cons_none hx] at h;exact⟨h,fun e=>by cases e⟩
   | some d'=>rw [List.filterMap_cons_some hx] at h;rw [pT] at h;exact⟨h.2,fun e=>by cases e;exact h.1⟩
  cases i with
  | zero =>
   simp at h1;subst h1
   cases j with
   | zero=>rfl
   | succ j=>exact absurd (hmem (by simpa using h2) h4) (hn.2 h3)
  | succ i =>
   cases j with
   | zero=>simp at h2;subst h2;exact absurd (hmem (by simpa using h1) h3) (hn.2 h4)
   | succ j =>
    have:=ih hn.1 (i:=i) (j:=j) (by simpa using h1) (by simpa using h2) h3 h4
    omega
structure Nb (pl:List im) (j0:Nat) (dE:du) (S0:List aH) (listed:Array Bool) (env:du) (S:List aH):Prop where
 slot:∀ i f,pl[i]? = some f→listed.getD i true=true→∀ d,f.dst=some d→env d=f.out S0.length
 keep:∀ t,(pl.all fun f=>!(f.dst==some t))=true→env t=dE t
 m1:listed.getD j0 true=true→∃ es,es.Perm (gC (jD 0 pl) listed)∧S=S0++[.mp false es]
 m0:listed.getD j0 true=false→gC (jD 0 pl) listed=[]∧S=S0
theorem xd{pl:List im}(hn:(pl.filterMap im.dst).Nodup){m i d:Nat}{f:im}{listed:Array Bool}{env:du}(hf:pl[i]? = some f)(hd:f.dst=some d)
  (h:∀ i f,pl[i]? = some f→listed.getD i true=true→∀ d,f.dst=some d→env d=f.out m) :
  ∀ j g,pl[j]? = some g→(listed.setIfInBounds i true).getD j true=true→∀ e,g.dst=some e→eY env d (f.out m) e=g.out m:=by
 intro j g hg hl e he
 by_cases hji:j=i
 ·subst hji
  rw [hf] at hg;cases hg
  rw [hd] at he;cases he
  simp [eY]
 ·have hde:e≠d:=fun hh=>hji (Lf hn hg hf he (hh▸hd))
  rw [show eY env d (f.out m) e=env e by simp [eY,hde]]
  rw [getD_set_ne true (Ne.symm hji)] at hl
  exact h j g hg hl e he
theorem xM{pl:List im}{i d:Nat}{f:im}{env dE:du}{v:AV}(hf:pl[i]? = some f)(hd:f.dst=some d)(h:∀ t,(pl.all fun f=>!(f.dst==some t))=true→env t=dE t) :
  ∀ t,(pl.all fun f=>!(f.dst==some t))=true→eY env d v t=dE t:=by
 intro t ht
 have hne:t≠d:=by
  rintro rfl
  have:=aD.1 ht f (ax hf)
  rw [hd] at this
  simp at this
 rw [show eY env d v t=env t by simp [eY,hne]]
 exact h t ht
theorem wV{kk v:AV}{es:List (AV × AV)}(h:∀ e∈es,kR kk e.1=false):jZ kk v es=es++[(kk,v)]:=by
 unfold jZ
 rw [if_neg]
 rw [Bool.not_eq_true,Jm]
 intro e he
 rw [h e he]
 decide
theorem Lk{it:KI}(pl:List im)(j0:Nat){t kt et:TypeId}{n:Nat}{dE:du}{S0:List aH}(hn:ops.size=n)(hok:D0 ops pl j0=true)(hdep:s_ ops=true)(ht:P.underlying t=some (.map kt et))(hk:mV P kt ((jD 0 pl).map fun p=>p.2)=true)
  (hstep:pJ (Jj P w0 N Q ops pl S0 dE t kt et) 0 n)
  (fin:∀ env:du,(∀ (i:Nat) (f:im),pl[i]? = some f→∀ d,f.dst=some d→env d=f.out S0.length)→(∀ t,(pl.all fun f=>!(f.dst==some t))=true→env t=dE t)→aX P w0 n0 N r (.it it::k) Q .normal env (S0++[.mp false ((jD 0 pl).map fun p=>p.2)])) :
  dS P w0 n0 N r ops (.it it::k) Q n (bT n false) [] dE S0:=by
 simp only [D0,aq,beq_iff_eq,decide_eq_true_eq,aD,dT] at hok
 obtain⟨⟨hlen,hmk,hall⟩,hnd⟩:=hok
 have hT:∀ p∈jD 0 pl,p.1≠j0:=by
  rintro⟨j,a,v⟩ hp rfl
  have h1:=jj hp
  rw [Nat.sub_zero] at h1
  rw [h1] at hmk
  cases hmk
 refine AW (fun listed env S=>Nb pl j0 dE S0 listed env S) ?step ?fin n _ _ _ ?init ?left
 case left =>
  unfold sF
  rw [← hn]
  exact fc (oH) χ
 case init =>
  have hj:j0<n:=by
   cases h:pl[j0]? with
   | none=>rw [h] at hmk;cases hmk
   | some f=>have:=(af.1 h).1;omega
  have hrep:∀ i,i<n→(bT n false).getD i true=false:=fun i hi=>by simp [lF,hi]
  refine⟨fun i f hf hl=>?_,fun t _=>rfl,fun hl=>?_,fun _=>⟨?_,rfl⟩⟩
  ·have hi:=(af.1 hf).1
   rw [hrep i ω] at hl;cases hl
  ·rw [hrep j0 hj] at hl;cases hl
  ·unfold gC
   rw [List.map_eq_nil_iff,List.filter_eq_nil_iff]
   rintro⟨j,a,v⟩ hp
   have h1:=jj hp
   have hi:=(af.1 h1).1
   simp only
   rw [hrep j ω]
   simp
 case fin =>
  intro listed env S hI hr
  have hal:=lX hdep hr
  have hl:∀ i,i<pl.length→listed.getD i true=true:=fun i hi=>hal i ω
  have hj:j0<pl.length:=by
   cases h:pl[j0]? with
   | none=>rw [h] at hmk;cases hmk
   | some f=>exact(af.1 h).1
  obtain⟨es,hp,rfl⟩:=hI.m1 (hl j0 hj)
  have hm:gC (jD 0 pl) listed=(jD 0 pl).map fun p=>p.2:=by
   unfold gC
   congr 1
   rw [List.filter_eq_self]
   rintro⟨j,a,v⟩ hp
   have h1:=jj hp
   exact hl j (by have:=(af.1 h1).1;omega)
  rw [hm] at hp
  have hg:(S0++[aH.mp false es])[S0.length]? = some (.mp false es):=χ
  refine oO S0.length hg hp (by rw [eI _ _ (ba _),la]) ?_
  exact fin env (fun i f hf d hd=>hI.slot i f hf (hl i (af.1 hf).1) d hd) hI.keep
 case step =>
  intro listed env S i o hI ho hu hd
  have hi:i<n:=by have:=(bF.1 ho).1;omega
  have hs:=kW hstep (bf i) ω
  have hD:IJ ops pl S0.length dE i env:=by
   refine⟨fun j hj f hf d hd'=>hI.slot j f hf ?_ d hd',hI.keep⟩
   unfold lk at hj
   simp only [ho,aE] at hj
   rw [pW] at hj
   obtain⟨e,he,hb⟩:=hj
   simp only [aq,beq_iff_eq] at hb
   have h1:=hd e he hb.1
   rw [hb.2] at h1
   simp only [aC] at h1 ⊢
   cases hx:listed[j]? with
   | none=>rfl
   | some b=>rw [hx] at h1;simpa using h1
  unfold Jj at hs
  have hpi:∃ f,pl[i]? = some f:=⟨pl[i]'ω,ap ω⟩
  obtain⟨f,hf⟩:=hpi
  rw [hf] at hs
  have hne0:(∀ d,f≠.mk d)→j0≠i:=by
   rintro h rfl
   rw [hf] at hmk
   cases f with
   | mk d=>exact h d rfl
   | val=>cases hmk
   | ent=>cases hmk
  cases f with
  | val d v =>
   have hj:=hne0 (fun d h=>by cases h)
   have hTi:∀ p∈jD 0 pl,p.1≠i:=by
    rintro⟨j,a,v⟩ hp rfl
    have h1:=jj hp
    rw [Nat.sub_zero,hf] at h1;cases h1
   have hSS:S=S0∨∃ es,S=S0++[.mp false es]:=by
    cases hl:listed.getD j0 true with
    | true=>obtain⟨es,_,e⟩:=hI.m1 hl;exact .inr ⟨es,e⟩
    | false=>exact .inl (hI.m0 hl).2
   refine(hs env S hD hSS).mono ?_
   rintro env' S' ⟨rfl,rfl⟩
   refine⟨xd hnd hf rfl hI.slot,xM hf rfl hI.keep,fun hl=>?_,fun hl=>?_⟩
   ·rw [getD_set_ne true (Ne.symm hj)] at hl
    rw [kv hTi]
    exact hI.m1 hl
   ·rw [getD_set_ne true (Ne.symm hj)] at hl
    rw [kv hTi]
    exact hI.m0 hl
  | mk d =>
   have hij:i=j0:=by
    have:=hall i ω
    rw [hf] at this
    simpa using this
   subst hij
   obtain⟨hm,rfl⟩:=hI.m0 hu
   refine(hs env hD).mono ?_
   rintro env' S' ⟨rfl,rfl⟩
   refine⟨xd (f:=.mk d) hnd hf rfl hI.slot,xM hf rfl hI.keep,fun hl=>⟨[], ?_,rfl⟩,fun hl=>?_⟩
   ·rw [kv hT,hm]
   ·have hsz:i<listed.size:=by
     by_cases h:i<listed.size
     ·exact h
     ·have:listed.getD i true=true:=by simp [lF,h]
      rw [this] at hu;cases hu
    simp [aC,hsz] at hl
  | ent a v =>
   obtain⟨o',mo,ko,vo,ho',hdst,hgd,hop,hev⟩:=hs
   rw [ho] at ho';cases ho'
   obtain⟨ev1,ev2,ev3⟩:=hev env hD
   have hj:=hne0 (fun d h=>by cases h)
   have hjl:listed.getD j0 true=true:=by
    have h1:=hall i ω
    rw [hf] at h1
    simp only [ay] at h1
    unfold lk at h1
    simp only [ho,aE] at h1
    rw [pW] at h1
    obtain⟨e,he,hb⟩:=h1
    simp only [aq,beq_iff_eq] at hb
    have h2:=hd e he hb.1
    rw [hb.2] at h2
    simp only [aC] at h2 ⊢
    cases hx:listed[j0]? with
    | none=>rfl
    | some b=>rw [hx] at h2;simpa using h2
   obtain⟨es,hp,rfl⟩:=hI.m1 hjl
   obtain⟨A,B,hAB,hA,hB⟩:=uH (i:=0) hf
   rw [bG] at hAB hA hB
   have hmemE:∀ e∈es,∃ p,(p∈A∨p∈B)∧e=p.2:=by
    intro e he
    have h1:=hp.mem_iff.1 he
    unfold gC at h1
    obtain⟨p,hp1,rfl⟩:=aN.1 h1
    obtain⟨hp2,hp3⟩:=Cv.1 hp1
    rw [hAB] at hp2
    rcases bV.1 hp2 with h|h
    ·exact⟨p,.inl h,rfl⟩
    ·rcases bD.1 h with rfl|h
     ·simp only at hp3;rw [hu] at hp3;cases hp3
     ·exact⟨p,.inr h,rfl⟩
   have hkk:=hk
   rw [hAB,aM,al] at hkk
   have hnew:∀ e∈es,kR a e.1=false:=by
    intro e he
    obtain⟨p,hp,rfl⟩:=hmemE e he
    exact ot hkk p.2 (hp.imp (fun h=>dc h) (fun h=>dc h))
   have hkeys:∀ e∈es,fh P kt e.1=true:=by
    intro e he
    obtain⟨p,hp,rfl⟩:=hmemE e he
    refine ou hkk p.2 ?_
    rcases hp with h|h
    ·exact lA _ (dc h)
    ·exact dF _ (iv _ (dc h))
   have hka:fh P kt a=true:=ou hkk (a,v) (dF _ (dG ..))
   have hst:ew P (S0++[.mp false es]) (bo w0 env) o.op=some (.tup [],S0++[.mp false (es++[(a,v)])]):=by
    rcases hop with hop|hop
    all_goals
     rw [hop]
     simp only [ew,eC,ht,ev1,ev2,ev3,aA (ba _),la,List.getElem?_cons_zero]
     rw [if_pos (by simp only [aq,aD];exact⟨hka,hkeys⟩),wV hnew]
     simp [eI]
   refine vO ho (by simp [ce,hgd]) hst (by rw [hdst];rfl) ?_
   rw [hdst]
   refine⟨fun j g hg hl e he=>?_,hI.keep,fun _=>⟨_, ?_,rfl⟩,fun hl=>?_⟩
   ·by_cases hji:j=i
    ·subst hji;rw [hf] at hg;cases hg;cases he
    ·rw [getD_set_ne true (Ne.symm hji)] at hl
     exact hI.slot j g hg hl e he
   ·rw [hAB] at hp ⊢
    exact BP hp hu hA hB
   ·rw [getD_set_ne true (Ne.symm hj),hjl] at hl;cases hl
end
def softV:AV→AV
 | .snil=>.sval false []
 | x=>x
theorem VR.softV{ι:List Pl}{ψ:eo}{x:AV}{v:Value}(h:VR ι ψ x v):VR ι ψ (softV x) v:=by
 cases x<;>try exact h
 cases h
 exact .svnil _
theorem yR{x:AV}(h:x.leaf=true):(softV x).leaf=true:=by
 cases x<;>first|exact h|rfl
theorem cO.softC{w0 w:World}{ι:List Pl}{ψ:eo}{S:List aH}(h:cO w0 ι ψ S w){a:Nat}{cs:List AV}{ty:Option TypeId}(ha:S[a]? = some (.cells cs ty)):cO w0 ι ψ (S.set a (.cells (cs.map softV) ty)) w:=by
 obtain⟨pl,hpl,hB⟩:=h.get ha
 have hset:ι.set a pl=ι:=gB hpl
 obtain⟨h0,⟨c,T,h1,h2,h3⟩,h4,h5⟩:=hB
 have key:=h.update (w':=w) (ψ':=ψ) (B':=.cells (cs.map softV) ty) (pl':=pl) ha hpl (Cx _ _) (fun _ _ _=>rfl) (by rw [hset];exact dW.refl _ _) (by
  rw [hset]
  refine⟨h0,⟨c,T,h1,by simpa using h2,fun m x ex=>?_⟩,h4,h5⟩
  rw [aJ] at ex
  cases e:cs[m]? with
  | none=>rw [e] at ex;cases ex
  | some y =>
   rw [e] at ex;cases ex
   obtain⟨q1,v,q2,q3⟩:=h3 m y e
   exact⟨yR q1,v,q2,q3.softV⟩) (fun k hk=>.inl hk) (fun b o v e=>.inl ⟨e,fun hk=>by
  simp only [aH.at,bl] at hk;subst hk;rw [h4 o] at e;cases e⟩) rfl
 rw [hset] at key
 exact key
theorem ao.softC{P:Program}{w0:World}{S:List aH}{f:FuncId}{args:List AV}{R:Rt}(a:Nat)(h:ao P w0 f args S (fun out S'=>∃ cs ty,S'[a]? = some (.cells cs ty)∧R out (S'.set a (.cells (cs.map softV) ty)))):ao P w0 f args S R:=by
 refine⟨h.1,fun ι ψ w cargs hR hl hv=>(h.2 ι ψ w cargs hR hl hv).mono ?_⟩
 rintro e w' ⟨ι',ψ',out,S',h1,h2,h3,cs,ty,e1,e2⟩
 exact⟨ι',ψ',out,_,h1,h2.softC e1,h3,e2⟩
theorem ny{X:List aH}{B C B' C':aH}(h:bH (X++[B,C]))(hB:B'.ltB (X.length+2)=true)(hC:C'.ltB (X.length+2)=true):bH (X++[B',C']):=by
 intro j D hD
 have hl:(X++[B',C']).length=(X++[B,C]).length:=χ
 rw [hl]
 by_cases hj:j<X.length
 ·rw [au hj] at hD
  exact h j D (by rw [au hj];exact hD)
 ·rw [aA ω] at hD
  have h2:(X++[B,C]).length=X.length+2:=χ
  rw [h2]
  match e:j - X.length,hD with
  | 0,hD=>simp at hD;subst hD;exact hB
  | 1,hD=>simp at hD;subst hD;exact hC
  | n+2,hD=>simp at hD
theorem CK{P:Program}{w0:World}{n0 N:Nat}{r:Option Nat}{Q:bU}{k:List TI}{env:du}{S S1:List aH}{it:KI}(t:Nat)(sh:List Nat){cs cs':List AV}{ty:Option TypeId}(hS1:sh.foldl dH S=S1)(ht:S1[t]? = some (.cells cs ty))(hc:cs.map (conv S1 (zu S1) 4)=cs')(hl:jv cs'=true)
  (h:aX P w0 n0 N r (.it it::k) Q .normal env (S1.set t (.cells cs' ty))):aX P w0 n0 N r (.it it::k) Q .normal env S:=by
 subst hS1 hc
 intro ι ψ w ac hR hE
 obtain⟨ψ1,hle,hR1⟩:=jr (w0:=w0) sh S ψ hR
 have hx:dW ι ψ ι ψ1:=⟨(dW.refl ι ψ).pl,hle⟩
 have hfr:=kS hR1
 obtain⟨pl,hpl,hB⟩:=hR1.get ht
 have hset:ι.set t pl=ι:=gB hpl
 obtain⟨h0,⟨c,T,h1,h2,h3⟩,h4,h5⟩:=hB
 have key:=hR1.update (w':=w) (ψ':=ψ1) (B':=.cells (cs.map (conv (sh.foldl dH S) (zu (sh.foldl dH S)) 4)) ty) (pl':=pl) ht hpl (Cx _ _) (fun _ _ _=>rfl) (by rw [hset];exact dW.refl _ _) (by
  rw [hset]
  refine⟨h0,⟨c,T,h1,by simpa using h2,fun m x ex=>?_⟩,h4,h5⟩
  have hlf:x.leaf=true:=aD.1 hl x (ax ex)
  rw [aJ] at ex
  cases e:cs[m]? with
  | none=>rw [e] at ex;cases ex
  | some y =>
   rw [e] at ex;cases ex
   obtain⟨q1,v,q2,q3⟩:=h3 m y e
   exact⟨hlf,v,q2,jk hR1 (eo.le_refl _) hfr 4 _ _ q3⟩) (fun k hk=>.inl hk) (fun b o v e=>.inl ⟨e,fun hk=>by
  simp only [aH.at,bl] at hk;subst hk;rw [h4 o] at e;cases e⟩) rfl
 rw [hset] at key
 exact KI.mono (h ι ψ1 w ac key (hE.mono hx)) fun e a2 w2 hp=>hp.chain (hx.take n0)
theorem IX{P:Program}{w0:World}{n0 N:Nat}{r:Option Nat}{Q:bU}{k:List TI}{env:du}{S:List aH}{it:KI}(S0:List aH){cs:List AV}{ty:Option TypeId}{t:Nat}(sl:List Nat)(hS:S=S0++[.cells cs ty])(hO:bH S0)(hn:n0=S0.length)(ht:env t=.own S0.length 0)
  (hds:(env DS).lt S0.length=true) (hsl:(sl.all fun u=>(eY env t (.pro cs) u).lt S0.length)=true) (h:aX P w0 n0 N r (.it it::k) Q .normal (iJ sl (eY env t (.pro cs))) S0):aX P w0 n0 N r (.it it::k) Q .normal env S:=by
 subst hS
 have hg:(S0++[aH.cells cs ty])[S0.length]? = some (.cells cs ty):=χ
 refine oT (a:=S0.length) (o:=0) ht hg ?_
 have e:(S0++[aH.cells cs ty]).set S0.length .dead=S0++[.dead]:=by rw [eI _ _ (ba _),la];rfl
 rw [e,cQ]
 have htd:DS≠t∨DS=t:=ω
 refine oQ hO 0 sl hn ?_ (by simpa using hsl) rfl (by simpa using h)
 rcases htd with htd|htd
 ·simpa [eY,htd] using hds
 ·rw [htd,ht] at hds
  simp [AV.lt] at hds
end Go.Fen
namespace Go.Fen
open Go.RowKit
section
variable {P:Program}{w0:World}{n0 N:Nat}{r:Option Nat}{Q:bU}{k:List TI}{ops:Array Oper}
def pO(ops:Array Oper)(listed:Array Bool):Prop:=∀ j o,ops[j]? = some o→listed.getD j true=true→∀ e∈o.after,fe .any e=true→listed.getD e.on false=true
def zL(ops:Array Oper)(n:Nat):Bool:=(bh n).all fun i=>(bh (n+1)).any fun j=>decide (i<j)&&!lk ops j i
def N_(ops:Array Oper)(pl:List (Nat × AV))(dE:du)(i:Nat)(env:du):Prop :=
 (∀ j,lk ops i j=false→∀ d v,pl[j]? = some (d,v)→env d=v)∧∀ t,(pl.all fun p=>!(p.1==t))=true→env t=dE t
def Ji(P:Program)(w0:World)(N:Nat)(Q:bU)(ops:Array Oper)(pl:List (Nat × AV))(S0:List aH)(dE:du)(i:Nat):Prop :=
 match pl[i]? with
 | some (d,v)=>∀ env,N_ ops pl dE i env→i7 P w0 N ops Q i (fun env' S'=>env'=eY env d v∧S'=S0) env S0
 | none=>True
theorem gw{i j:Nat}{o:Oper}(ho:ops[i]? = some o)(h:lk ops i j=false):∃ e∈o.after,fe .any e=true∧e.on=j:=by
 unfold lk at h
 simp only [ho,aE] at h
 rw [pW] at h
 obtain⟨e,he,hb⟩:=h
 simp only [aq,beq_iff_eq] at hb
 exact⟨e,he,hb.1,hb.2⟩
theorem j6{l:Array Bool}{j:Nat}(h:l.getD j false=true):l.getD j true=true:=by
 simp only [aC] at h ⊢
 cases hx:l[j]? with
 | none=>rfl
 | some b=>rw [hx] at h;simpa using h
theorem lV(pl:List (Nat × AV)){n:Nat}{dE:du}{S0:List aH}(hn:ops.size=n+1)(hpl:pl.length=n)(hnd:decide ((pl.map cP).Nodup)=true)(hdep:s_ ops=true)(hcov:zL ops n=true)
  (hstep:pJ (Ji P w0 N Q ops pl S0 dE) 0 n)
  (hz:∀ env:du,(∀ (i d:Nat) (v:AV),pl[i]? = some (d,v)→env d=v)→(∀ t,(pl.all fun p=>!(p.1==t))=true→env t=dE t)→i7 P w0 N ops Q n (fun env' S'=>aX P w0 n0 N r k Q .normal env' S') env S0) :
  dS P w0 n0 N r ops k Q (n+1) (bT (n+1) false) [] dE S0:=by
 have hnd:(pl.map cP).Nodup:=by simpa using hnd
 refine AW (fun listed env S=>(listed.getD n true=false∧(∀ (i d:Nat) (v:AV),pl[i]? = some (d,v)→listed.getD i true=true→env d=v)∧(∀ t,(pl.all fun p=>!(p.1==t))=true→env t=dE t)∧S=S0∧pO ops listed)∨((∀ i,i≤n→listed.getD i true=true)∧aX P w0 n0 N r k Q .normal env S)) ?step ?fin (n+1) _ _ _ ?init ?left
 case left =>
  unfold sF
  rw [← hn]
  exact fc (oH) χ
 case init =>
  have hrep:∀ i,i<n+1→(bT (n+1) false).getD i true=false:=fun i hi=>by simp [lF,hi]
  refine .inl ⟨hrep n ω,fun i d v hi hl=>?_,fun _ _=>rfl,rfl,fun j o ho hl=>?_⟩
  ·have h1:=(af.1 hi).1
   rw [hrep i ω] at hl;cases hl
  ·have h1:=(bF.1 ho).1
   rw [hrep j ω] at hl;cases hl
 case fin =>
  intro listed env S hI hr
  have hal:=lX hdep hr
  rcases hI with⟨h1,_⟩|⟨_,h⟩
  ·rw [hal n ω] at h1;cases h1
  ·exact h
 case step =>
  intro listed env S i o hI ho hu hd
  have hi:i<n+1:=by have:=(bF.1 ho).1;omega
  rcases hI with⟨h1,h2,h3,rfl,h5⟩|⟨h,_⟩
  rotate_left
  ·rw [h i ω] at hu;cases hu
  by_cases hin:i=n
  ·subst hin
   have hall:∀ m j,j+m=i→listed.getD j true=true∨j=i:=by
    intro m
    induction m using Nat.strongRecOn with
    | _ m ih =>
     intro j hj
     by_cases hji:j=i
     ·exact .inr hji
     ·left
      have hc:=aD.1 hcov j (dT.2 ω)
      obtain⟨q,hq,hq2⟩:=List.any_eq_true.1 hc
      simp only [aq,decide_eq_true_eq,ay] at hq2
      have hqi:q≤i:=by have:=dT.1 hq;omega
      rcases ih (i - q) ω q ω with hl|rfl
      ·obtain⟨oq,hoq⟩:∃ oq,ops[q]? = some oq:=⟨ops[q]'ω,bm ω⟩
       obtain⟨e,he,hb,heq⟩:=gw hoq hq2.2
       have:=h5 q oq hoq hl e he hb
       rw [heq] at this
       exact j6 this
      ·obtain⟨e,he,hb,heq⟩:=gw ho hq2.2
       have:=hd e he hb
       rw [heq] at this
       exact j6 this
   have hl:∀ j,j<i→listed.getD j true=true:=fun j hj=>(hall (i - j) j ω).resolve_right ω
   refine(hz env (fun j d v hj=>h2 j d v hj (hl j (by have:=(af.1 hj).1;omega))) h3).mono fun env' S' hk=>.inr ⟨fun j hj=>?_,hk⟩
   by_cases hji:j=i
   ·subst hji
    simp only [aC,bJ]
    by_cases hs:j<listed.size<;>simp [hs]
   ·rw [getD_set_ne true (Ne.symm hji)]
    exact hl j ω
  ·have hs:=kW hstep (bf i) ω
   unfold Ji at hs
   obtain⟨⟨d,v⟩,hf⟩:∃ f,pl[i]? = some f:=⟨pl[i]'ω,ap ω⟩
   rw [hf] at hs
   simp only at hs
   refine(hs env ⟨fun j hj d' v' hd'=>?_,h3⟩).mono ?_
   ·obtain⟨e,he,hb,heq⟩:=gw ho hj
    have:=hd e he hb
    rw [heq] at this
    exact h2 j d' v' hd' (j6 this)
   ·rintro env' S' ⟨rfl,rfl⟩
    refine .inl ⟨by rw [getD_set_ne true hin];exact h1,fun j d' v' hj hl=>?_,fun t ht=>?_,rfl,fun j oj hoj hl e he hb=>?_⟩
    ·by_cases hji:j=i
     ·subst hji
      rw [hf] at hj;cases hj
      simp [eY]
     ·have hde:d'≠d:=fun hh=>by
       subst hh
       have e1:(pl.map cP)[j]? = some d':=by rw [aJ,hj];rfl
       have e2:(pl.map cP)[i]? = some d':=by rw [aJ,hf];rfl
       have hjl:j<(pl.map cP).length:=(af.1 e1).1
       exact hji ((List.getElem?_inj hjl hnd).1 (e1.trans e2.symm))
      rw [show eY env d v d'=env d' by simp [eY,hde]]
      rw [getD_set_ne true (Ne.symm hji)] at hl
      exact h2 j d' v' hj hl
    ·have hne:t≠d:=by
      rintro rfl
      have:=aD.1 ht _ (ax hf)
      simp at this
     rw [show eY env d v t=env t by simp [eY,hne]]
     exact h3 t ht
    ·have hset:∀ m,listed.getD m false=true→(listed.setIfInBounds i true).getD m false=true:=by
      intro m hm
      simp only [aC,bJ] at hm ⊢
      split
      ·split<;>simp_all
      ·exact hm
     by_cases hji:j=i
     ·subst hji
      rw [ho] at hoj;cases hoj
      exact hset _ (hd e he hb)
     ·rw [getD_set_ne true (Ne.symm hji)] at hl
      exact hset _ (h5 j oj hoj hl e he hb)
end
end Go.Fen
