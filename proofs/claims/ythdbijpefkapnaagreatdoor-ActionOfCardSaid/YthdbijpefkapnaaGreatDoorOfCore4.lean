/- YthdbijpefkapnaaGreatDoorOfCore4: a part of the proof. -/
import Derived.Test.YthdbijpefkapnaaGreatDoorOfCore3
import Derived.ProofKit
import Derived.Lib.LaidTab
import Derived.Carry
import Derived.Deep.DeepHandedRow
set_option linter.all false
set_option linter.unusedVariables false
set_option linter.unusedSimpArgs false
open Array renaming ext_getElem? → ma, getD → lF, getD_eq_getD_getElem? → aC, getElem?_eq_getElem → bm, getElem?_eq_some_iff → bF, getElem?_modify → dq, getElem?_setIfInBounds → bJ, getElem?_setIfInBounds_ne → ka, getElem?_toList → bu, replicate → bT, toArray_toList → cB, toList_push → FA
open Bool renaming and_eq_true → aq, false_or → wG, not_eq_true' → ay, not_true → cq, or_eq_true → ef
open Classical renaming byContradiction → j_
open Go.Instr renaming checkKey → lB, entryStore → ru, keyThatStays → IR, mapEntry → ua, mapUpdate → nM
open Go.Lib renaming mapM_at → qL, mapM_length → oK
open Go.MapKept renaming run_getObj_map → cz
open Go.Op renaming operands → bB
open Go.Region renaming binds → fe, wanted → jK
open Go.RowKit.Below renaming refl → Cx
open Go.Value renaming cells → Cp, okWide → rt
open Go.World renaming cell? → qG, putObj → nR, putObj_heap_same → ez
open List renaming all_eq_true → aD, append_nil → aG, countP_le_length → oH, drop_of_length_le → jX, findIdx?_toArray → z7, flatMap_cons → kF, foldl_cons → g9, getElem?_append_left → au, getElem?_append_right → aA, getElem?_drop → cZ, getElem?_eq_getElem → ap, getElem?_eq_some_iff → af, getElem?_map → aJ, getElem?_of_mem → aV, getElem?_range → Cw, getElem?_set_ne → be, getElem?_set_self → gV, getElem?_take → bc, length → jI, length_cons → aB, length_eq_zero_iff → kE, length_nil → aI, map_append → aM, map_cons → al, map_map → Fl, mem_append_left → lA, mem_append_right → dF, mem_cons → bD, mem_cons_of_mem → iv, mem_cons_self → dG, mem_filter → Cv, mem_filterMap → tK, mem_map → aN, mem_map_of_mem → dc, mem_of_getElem? → ax, mem_of_mem_take → rh, mem_range → dT, nodup_append → ig, nodup_cons → pT, range → bh, range' → yC, size_toArray → iM
open List.cons renaming injEq → mz
open Nat renaming add_mul → eH, add_zero → l8, le_refl → ba, le_trans → fc, lt_or_ge → jT, one_mul → IL, zero_add → bG, zero_le → bf
open Option renaming bind_eq_bind → zY, bind_eq_some_iff → gk, map_eq_some_iff → aL, pure_def → Fk
open Option.some renaming inj → bg, injEq → bl
open Prod renaming fst → cP
namespace Go.Fen
open Go.RowKit
section
variable {P:Program}{w0:World}{n0 N:Nat}{r:Option Nat}{Q:bU}{k:List TI}{ops:Array Oper}{S0:List aH}
def nZ(P:Program)(w0:World)(S0:List aH)(ops:Array Oper)(env:du)(o:Oper)(v:AV):Prop :=
 (ce ops env o=some false∧v=.tup [])∨(ce ops env o=some true∧ew P S0 (bo w0 env) o.op=some (v,S0)) ∨
 (ce ops env o=some true∧∃ (fop:Operand) (args:Array Operand) (tys:Array TypeId) (f:FuncId) (first cap A:List AV),o.op=.call ⟨.value fop,args,tys⟩∧bo w0 env fop=.fn (.func f) first cap ∧
  Fo S0 (first++args.toList.map (bo w0 env)++cap)=A∧∀ R:Rt,R (.ret v) S0→ao P w0 f A S0 R)
theorem BR{o:Oper}{t:Nat}(h:.tmp t∈o.op.operands):t∈o.looksAt ops:=by
 unfold Oper.looksAt
 exact lA _ (tK.2 ⟨.tmp t,by simpa using h,rfl⟩)
theorem v6{o:Oper}{env env':du}(h:∀ t∈o.looksAt ops,env' t=env t):ce ops env' o=ce ops env o:=by
 unfold ce
 cases hg:o.guard with
 | none=>rfl
 | some p =>
  obtain⟨g,want⟩:=p
  cases ho:ops[g]? with
  | none=>simp [ho]
  | some og =>
   cases hd:og.dst with
   | none=>simp [ho,hd]
   | some s =>
    have:env' s=env s:=h s (by
     unfold Oper.looksAt
     refine dF _ ?_
     simp [hg,ho,hd])
    simp [ho,hd,this]
theorem nZ.agree{o:Oper}{env env':du}{v:AV}(h:∀ t∈o.looksAt ops,env' t=env t)(hg:nZ P w0 S0 ops env o v):nZ P w0 S0 ops env' o v:=by
 have hop:∀ x∈o.op.operands,bo w0 env' x=bo w0 env x:=fun x hx=>by
  cases x with
  | tmp t=>exact h t (BR hx)
  | _=>rfl
 have hgd:=v6 h
 rcases hg with⟨a,b⟩|⟨a,b⟩|⟨a,fop,args,tys,f,first,cap,A,b,c,d,e⟩
 ·exact .inl ⟨hgd.trans a,b⟩
 ·exact .inr (.inl ⟨hgd.trans a,by rw [kM hop];exact b⟩)
 ·have hargs:args.toList.map (bo w0 env')=args.toList.map (bo w0 env):=jg fun y hy=>hop y (by rw [b];simp [bB,Call.operands];exact .inr (by simpa using hy))
  have hfop:bo w0 env' fop=bo w0 env fop:=hop fop (by rw [b];simp [bB,Call.operands])
  exact .inr (.inr ⟨hgd.trans a,fop,args,tys,f,first,cap,A,b,hfop.trans c,by rw [hargs];exact d,e⟩)
theorem nZ.op{i d:Nat}{o:Oper}{env:du}{v:AV}{K:du→List aH→Prop}(ho:ops[i]? = some o)(hd:o.dst=some d)(hN:d<N)(hg:nZ P w0 S0 ops env o v)(hk:K (eY env d v) S0):i7 P w0 N ops Q i K env S0:=by
 refine⟨o,ho,by rw [hd];simpa [eV] using hN, ?_⟩
 rw [hd]
 rcases hg with⟨a,rfl⟩|⟨a,b⟩|⟨a,fop,args,tys,f,first,cap,A,b,c,e,g⟩
 ·exact .inl ⟨a,hk⟩
 ·exact .inr (.inl ⟨a,v,S0,b,hk⟩)
 ·refine .inr (.inr ⟨a,fop,args,tys,f,first,cap,[],b,c, ?_⟩)
  have e':(first++args.toList.map (bo w0 env)++cap).map (conv S0 (zu S0) 4)=A:=e
  simp only [List.foldl_nil]
  rw [e']
  exact g _ hk
def pL(P:Program)(w0:World)(N:Nat)(ops:Array Oper)(S0:List aH)(K:du→Prop):Nat→Nat→du→Prop
 | 0,_,env=>K env
 | m+1,i,env=>∃ o d v,ops[i]? = some o∧o.dst=some d∧d<N∧nZ P w0 S0 ops env o v∧pL P w0 N ops S0 K m (i+1) (eY env d v)
def lu(pl:List (Nat × AV))(env:du):du:=pl.foldl (fun e p=>eY e p.1 p.2) env
theorem xh{K:du→Prop}:∀ (m i:Nat) (env:du),pL P w0 N ops S0 K m i env →
  ∃ pl:List (Nat × AV),pl.length=m∧(∀ j d v,pl[j]? = some (d,v)→∃ o,ops[i+j]? = some o∧o.dst=some d∧d<N∧nZ P w0 S0 ops (lu (pl.take j) env) o v)∧K (lu pl env)
 | 0,i,env,h=>⟨[],rfl,χ,h⟩
 | m+1,i,env,⟨o,d,v,h1,h2,h3,h4,h5⟩=>by
  obtain⟨pl,q1,q2,q3⟩:=xh m (i+1) _ h5
  refine⟨(d,v)::pl,by simp [q1],fun j d' v' hj=>?_,q3⟩
  cases j with
  | zero=>simp at hj;obtain⟨rfl,rfl⟩:=hj;exact⟨o,h1,h2,h3,h4⟩
  | succ j =>
   obtain⟨o',g1,g2,g3,g4⟩:=q2 j d' v' (by simpa using hj)
   exact⟨o',by rw [← g1];congr 1;omega,g2,g3,g4⟩
theorem ls:∀ {pl:List (Nat × AV)}{env:du}{t:Nat},(∀ p∈pl,p.1≠t)→lu pl env t=env t
 | [],_,_,_=>rfl
 | p::pl,env,t,h=>by
  unfold lu
  rw [g9]
  have:=ls (pl:=pl) (env:=eY env p.1 p.2) (t:=t) fun q hq=>h q (iv _ hq)
  unfold lu at this
  rw [this]
  have hne:=h p (dG ..)
  simp [eY,Ne.symm hne]
theorem pB:∀ {pl:List (Nat × AV)}{env:du}{j d:Nat}{v:AV},(pl.map cP).Nodup→pl[j]? = some (d,v)→lu pl env d=v
 | [],_,_,_,_,_,h=>by simp at h
 | p::pl,env,j,d,v,hn,h=>by
  rw [al,pT] at hn
  unfold lu
  rw [g9]
  cases j with
  | zero =>
   simp at h;subst h
   have:=ls (pl:=pl) (env:=eY env d v) (t:=d) fun q hq e=>hn.1 (aN.2 ⟨q,hq,e⟩)
   unfold lu at this
   rw [this];simp [eY]
  | succ j =>
   have:=pB (pl:=pl) (env:=eY env p.1 p.2) hn.2 (by simpa using h)
   unfold lu at this
   exact this
def I4(ops:Array Oper)(n:Nat):Bool :=
 ((bh n).all fun i=>match ops[i]? with
  | some o=>o.dst.isSome&&(o.looksAt ops).all fun t=>(bh n).all fun j=>match ops[j]? with
   | some oj=>!(oj.dst==some t)||(decide (j<i)&&!lk ops i j)
   | none=>true
  | none=>false)&&decide (((bh n).filterMap fun i=>(ops[i]?).bind fun o:Oper=>o.dst).Nodup)
def pK(P:Program)(w0:World)(n0 N:Nat)(r:Option Nat)(ops:Array Oper)(k:List TI)(Q:bU):Nat→Nat→du→List aH→Prop
 | 0,_,env,S=>aX P w0 n0 N r k Q .normal env S
 | s+1,i,env,S=>i7 P w0 N ops Q i (fun env' S'=>pK P w0 n0 N r ops k Q s (i+1) env' S') env S
def JM(ops:Array Oper)(n s:Nat):Bool:=(bh s).all fun j=>zL ops (n+j)
theorem r_{listed:Array Bool}{i j:Nat}(h:j=i∨listed.getD j true=true):(listed.setIfInBounds i true).getD j true=true:=by
 rcases h with rfl|h
 ·simp only [aC,bJ]
  by_cases hs:j<listed.size<;>simp [hs]
 ·by_cases hji:j=i
  ·subst hji
   simp only [aC,bJ]
   by_cases hs:j<listed.size<;>simp [hs]
  ·rw [getD_set_ne true (Ne.symm hji)];exact h
theorem pO.set{listed:Array Bool}{i:Nat}{o:Oper}(h:pO ops listed)(ho:ops[i]? = some o)(hd:∀ e∈o.after,fe .any e=true→listed.getD e.on false=true):pO ops (listed.setIfInBounds i true):=by
 have hset:∀ m,listed.getD m false=true→(listed.setIfInBounds i true).getD m false=true:=by
  intro m hm
  simp only [aC,bJ] at hm ⊢
  split
  ·split<;>simp_all
  ·exact hm
 intro j oj hoj hl e he hb
 by_cases hji:j=i
 ·subst hji
  rw [ho] at hoj;cases hoj
  exact hset _ (hd e he hb)
 ·rw [getD_set_ne true (Ne.symm hji)] at hl
  exact hset _ (h j oj hoj hl e he hb)
theorem uO{listed:Array Bool}{z:Nat}{o:Oper}(hcov:zL ops z=true)(hz:ops[z]? = some o)(hd:∀ e∈o.after,fe .any e=true→listed.getD e.on false=true)(hdc:pO ops listed):∀ j,j<z→listed.getD j true=true:=by
 have hzl:z<ops.size:=(bF.1 hz).1
 have hall:∀ m j,j+m=z→listed.getD j true=true∨j=z:=by
  intro m
  induction m using Nat.strongRecOn with
  | _ m ih =>
   intro j hj
   by_cases hji:j=z
   ·exact .inr hji
   ·left
    have hc:=aD.1 hcov j (dT.2 ω)
    obtain⟨q,hq,hq2⟩:=List.any_eq_true.1 hc
    simp only [aq,decide_eq_true_eq,ay] at hq2
    have hqi:q≤z:=by have:=dT.1 hq;omega
    rcases ih (z - q) ω q ω with hl|rfl
    ·obtain⟨oq,hoq⟩:∃ oq,ops[q]? = some oq:=⟨ops[q]'ω,bm ω⟩
     obtain⟨e,he,hb,heq⟩:=gw hoq hq2.2
     have:=hdc q oq hoq hl e he hb
     rw [heq] at this
     exact j6 this
    ·obtain⟨e,he,hb,heq⟩:=gw hz hq2.2
     have:=hd e he hb
     rw [heq] at this
     exact j6 this
 exact fun j hj=>(hall (z - j) j ω).resolve_right ω
theorem x_(n s:Nat){dE:du}(hn:ops.size=n+s)(hok:I4 ops n=true)(hdep:s_ ops=true)(htl:JM ops n s=true)
  (h:pL P w0 N ops S0 (fun env=>pK P w0 n0 N r ops k Q s n env S0) n 0 dE):dS P w0 n0 N r ops k Q (n+s) (bT (n+s) false) [] dE S0:=by
 obtain⟨pl,hpl,hgv,hK⟩:=xh n 0 dE h
 simp only [bG] at hgv
 simp only [I4,aq,aD,dT,decide_eq_true_eq] at hok
 obtain⟨hlk,hnd0⟩:=hok
 have hdst:∀ j d v,pl[j]? = some (d,v)→(ops[j]?).bind (fun o:Oper=>o.dst)=some d:=fun j d v hj=>by
  obtain⟨o,h1,h2,_⟩:=hgv j d v hj
  rw [h1];exact h2
 have hmap:pl.map cP=(bh n).filterMap fun i=>(ops[i]?).bind fun o:Oper=>o.dst:=by
  have key:∀ (m:Nat) (q:List (Nat × AV)) (i:Nat),q.length=m→(∀ j d v,q[j]? = some (d,v)→(ops[i+j]?).bind (fun o:Oper=>o.dst)=some d)→q.map cP=(yC i m).filterMap fun i=>(ops[i]?).bind fun o:Oper=>o.dst:=by
   intro m
   induction m with
   | zero=>intro q i hq _;rw [kE.1 hq];rfl
   | succ m ih =>
    intro q i hq hh
    match q,hq with
    | (d,v)::q,hq =>
     rw [List.range'_succ,List.filterMap_cons_some (by simpa using hh 0 d v rfl),al]
     congr 1
     refine ih q (i+1) (by simpa using hq) fun j d' v' hj=>?_
     have:=hh (j+1) d' v' (by simpa using hj)
     rw [← this];congr 2;omega
  rw [List.range_eq_range']
  exact key n pl 0 hpl (fun j d v hj=>by rw [bG];exact hdst j d v hj)
 have hnd:(pl.map cP).Nodup:=by rw [hmap];exact hnd0
 have hmid:∀ (i j d:Nat) (v:AV),j<i→pl[j]? = some (d,v)→lu (pl.take i) dE d=v:=fun i j d v hji hj =>
  pB (j:=j) (by rw [List.map_take];exact hnd.sublist (List.take_sublist _ _)) (by rw [bc,if_pos hji];exact hj)
 have hget:∀ i,i<n→∃ d v,pl[i]? = some (d,v):=fun i hi=>⟨(pl[i]'ω).1,(pl[i]'ω).2,ap ω⟩
 refine AW (fun listed env S=>((∀ i,n≤i→i<n+s→listed.getD i true=false)∧(∀ (i d:Nat) (v:AV),pl[i]? = some (d,v)→listed.getD i true=true→env d=v)∧(∀ t,(∀ p∈pl,p.1≠t)→env t=dE t)∧S=S0∧pO ops listed) ∨
  (∃ j,j<s∧(∀ i,i≤n+j→listed.getD i true=true)∧(∀ i,n+j<i→i<n+s→listed.getD i true=false)∧pO ops listed∧pK P w0 n0 N r ops k Q (s - (j+1)) (n+j+1) env S)) ?step ?fin (n+s) _ _ _ ?init ?left
 case left =>
  unfold sF
  rw [← hn]
  exact fc (oH) χ
 case init =>
  have hrep:∀ i,i<n+s→(bT (n+s) false).getD i true=false:=fun i hi=>by simp [lF,hi]
  refine .inl ⟨fun i _ hi=>hrep i hi,fun i d v hi hl=>?_,fun _ _=>rfl,rfl,fun j o ho hl=>?_⟩
  ·have h1:=(af.1 hi).1
   rw [hrep i ω] at hl;cases hl
  ·have h1:=(bF.1 ho).1
   rw [hrep j ω] at hl;cases hl
 case fin =>
  intro listed env S hI hr
  have hal:=lX hdep hr
  rcases hI with⟨h1,h2,h3,rfl,_⟩|⟨j,hj,h1,h2,_,ht⟩
  ·have hs0:s=0:=by
    rcases Nat.eq_zero_or_pos s with h|h
    ·exact h
    ·have:=h1 n (ba _) ω
     rw [hal n ω] at this;cases this
   subst hs0
   have he:env=lu pl dE:=by
    funext t
    by_cases ht:∀ p∈pl,p.1≠t
    ·rw [h3 t ht,ls ht]
    ·have ht:∃ p∈pl,p.1=t:=by
      apply j_
      intro hne
      exact ht fun p hp e=>hne ⟨p,hp,e⟩
     obtain⟨p,hp,rfl⟩:=ht
     obtain⟨i,hi⟩:=aV hp
     have hil:=(af.1 hi).1
     rw [h2 i p.1 p.2 hi (hal i ω),pB hnd hi]
   rw [he];exact hK
  ·have hjs:j+1=s:=by
    rcases jT (j+1) s with h|h
    ·have:=h2 (n+j+1) ω ω
     rw [hal (n+j+1) ω] at this;cases this
    ·omega
   rw [show s - (j+1)=0 by omega] at ht
   exact ht
 case step =>
  intro listed env S i o hI ho hu hd
  have hi:i<n+s:=by have:=(bF.1 ho).1;omega
  rcases hI with⟨h1,h2,h3,rfl,h5⟩|⟨j,hj,h1,h2,h5,ht⟩
  ·by_cases hin:i<n
   ·obtain⟨d,v,hf⟩:=hget i hin
    obtain⟨o',g1,g2,g3,g4⟩:=hgv i d v hf
    rw [ho] at g1;cases g1
    have hag:∀ t∈o.looksAt ops,env t=lu (pl.take i) dE t:=by
     intro t ht
     by_cases hto:∀ p∈pl,p.1≠t
     ·rw [h3 t hto,ls fun p hp=>hto p (rh hp)]
     ·have hto:∃ p∈pl,p.1=t:=by
       apply j_
       intro hne
       exact hto fun p hp e=>hne ⟨p,hp,e⟩
      obtain⟨p,hp,rfl⟩:=hto
      obtain⟨j,hj⟩:=aV hp
      have hjl:=(af.1 hj).1
      obtain⟨oj,w1,w2,_,_⟩:=hgv j p.1 p.2 hj
      have hc:=hlk i hin
      rw [ho] at hc
      simp only [aq,aD,dT] at hc
      have hc2:=hc.2 p.1 ht j ω
      rw [w1] at hc2
      simp only [w2,beq_self_eq_true,cq,wG,aq,decide_eq_true_eq,ay] at hc2
      obtain⟨e,he,hb,heq⟩:=gw ho hc2.2
      have:=hd e he hb
      rw [heq] at this
      rw [h2 j p.1 p.2 hj (j6 this),hmid i j p.1 p.2 hc2.1 hj]
    refine nZ.op ho g2 g3 (g4.agree hag) (.inl ⟨fun m hm hm2=>?_,fun m d' v' hm hl=>?_,fun t ht=>?_,rfl,h5.set ho hd⟩)
    ·rw [getD_set_ne true ω];exact h1 m hm hm2
    ·by_cases hmi:m=i
     ·subst hmi
      rw [hf] at hm;cases hm
      simp [eY]
     ·have hde:d'≠d:=fun hh=>by
       subst hh
       have e1:(pl.map cP)[m]? = some d':=by rw [aJ,hm];rfl
       have e2:(pl.map cP)[i]? = some d':=by rw [aJ,hf];rfl
       have hml:m<(pl.map cP).length:=(af.1 e1).1
       exact hmi ((List.getElem?_inj hml hnd).1 (e1.trans e2.symm))
      rw [show eY env d v d'=env d' by simp [eY,hde]]
      rw [getD_set_ne true (Ne.symm hmi)] at hl
      exact h2 m d' v' hm hl
    ·have hne:t≠d:=fun e=>ht (d,v) (ax hf) e.symm
     rw [show eY env d v t=env t by simp [eY,hne]]
     exact h3 t ht
   ·have hcov:=aD.1 htl (i - n) (dT.2 ω)
    rw [show n+(i - n)=i by omega] at hcov
    have hl:=uO hcov ho hd h5
    have hien:i=n:=by
     rcases jT n i with h|h
     ·have:=h1 n (ba _) ω
      rw [hl n h] at this;cases this
     ·omega
    subst hien
    have he:env=lu pl dE:=by
     funext t
     by_cases ht:∀ p∈pl,p.1≠t
     ·rw [h3 t ht,ls ht]
     ·have ht:∃ p∈pl,p.1=t:=by
       apply j_
       intro hne
       exact ht fun p hp e=>hne ⟨p,hp,e⟩
      obtain⟨p,hp,rfl⟩:=ht
      obtain⟨j,hj⟩:=aV hp
      have hjl:=(af.1 hj).1
      rw [h2 j p.1 p.2 hj (hl j ω),pB hnd hj]
    subst he
    obtain⟨s',rfl⟩:∃ s',s=s'+1:=⟨s - 1,ω⟩
    unfold pK at hK
    refine hK.mono fun env' S' ht=>.inr ⟨0,ω,fun m hm=>r_ ?_,fun m hm hm2=>?_,h5.set ho hd,ht⟩
    ·by_cases e:m=i
     ·exact .inl e
     ·exact .inr (hl m ω)
    ·rw [getD_set_ne true ω]
     exact h1 m ω hm2
  ·have hcov:=aD.1 htl (i - n) (dT.2 (by
    rcases jT i n with h|h
    ·rw [h1 i ω] at hu;cases hu
    ·omega))
   have hin:n+j<i:=by
    rcases jT (n+j) i with h|h
    ·exact h
    ·rw [h1 i h] at hu;cases hu
   rw [show n+(i - n)=i by omega] at hcov
   have hl:=uO hcov ho hd h5
   have hij:i=n+j+1:=by
    rcases jT (n+j+1) i with h|h
    ·have:=h2 (n+j+1) ω ω
     rw [hl (n+j+1) h] at this;cases this
    ·omega
   subst hij
   obtain⟨s',hs'⟩:∃ s',s - (j+1)=s'+1:=⟨s - (j+1) - 1,ω⟩
   rw [hs'] at ht
   unfold pK at ht
   refine ht.mono fun env' S' ht=>.inr ⟨j+1,ω,fun m hm=>r_ ?_,fun m hm hm2=>?_,h5.set ho hd, ?_⟩
   ·by_cases e:m=n+j+1
    ·exact .inl e
    ·exact .inr (h1 m ω)
   ·rw [getD_set_ne true ω]
    exact h2 m ω hm2
   ·rw [show s - (j+1+1)=s' by omega]
    exact ht
variable {K:du→Prop}{m i d:Nat}{o:Oper}{env:du}{v:AV}
theorem Md(ho:ops[i]? = some o)(hg:ce ops env o=some false)(hd:o.dst=some d)(hN:decide (d<N)=true)(h:pL P w0 N ops S0 K m (i+1) (eY env d (.tup []))):pL P w0 N ops S0 K (m+1) i env :=
 ⟨o,d,_,ho,hd,by simpa using hN,.inl ⟨hg,rfl⟩,h⟩
theorem Kj(ho:ops[i]? = some o)(hg:ce ops env o=some true)(hs:ew P S0 (bo w0 env) o.op=some (v,S0))(hd:o.dst=some d)(hN:decide (d<N)=true)(h:pL P w0 N ops S0 K m (i+1) (eY env d v)):pL P w0 N ops S0 K (m+1) i env :=
 ⟨o,d,v,ho,hd,by simpa using hN,.inr (.inl ⟨hg,hs⟩),h⟩
theorem sj{fop:Operand}{args:Array Operand}{tys:Array TypeId}{f:FuncId}{first cap A:List AV}(ho:ops[i]? = some o)(hg:ce ops env o=some true)(hop:o.op=.call ⟨.value fop,args,tys⟩)(hf:bo w0 env fop=.fn (.func f) first cap)(hd:o.dst=some d)(hN:decide (d<N)=true)
  (hA:Fo S0 (first++args.toList.map (bo w0 env)++cap)=A) (hc:∀ R:Rt,R (.ret v) S0→ao P w0 f A S0 R) (h:pL P w0 N ops S0 K m (i+1) (eY env d v)):pL P w0 N ops S0 K (m+1) i env :=
 ⟨o,d,v,ho,hd,by simpa using hN,.inr (.inr ⟨hg,fop,args,tys,f,first,cap,A,hop,hf,hA,hc⟩),h⟩
theorem Me(h:K env):pL P w0 N ops S0 K 0 i env:=h
theorem Nu{s:Nat}{S:List aH}(h:i7 P w0 N ops Q i (fun env' S'=>pK P w0 n0 N r ops k Q s (i+1) env' S') env S):pK P w0 n0 N r ops k Q (s+1) i env S:=h
theorem LP{S:List aH}(h:aX P w0 n0 N r k Q .normal env S):pK P w0 n0 N r ops k Q 0 i env S:=h
theorem GH{b:Bool}(hg:ce ops env o=some b)(ho:ops[i]? = some o)(ht:b=true→pL P w0 N ops S0 K (m+1) i env)(hf:b=false→pL P w0 N ops S0 K (m+1) i env):pL P w0 N ops S0 K (m+1) i env:=by
 cases b
 ·exact hf rfl
 ·exact ht rfl
end
attribute [irreducible] pL pK
theorem sq {G K:Prop} (h:K) (run:Hid K→G:=by
 intro kk
 first
 | apply Me;exact kk.out
 | apply LP;exact kk.out
 | apply Nu;exact kk.out
 | apply Kj;(· simp only [go_sem, *];try rfl);(· simp only [go_sem, *];try rfl);(· simp only [go_sem, *];try rfl);(· rfl);(· rfl);exact kk.out
 | apply Md;(· simp only [go_sem, *];try rfl);(· simp only [go_sem, *];try rfl);(· rfl);(· rfl);exact kk.out
 | fail):G:=run h
theorem bq {G K L:Prop} (h:K) (h':L) (run:Hid K→Hid L→G:=by
 intro kk ll
 first
 | apply GH;(· simp only [go_sem, *];try rfl);(· simp only [go_sem, *];try rfl);(· exact kk.out);exact ll.out
 | fail):G:=run h h'
end Go.Fen
namespace Go.Fen
open Go.RowKit
section
variable {P:Program}{w0:World}{n0 N:Nat}{r:Option Nat}{Q:bU}{k:List TI}{ops:Array Oper}{S0:List aH}
def wA(P:Program)(w0:World)(ops:Array Oper)(S1:List aH)(env:du):List Nat→Prop
 | []=>True
 | i::l=>(∃ o d,ops[i]? = some o∧o.dst=some d∧nZ P w0 S1 ops env o (env d))∧wA P w0 ops S1 env l
theorem wA.get{S1:List aH}{env:du}:∀ {l:List Nat}{i:Nat},wA P w0 ops S1 env l→i∈l→∃ o d,ops[i]? = some o∧o.dst=some d∧nZ P w0 S1 ops env o (env d)
 | _::_,_,h,hm=>by
  rcases bD.1 hm with rfl|hm
  ·exact h.1
  ·exact wA.get h.2 hm
variable {n s:Nat}{env:du}
end
end Go.Fen
namespace Go.Fen
open Go.RowKit
section
variable {P:Program}{w0:World}{n0 N:Nat}{r:Option Nat}{Q:bU}{k:List TI}{ops:Array Oper}
def zh(pl:List (Option (Nat × AV)))(t:Nat):Bool:=pl.all fun p=>match p with
 | some p=>!(p.1==t)
 | none=>true
def mW(pl:List (Option (Nat × AV)))(i:Nat):Bool:=match pl[i]? with
 | some none=>true
 | _=>false
def hJ(pl:List (Option (Nat × AV)))(i:Nat):Nat:=(bh i).countP (mW pl)
def LG(ops:Array Oper)(pl:List (Option (Nat × AV)))(dE:du)(i:Nat)(env:du):Prop :=
 (∀ j,lk ops i j=false→∀ d v,pl[j]? = some (some (d,v))→env d=v)∧∀ t,zh pl t=true→env t=dE t
def C3(ops:Array Oper)(pl:List (Option (Nat × AV)))(M i:Nat):Nat:=((bh pl.length).filter fun j=>mW pl j&&!lk ops j i).foldl (fun a j=>min a (hJ pl j)) M
def Jk(P:Program)(w0:World)(N:Nat)(Q:bU)(ops:Array Oper)(pl:List (Option (Nat × AV)))(Ss:Nat→List aH)(M:Nat)(dE:du)(i:Nat):Prop :=
 match pl[i]? with
 | some (some (d,v))=>∀ m,m≤C3 ops pl M i→∀ env,LG ops pl dE i env→i7 P w0 N ops Q i (fun env' S'=>env'=eY env d v∧S'=Ss m) env (Ss m)
 | some none=>∀ env,LG ops pl dE i env→i7 P w0 N ops Q i (fun env' S'=>env'=env∧S'=Ss (hJ pl i+1)) env (Ss (hJ pl i))
 | none=>True
def EV(ops:Array Oper)(pl:List (Option (Nat × AV)))(M:Nat):Bool :=
 ((bh pl.length).all fun i=>!mW pl i||(decide (hJ pl i<M)&&(hJ pl i==0||(bh i).any fun j=>mW pl j&&(hJ pl j+1==hJ pl i)&&!lk ops i j))) &&
 (bh M).all fun m=>(bh pl.length).any fun i=>mW pl i&&hJ pl i==m
theorem Dw{pl:List (Option (Nat × AV))}{i j:Nat}(hi:mW pl i=true)(hj:mW pl j=true)(h:hJ pl i=hJ pl j):i=j:=by
 have key:∀ a b,mW pl a=true→a<b→hJ pl a<hJ pl b:=by
  intro a b ha hab
  unfold hJ
  have h1:(bh (a+1)).countP (mW pl)=(bh a).countP (mW pl)+1:=by
   rw [List.range_succ,List.countP_append,List.countP_singleton,if_pos ha]
  have h2:(bh (a+1)).countP (mW pl)≤(bh b).countP (mW pl):=by
   refine List.Sublist.countP_le ?_
   exact List.range_sublist.2 ω
  omega
 rcases Nat.lt_trichotomy i j with hlt|heq|hgt
 ·have:=key i j hi hlt;omega
 ·exact heq
 ·have:=key j i hj hgt;omega
theorem pu{f:Nat→Nat}:∀ (l:List Nat) (a x:Nat),x≤l.foldl (fun a j=>min a (f j)) a↔x≤a∧∀ j∈l,x≤f j
 | [],a,x=>χ
 | j::l,a,x=>by
  rw [g9,pu l]
  simp only [bD,forall_eq_or_imp,Nat.le_min,and_assoc]
theorem Im(pl:List (Option (Nat × AV)))(Ss:Nat→List aH)(M:Nat){n:Nat}{dE:du}{S0:List aH}(hS0:Ss 0=S0)(hn:ops.size=n)(hpl:pl.length=n)(hnd:decide ((pl.filterMap fun p=>p.map cP).Nodup)=true)(hdep:s_ ops=true)(hch:EV ops pl M=true)
  (hstep:pJ (Jk P w0 N Q ops pl Ss M dE) 0 n)
  (hz:∀ env:du,(∀ (i d:Nat) (v:AV),pl[i]? = some (some (d,v))→env d=v)→(∀ t,zh pl t=true→env t=dE t)→aX P w0 n0 N r k Q .normal env (Ss M)) :
  dS P w0 n0 N r ops k Q n (bT n false) [] dE S0:=by
 subst hS0
 have hnd:(pl.filterMap fun p=>p.map cP).Nodup:=by simpa using hnd
 simp only [EV,aq,aD,dT,ef,ay,decide_eq_true_eq,List.any_eq_true,beq_iff_eq] at hch
 obtain⟨hc1,hc2⟩:=hch
 have stN:∀ {i},mW pl i=true→pl[i]? = some none:=by
  intro i h
  unfold mW at h
  split at h
  ·assumption
  ·cases h
 have nSt:∀ {i},pl[i]? = some none→mW pl i=true:=by
  intro i h
  unfold mW
  rw [h]
 refine AW (fun listed env S=>∃ m,m≤M∧S=Ss m∧(∀ i,mW pl i=true→(listed.getD i true=true↔hJ pl i<m))∧(∀ (i d:Nat) (v:AV),pl[i]? = some (some (d,v))→listed.getD i true=true→env d=v)∧(∀ t,zh pl t=true→env t=dE t)∧pO ops listed) ?step ?fin n _ _ _ ?init ?left
 case left =>
  unfold sF
  rw [← hn]
  exact fc (oH) χ
 case init =>
  have hrep:∀ i,i<n→(bT n false).getD i true=false:=fun i hi=>by simp [lF,hi]
  refine⟨0,bf _,rfl,fun i hi=>?_,fun i d v hi hl=>?_,fun _ _=>rfl,fun j o ho hl=>?_⟩
  ·have h1:=(af.1 (stN hi)).1
   rw [hrep i ω]
   simp
  ·have h1:=(af.1 hi).1
   rw [hrep i ω] at hl;cases hl
  ·have h1:=(bF.1 ho).1
   rw [hrep j ω] at hl;cases hl
 case fin =>
  rintro listed env S ⟨m,h1,rfl,h3,h4,h5,_⟩ hr
  have hal:=lX hdep hr
  have hm:m=M:=by
   rcases jT m M with hlt|hge
   ·obtain⟨i,hi,hs,hri⟩:=hc2 m hlt
    have:=(h3 i hs).1 (hal i ω)
    omega
   ·omega
  subst hm
  exact hz env (fun i d v hi=>h4 i d v hi (hal i (by have:=(af.1 hi).1;omega))) h5
 case step =>
  rintro listed env S i o ⟨m,h1,rfl,h3,h4,h5,h6⟩ ho hu hd
  have hi:i<n:=by have:=(bF.1 ho).1;omega
  have hdp:LG ops pl dE i env:=by
   refine⟨fun j hj d' v' hd'=>?_,h5⟩
   obtain⟨e,he,hb,heq⟩:=gw ho hj
   have:=hd e he hb
   rw [heq] at this
   exact h4 j d' v' hd' (j6 this)
  have h6':pO ops (listed.setIfInBounds i true):=by
   intro j oj hoj hl e he hb
   have hset:∀ m,listed.getD m false=true→(listed.setIfInBounds i true).getD m false=true:=by
    intro m hm
    simp only [aC,bJ] at hm ⊢
    split
    ·split<;>simp_all
    ·exact hm
   by_cases hji:j=i
   ·subst hji
    rw [ho] at hoj;cases hoj
    exact hset _ (hd e he hb)
   ·rw [getD_set_ne true (Ne.symm hji)] at hl
    exact hset _ (h6 j oj hoj hl e he hb)
  have hs:=kW hstep (bf i) ω
  unfold Jk at hs
  obtain⟨f,hf⟩:∃ f,pl[i]? = some f:=⟨pl[i]'ω,ap ω⟩
  rw [hf] at hs
  cases f with
  | none =>
   simp only at hs
   have hst:=nSt hf
   have hmr:hJ pl i=m:=by
    have a1:¬ hJ pl i<m:=fun h=>by rw [(h3 i hst).2 h] at hu;cases hu
    rcases hc1 i ω with h|⟨h,h'|⟨j,hj,⟨hj1,hj2⟩,hj3⟩⟩
    ·rw [hst] at h;cases h
    ·omega
    ·obtain⟨e,he,hb,heq⟩:=gw ho hj3
     have:=hd e he hb
     rw [heq] at this
     have:=(h3 j hj1).1 (j6 this)
     omega
   have hM:hJ pl i<M:=by
    rcases hc1 i ω with h|⟨h,_⟩
    ·rw [hst] at h;cases h
    ·exact h
   rw [← hmr]
   refine(hs env hdp).mono ?_
   rintro env' S' ⟨rfl,rfl⟩
   refine⟨hJ pl i+1,ω,rfl,fun j hj=>?_,fun j d' v' hj hl=>?_,h5,h6'⟩
   ·by_cases hji:j=i
    ·subst hji
     have hl:(listed.setIfInBounds j true).getD j true=true:=by
      simp only [aC,bJ]
      by_cases hs:j<listed.size<;>simp [hs]
     simp [hl]
    ·rw [getD_set_ne true (Ne.symm hji),h3 j hj,← hmr]
     have:hJ pl j≠hJ pl i:=fun e=>hji (Dw hj hst e)
     omega
   ·by_cases hji:j=i
    ·subst hji;rw [hf] at hj;cases hj
    ·rw [getD_set_ne true (Ne.symm hji)] at hl
     exact h4 j d' v' hj hl
  | some p =>
   obtain⟨d,v⟩:=p
   simp only at hs
   have htop:m≤C3 ops pl M i:=by
    unfold C3
    rw [pu]
    refine⟨h1,fun j hj=>?_⟩
    simp only [Cv,dT,aq,ay] at hj
    obtain⟨hjn,hjs,hjr⟩:=hj
    rcases jT (hJ pl j) m with hlt|hge
    ·have hl:=(h3 j hjs).2 hlt
     obtain⟨oj,hoj⟩:∃ oj,ops[j]? = some oj:=⟨ops[j]'ω,bm ω⟩
     obtain⟨e,he,hb,heq⟩:=gw hoj hjr
     have:=h6 j oj hoj hl e he hb
     rw [heq] at this
     rw [j6 this] at hu;cases hu
    ·exact hge
   refine(hs m htop env hdp).mono ?_
   rintro env' S' ⟨rfl,rfl⟩
   refine⟨m,h1,rfl,fun j hj=>?_,fun j d' v' hj hl=>?_,fun t ht=>?_,h6'⟩
   ·have hji:i≠j:=by rintro rfl;rw [stN hj] at hf;cases hf
    rw [getD_set_ne true hji]
    exact h3 j hj
   ·by_cases hji:j=i
    ·subst hji
     rw [hf] at hj;cases hj
     simp [eY]
    ·have hde:d'≠d:=by
      rintro rfl
      obtain⟨a,b,hab⟩:∃ a b,(a<b∧pl[a]? = some (some (d',if a=j then v' else v))∧pl[b]? = some (some (d',if b=j then v' else v))):=by
       rcases Nat.lt_or_gt_of_ne hji with h|h
       ·exact⟨j,i,h,by rw [if_pos rfl];exact hj,by rw [if_neg (Ne.symm hji)];exact hf⟩
       ·exact⟨i,j,h,by rw [if_neg (Ne.symm hji)];exact hf,by rw [if_pos rfl];exact hj⟩
      obtain⟨hlt,ha,hb⟩:=hab
      have e1:pl=pl.take b++pl.drop b:=(List.take_append_drop b pl).symm
      rw [e1,List.filterMap_append,ig] at hnd
      refine hnd.2.2 d' ?_ d' ?_ rfl
      ·exact tK.2 ⟨_,ax (i:=a) (by rw [bc,if_pos hlt];exact ha),rfl⟩
      ·exact tK.2 ⟨_,ax (i:=0) (by rw [cZ];exact hb),rfl⟩
     rw [show eY env d v d'=env d' by simp [eY,hde]]
     rw [getD_set_ne true (Ne.symm hji)] at hl
     exact h4 j d' v' hj hl
   ·have hne:t≠d:=by
     rintro rfl
     have:=aD.1 ht _ (ax hf)
     simp at this
    rw [show eY env d v t=env t by simp [eY,hne]]
    exact h5 t ht
end
end Go.Fen
namespace Go.Fen
open Go.RowKit Go.MapKept
section
variable {P:Program}{w0 w:World}{ι:List Pl}{ψ:eo}{S:List aH}
theorem yn{l:List MapEntry}(hn:(l.map (·.born)).Nodup){j:Nat}{m:MapEntry}(hj:l[j]? = some m):l.findIdx? (fun e=>(e.born:Int)==(m.born:Int))=some j:=by
 rw [List.findIdx?_eq_some_iff_getElem]
 have hl:=(af.1 hj).1
 refine⟨hl, ?_,fun i hi=>?_⟩
 ·rw [(af.1 hj).2];simp
 ·simp only [beq_iff_eq,Int.natCast_inj]
  intro e
  have e1:(l.map (·.born))[i]? = some m.born:=by
   rw [aJ,ap ω];simp [e]
  have e2:(l.map (·.born))[j]? = some m.born:=by rw [aJ,hj];rfl
  have:=(List.getElem?_inj (i:=i) (j:=j) κ hn).1 (e1.trans e2.symm)
  omega
theorem zC(h:cO w0 ι ψ S w){t kt et:TypeId}{m k v z:AV}{cm ck cv:Value}{S':List aH}(hu:P.underlying t=some (.map kt et))(hz:lg P et=some z)(hm:VR ι ψ m cm)(hk:VR ι ψ k ck)(hv:VR ι ψ v cv)(he:eC P S t m k v=some S') :
  ∃ zv b w1 w',(ua t cm ck).run P w=.ok (.tuple #[zv,goInt b]) w1∧(ru t cm (goInt b) cv).run P w1=.ok () w'∧cO w0 ι ψ S' w':=by
 obtain⟨w',hw',hR'⟩:=jf (P:=P) h hm hk hv he
 obtain⟨zc,hzc,_⟩:=jz (P:=P) (w:=w) (ι:=ι) (ψ:=ψ) hz
 unfold eC at he
 cases m<;>simp only [hu] at he<;>try (cases he;done)
 ·next a =>
  split at he
  ·next es hS =>
   split at he
   ·next hc =>
    simp only [aq,aD] at hc
    cases hm with
    | mown _ pl hpl =>
     obtain⟨h0,hn,⟨me,clk,l,h1,h2,h3,h4,h5⟩,h6⟩:=h.blk a _ pl hS hpl
     have hck:(lB false 10000 kt ck).run P w=.ok () w:=ql hc.1 hk false w
     have hlt:=eD h1
     rcases qo (P:=P) hk h3 hn h4 hc.1 hc.2 with⟨e1,e2⟩|⟨j,e,m,e1,e2,e3,e4,e5,e6⟩
     ·have hf:=e2 w
      simp [nM,run_underlying hu,cz h1,hck,hf,run_setObj_map _ h1] at hw'
      have hidx:(me.push { key:=ck,val:=zc,born:=clk }).findIdx? (fun e=>(e.born:Int)==(clk:Int))=some me.size:=by
       rw [← cB (xs:=Array.push _ _),z7]
       have hnd:((me.push { key:=ck,val:=zc,born:=clk }).toList.map (·.born)).Nodup:=by
        simp only [FA,aM,ig]
        refine⟨h2.2,χ, ?_⟩
        intro x hx y hy
        simp at hy;subst hy
        obtain⟨m,hm,rfl⟩:=aN.1 hx
        have:=h2.1 m hm
        omega
       exact yn hnd (m:={ key:=ck,val:=zc,born:=clk }) χ
      refine⟨zc,clk,w.putObj pl.blk (.map (me.push { key:=ck,val:=zc,born:=clk }) (clk+1)),w', ?_, ?_,hR'⟩
      ·simp [ua,run_underlying hu,cz h1,hck,hf,hzc,run_setObj_map _ h1,nR]
      ·have g1:(w.putObj pl.blk (.map (me.push { key:=ck,val:=zc,born:=clk }) (clk+1))).heap[pl.blk]? = some (.map (me.push { key:=ck,val:=zc,born:=clk }) (clk+1)):=ez hlt
       have hmod:(me.push { key:=ck,val:=zc,born:=clk }).modify me.size (fun e=>{ e with val:=cv })=me.push { key:=ck,val:=cv,born:=clk }:=by
        apply ma
        intro i
        rw [dq]
        by_cases hi:me.size=i
        ·subst hi;simp
        ·rw [if_neg hi];simp [Array.getElem?_push,Ne.symm hi]
       simp [ru,cz g1,goInt,asInt,asIntOf,hidx,run_setObj_map _ g1,hmod]
       rw [← hw']
       simp [nR]
     ·have hf:=e6 w
      have hjl:j<me.size:=by have:=(af.1 e3).1;simpa using this
      have hmj:me[j]? = some m:=by simpa using e3
      have hmj':me[j]=m:=by simpa [hjl] using hmj
      have hst:(IR ck ck).run P w=.ok ck w:=uw hc.1 hk w
      simp [nM,run_underlying hu,cz h1,hck,hf,run_setObj_map _ h1,hjl,hmj',e4,hst] at hw'
      have hb:(me.modify j fun e=>{ e with key:=ck }).toList.map (·.born)=me.toList.map (·.born):=by
       apply List.ext_getElem?
       intro i
       simp only [aJ,bu,dq]
       split
       ·cases me[i]?<;>rfl
       ·rfl
      have hidx:(me.modify j fun e=>{ e with key:=ck }).findIdx? (fun e=>(e.born:Int)==(m.born:Int))=some j:=by
       rw [← cB (xs:=Array.modify _ _ _),z7]
       exact yn (m:={ m with key:=ck }) (by rw [hb];exact h2.2) (by simp [dq,hmj])
      refine⟨m.val,m.born,w.putObj pl.blk (.map (me.modify j fun e=>{ e with key:=ck }) clk),w', ?_, ?_,hR'⟩
      ·simp [ua,run_underlying hu,cz h1,hck,hf,run_setObj_map _ h1,nR,hjl,hmj',e4,hst]
      ·have g1:(w.putObj pl.blk (.map (me.modify j fun e=>{ e with key:=ck }) clk)).heap[pl.blk]? = some (.map (me.modify j fun e=>{ e with key:=ck }) clk):=ez hlt
       have hmod:(me.modify j fun e=>{ e with key:=ck }).modify j (fun e=>{ e with val:=cv })=me.modify j (fun e=>{ e with key:=ck,val:=cv }):=by
        apply ma
        intro i
        rw [dq,dq,dq]
        split
        ·cases me[i]?<;>rfl
        ·rfl
       simp [ru,cz g1,goInt,asInt,asIntOf,hidx,run_setObj_map _ g1,hmod]
       rw [← hw']
       simp [nR]
   ·cases he
  ·cases he
end
def uf:Operand→Nat→Bool
 | .tmp s,t=>!(s==t)
 | _,_=>true
theorem oV{x:Operand}{t:Nat}(h:uf x t=true):x≠.tmp t:=by
 rintro rfl
 simp [uf] at h
theorem CJ{P:Program}{w0:World}{n0 N:Nat}{r:Option Nat}{Q:bU}{k:List TI}{env:du}{S S':List aH}{all:Array Oper}{o1 o2 o3:Oper}{l:List Oper}{t kt et:TypeId}{d e:Nat}{om ok ox:Operand}{z:AV}
  (h1:o1.op=.mapEntry t om ok) (h2:o2.op=.extract (.tmp d) 1) (h3:o3.op=.entryStore t om (.tmp e) ox) (d1:o1.dst=some d) (d2:o2.dst=some e) (d3:o3.dst=none) (g1:o1.guard=none) (g2:o2.guard=none) (g3:o3.guard=none)
  (hN:decide (d<N∧e<N∧N≤DS)=true) (hne:(uf om d&&uf om e&&uf ox d&&uf ox e)=true)
  (hu:P.underlying t=some (.map kt et)) (hz:lg P et=some z) (hs:eC P S t (bo w0 env om) (bo w0 env ok) (bo w0 env ox)=some S')
  (h:aX P w0 n0 N r (.it (.ops all l)::k) Q .normal (eY (eY env d .junk) e .junk) S'):aX P w0 n0 N r (.it (.ops all (o1::o2::o3::l))::k) Q .normal env S:=by
 intro ι ψ w a hR hE
 simp only [decide_eq_true_eq] at hN
 simp only [aq] at hne
 obtain⟨hdN,heN,hND⟩:=hN
 obtain⟨⟨⟨n1,n2⟩,n3⟩,n4⟩:=hne
 replace n1:=oV n1
 replace n2:=oV n2
 replace n3:=oV n3
 replace n4:=oV n4
 obtain⟨zv,b,w1,w',r1,r2,hR'⟩:=zC (P:=P) hR hu hz (hE.eval hR om) (hE.eval hR ok) (hE.eval hR ox) hs
 have wt:∀ (o:Oper) (y:Nat→Option Bool),o.guard=none→jK o y=true:=fun o y hg=>by simp [jK,hg]
 have hda:d<a.tmps.size:=by have:=hE.size;omega
 have ev:∀ (x:Operand) (t:Nat) (c:Value),x≠.tmp t→(a.put (some t) c).eval x=a.eval x:=by
  intro x t c hx
  cases x with
  | tmp s =>
   have hst:t≠s:=fun q=>hx (by rw [q])
   simp [Act.eval,Act.put,aC,ka hst]
  | _=>rfl
 have ev2:∀ (x:Operand) (t s:Nat) (c c':Value),x≠.tmp t→x≠.tmp s→((a.put (some t) c).put (some s) c').eval x=a.eval x:=by
  intro x t s c c' hx hx'
  cases x with
  | tmp q =>
   have hq1:t≠q:=fun y=>hx (by rw [y])
   have hq2:s≠q:=fun y=>hx' (by rw [y])
   simp [Act.eval,Act.put,aC,ka hq1,ka hq2]
  | _=>rfl
 refine ej (wt _ _ g1) (fun c hc=>by rw [hc] at h1;cases h1) ?_
 have s1:(execOp a.eval o1).run P w=.ok (.value (.tuple #[zv,goInt b])) w1:=by simp [execOp,h1,r1]
 rw [s1]
 show wpListIn (FR r) 0 P all _ (o2::o3::l) (a.put o1.dst (.tuple #[zv,goInt b])) w1
 rw [d1]
 refine ej (wt _ _ g2) (fun c hc=>by rw [hc] at h2;cases h2) ?_
 have s2:(execOp (a.put (some d) (.tuple #[zv,goInt b])).eval o2).run P w1=.ok (.value (goInt b)) w1:=by
  have:(a.put (some d) (.tuple #[zv,goInt b])).eval (.tmp d)=.tuple #[zv,goInt b]:=by
   simp [Act.eval,Act.put,aC,hda]
  simp [execOp,h2,this,Instr.extract]
 rw [s2]
 show wpListIn (FR r) 0 P all _ (o3::l) ((a.put (some d) (.tuple #[zv,goInt b])).put o2.dst (goInt b)) w1
 rw [d2]
 refine ej (wt _ _ g3) (fun c hc=>by rw [hc] at h3;cases h3) ?_
 have s3:(execOp ((a.put (some d) (.tuple #[zv,goInt b])).put (some e) (goInt b)).eval o3).run P w1=.ok .skip w':=by
  have e1:((a.put (some d) (.tuple #[zv,goInt b])).put (some e) (goInt b)).eval (.tmp e)=goInt b:=by
   have:e<a.tmps.size:=by have:=hE.size;omega
   simp [Act.eval,Act.put,aC,this]
  simp [execOp,h3,ev2 om _ _ _ _ n1 n2,ev2 ox _ _ _ _ n3 n4,e1,r2]
 rw [s3]
 show wpListIn (FR r) 0 P all _ l (((a.put (some d) (.tuple #[zv,goInt b])).put (some e) (goInt b)).put o3.dst undef) w'
 rw [d3]
 have hE':fT ι ψ N (eY (eY env d .junk) e .junk) ((a.put (some d) (.tuple #[zv,goInt b])).put (some e) (goInt b)) :=
  (hE.put (.junk _) hdN).put (.junk _) heN
 exact h ι ψ w' _ hR' hE'
end Go.Fen
namespace Go.Fen
open Go.RowKit
theorem LK{P:Program}{w0:World}{n0 N:Nat}{r:Option Nat}{Q:bU}{k:List TI}{env:du}{S:List aH}{i:KI}(Q':bU)(h1:aX P w0 n0 N r [.it i] Q' .normal env S)(h2:∀ x env' S',Q' x env' S'→aX P w0 n0 N r k Q x env' S') :
  aX P w0 n0 N r (.it i::k) Q .normal env S:=by
 intro ι ψ w a hR hE
 refine KI.mono (h1 ι ψ w a hR hE) fun e a2 w2 hp=>?_
 obtain⟨ι',ψ',x,env',S',e1,e2,e3,e4,e5⟩:=hp
 exact⟨ι',ψ',x,env',S',e1,e2,e3,e4,h2 _ _ _ e5⟩
end Go.Fen
namespace Go.Fen
open Go.RowKit Go.ChangeShapes
inductive Sk where
 | int (k:IntKind)
 | bool
 | str
 | sl (e:Sk)
 | nil
 | cons (a:Sk) (r:Sk)
namespace Sk
def size:Sk→Nat
 | nil=>0
 | cons a r=>a.size+r.size
 | _=>1
def isAgg:Sk→Bool
 | nil|cons _ _=>true
 | _=>false
def mk(s:Sk)(cs:List AV):AV:=if s.isAgg then .agg cs else cs.headD .junk
def has:Sk→List AV→Prop
 | int k,xs=>∃ n,xs=[.int k n]∧(Lit.int k n).wf=true
 | bool,xs=>∃ b,xs=[.bool b]
 | str,xs=>∃ s,xs=[.str s]∧s.length≤maxLen
 | sl e,xs=>∃ els:List (List AV),xs=[.sval false (els.map e.mk)]∧els.length≤maxLen∧∀ y∈els,e.has y
 | nil,xs=>xs=[]
 | cons a r,xs=>∃ y z,xs=y++z∧a.has y∧r.has z
def rep(s:Sk):Nat→Sk
 | 0=>nil
 | n+1=>cons s (rep s n)
def fields(P:Program)(f:TypeId→Option Sk):Nat→List Field→Option Sk
 | _,[]=>some nil
 | o,x::l=>match f x.type with
  | some s=>if x.offset=o∧P.cellsOf x.type=s.size then (fields P f (o+s.size) l).map (cons s) else none
  | none=>none
def of(P:Program):Nat→TypeId→Option Sk
 | 0,_=>none
 | n+1,t=>match P.underlying t with
  | some (.int k)=>some (.int k)
  | some .bool=>some .bool
  | some .string=>some .str
  | some (.slice e)=>match of P n e with
   | some s=>if P.cellsOf e=s.size∧0<s.size then some (sl s) else none
   | none=>none
  | some (.struct fs)=>match fields P (of P n) 0 fs.toList with
   | some s=>if P.cellsOf t=s.size then some s else none
   | none=>none
  | some (.array m e)=>match of P n e with
   | some s=>if P.cellsOf e=s.size∧P.cellsOf t=m * s.size then some (rep s m) else none
   | none=>none
  | _=>none
theorem has_size:∀ {s:Sk}{xs:List AV},s.has xs→xs.length=s.size
 | int _,_,⟨_,h,_⟩=>by subst h;rfl
 | bool,_,⟨_,h⟩=>by subst h;rfl
 | str,_,⟨_,h,_⟩=>by subst h;rfl
 | sl _,_,⟨_,h,_⟩=>by subst h;rfl
 | nil,_,h=>by cases h;rfl
 | cons _ _,_,⟨y,z,h,h1,h2⟩=>by subst h;simp [size,has_size h1,has_size h2]
theorem mk_cells{s:Sk}{xs:List AV}(h:s.has xs):(s.mk xs).cells=xs:=by
 cases s<;>try rfl
 ·obtain⟨n,rfl,_⟩:=h;rfl
 ·obtain⟨n,rfl⟩:=h;rfl
 ·obtain⟨n,rfl,_⟩:=h;rfl
 ·obtain⟨n,rfl,_⟩:=h;rfl
end Sk
def vD(W:World):eo:=⟨fun b o=>W.cell? ⟨b,o,none⟩,fun _=>none⟩
theorem cO.start(W:World):cO W [] (vD W) [] W:=by
 refine⟨Cx _ _,fun _ _ _ h=>h,fun b es c h=>(by cases h),rfl,fun i B pl h=>(by simp at h),fun _ _ _ _ h=>h,fun i j B C p q k h=>(by simp at h)⟩
section
variable {H:Type}{enc:TypeId × Value→H}{P:Program}{W:World}{base:Nat}{spare:Nat→Bool}{held:Bool}
def jR(W:World)(xs:List AV)(cs:List Value):Prop:=xs.length=cs.length∧∀ (j:Nat) (x:AV) (v:Value),xs[j]? = some x→cs[j]? = some v→x.leaf=true∧VR [] (vD W) x v
theorem jR.one{x:AV}{v:Value}(hl:x.leaf=true)(h:VR [] (vD W) x v):jR W [x] [v] :=
 ⟨rfl,fun j y u h1 h2=>by
  cases j with
  | zero=>cases h1;cases h2;exact⟨hl,h⟩
  | succ j=>simp at h1⟩
theorem jR.append{xs ys:List AV}{cs ds:List Value}(h:jR W xs cs)(h':jR W ys ds):jR W (xs++ys) (cs++ds):=by
 refine⟨by simp [h.1,h'.1],fun j x v h1 h2=>?_⟩
 by_cases hj:j<xs.length
 ·rw [au hj] at h1
  rw [au (by rw [← h.1];exact hj)] at h2
  exact h.2 j x v h1 h2
 ·rw [aA ω] at h1
  rw [aA (by rw [← h.1];omega),← h.1] at h2
  exact h'.2 _ x v h1 h2
theorem vk{a:Addr}{v:Value}(h:W.cell? a=some v):a.spot=none:=by
 unfold qG at h
 split at h
 ·split at h
  ·cases h
  ·next hs=>simpa using hs
 ·cases h
theorem tn{a:Addr}{n:Nat}{l:List Value}(h:W.cells? base a n=some l):l.length=n∧∀ j v,l[j]? = some v→W.cell? (a.add j)=some v:=by
 unfold World.cells? at h
 split at h
 ·refine⟨by simpa using oK h,fun j v hv=>?_⟩
  have hj:j<n:=by have:=(af.1 hv).1;have h2:=oK h;simp at h2;omega
  obtain⟨b,hb,hf⟩:=qL h j j (by simp [hj])
  rw [hv] at hb;cases hb
  exact hf
 ·cases h
theorem Ng{cs:List Value}{o n m:Nat}(h:cs.length=o+(n+m)):(cs.drop o).take n++cs.drop (o+n)=cs.drop o:=by
 rw [← List.drop_drop,List.take_append_drop]
theorem xC{n:Nat}{fuel:Nat}(ih:∀ (t:TypeId) (s:Sk) (cs:List Value) (x:DataW H × List MemPlace),Sk.of P n t=some s→DataW.trod enc P W base spare held fuel t cs=some x→cs.length=s.size∧∃ xs,s.has xs∧jR W xs cs) :
  ∀ (fs:List Field) (o:Nat) (s:Sk) (cs:List Value) (r:List (DataW H × List MemPlace)),Sk.fields P (Sk.of P n) o fs=some s→(fs.mapM fun f=>DataW.trod enc P W base spare held fuel f.type ((cs.drop f.offset).take (P.cellsOf f.type)))=some r →
   cs.length=o+s.size→∃ xs,s.has xs∧jR W xs (cs.drop o):=by
 intro fs
 induction fs with
 | nil =>
  intro o s cs r hs _ hl
  cases hs
  refine⟨[],rfl, ?_⟩
  rw [jX (by simp [Sk.size] at hl;omega)]
  exact⟨rfl,fun j x v h=>by simp at h⟩
 | cons f fs ihf =>
  intro o s cs r hs hm hl
  simp only [Sk.fields] at hs
  split at hs
  ·next s1 h1 =>
   split at hs
   ·next hc =>
    obtain⟨hc1,hc2⟩:=hc
    obtain⟨s2,h2,rfl⟩:=aL.1 hs
    simp only [List.mapM_cons,zY,gk,Fk,bl] at hm
    obtain⟨b,hb,r',hr',rfl⟩:=hm
    simp only [Sk.size] at hl
    rw [hc1,hc2] at hb
    obtain⟨_,ys,hy,hyr⟩:=ih f.type s1 _ b h1 hb
    obtain⟨zs,hz,hzr⟩:=ihf (o+s1.size) s2 cs r' h2 hr' ω
    refine⟨ys++zs,⟨ys,zs,rfl,hy,hz⟩, ?_⟩
    rw [← Ng (o:=o) (n:=s1.size) (m:=s2.size) ω]
    exact hyr.append hzr
   ·cases hs
  ·cases hs
theorem D5{s:Sk}{c:Nat}(hc:c=s.size){g:List Value→Option (DataW H × List MemPlace)}(ih:∀ (cs:List Value) (x:DataW H × List MemPlace),g cs=some x→cs.length=s.size∧∃ xs,s.has xs∧jR W xs cs) :
  ∀ (m k:Nat) (cs:List Value),(∀ i,i<m→∃ x,g ((cs.drop ((k+i) * c)).take c)=some x)→cs.length=(k+m) * c→∃ xs,(s.rep m).has xs∧jR W xs (cs.drop (k * c)):=by
 intro m
 induction m with
 | zero =>
  intro k cs _ hl
  refine⟨[],rfl, ?_⟩
  rw [jX (by simp at hl;omega)]
  exact⟨rfl,fun j x v h=>by simp at h⟩
 | succ m ihm =>
  intro k cs hm hl
  obtain⟨x,hx⟩:=hm 0 ω
  simp only [l8] at hx
  obtain⟨_,ys,hy,hyr⟩:=ih _ x hx
  obtain⟨zs,hz,hzr⟩:=ihm (k+1) cs (fun i hi=>by
   obtain⟨x,hx⟩:=hm (i+1) ω
   exact⟨x,by rw [show k+1+i=k+(i+1) by omega];exact hx⟩) (by rw [hl];congr 1;omega)
  refine⟨ys++zs,⟨ys,zs,rfl,hy,hz⟩, ?_⟩
  have hk:(k+1) * c=k * c+c:=by rw [eH,IL]
  rw [hk] at hzr
  have hl2:cs.length=k * c+(c+m * c):=by rw [hl,show k+(m+1)=k+1+m by omega,eH,hk];omega
  rw [← Ng (o:=k * c) (n:=c) (m:=m * c) hl2]
  exact hyr.append hzr
theorem IC{a:Addr}(h:a.spot=none)(i j:Nat):(a.add i).add j=⟨a.block,a.off+i+j,none⟩:=by
 obtain⟨b,o,s⟩:=a
 simp only at h
 subst h
 unfold Addr.add
 by_cases hi:i=0<;>by_cases hj:j=0<;>simp [hi,hj]
theorem xm(s:Sk):∀ m,(s.rep m).size=m * s.size
 | 0=>by simp [Sk.rep,Sk.size]
 | m+1=>by simp [Sk.rep,Sk.size,xm s m,eH];omega
theorem oa:∀ (n:Nat) (t:TypeId) (s:Sk) (fuel:Nat) (cs:List Value) (x:DataW H × List MemPlace),Sk.of P n t=some s→DataW.trod enc P W base spare held fuel t cs=some x→cs.length=s.size∧∃ xs,s.has xs∧jR W xs cs:=by
 intro n
 induction n with
 | zero=>intro t s fuel cs x h;cases h
 | succ n ih =>
  intro t s fuel cs x hs ht
  cases fuel with
  | zero=>simp [DataW.trod] at ht
  | succ fuel =>
  simp only [Sk.of] at hs
  split at hs
  ·next k hu =>
   cases hs
   simp only [DataW.trod,hu] at ht
   match cs,ht with
   | [.int k' m],ht =>
    simp only at ht
    split at ht
    ·next h=>obtain⟨rfl,hw⟩:=h;exact⟨rfl,_,⟨m,rfl,hw⟩,.one rfl (.int _ _)⟩
    ·cases ht
  ·next hu =>
   cases hs
   simp only [DataW.trod,hu] at ht
   match cs,ht with
   | [.bool b],ht=>exact⟨rfl,_,⟨b,rfl⟩,.one rfl (.bool _)⟩
  ·next hu =>
   cases hs
   simp only [DataW.trod,hu] at ht
   match cs,ht with
   | [.string b],ht =>
    simp only at ht
    split at ht
    ·next h=>exact⟨rfl,_,⟨b.data.toList,rfl,by simpa using h⟩,.one rfl (.str _ _ rfl)⟩
    ·cases ht
  ·next e hu =>
   split at hs
   ·next s1 h1 =>
    split at hs
    ·next hc =>
     obtain⟨hce,hpos⟩:=hc
     cases hs
     simp only [DataW.trod,hu] at ht
     match cs,ht with
     | [.slice none 0 0],ht=>exact⟨rfl,_,⟨[],rfl,χ,χ⟩,.one rfl (.svnil _)⟩
     | [.slice (some a) len cap],ht =>
      simp only at ht
      split at ht
      ·next hle =>
       obtain⟨_,hlc,hcm⟩:=hle
       obtain⟨els,hels,_⟩:=gk.1 ht
       have hlen:els.length=len:=by simpa using oK hels
       by_cases hlen0:len=0
       ·subst hlen0
        exact⟨rfl,_,⟨[],rfl,χ,χ⟩,.one rfl (.sve _ a cap χ)⟩
       have hspot:a.spot=none:=by
        obtain⟨y,_,hy⟩:=qL hels 0 0 (Cw ω)
        obtain⟨ds,hd,_⟩:=gk.1 hy
        obtain⟨g1,g2⟩:=tn hd
        obtain⟨v,hv⟩:∃ v,ds[0]? = some v:=⟨_,ap ω⟩
        have:=g2 0 v hv
        rw [Nat.zero_mul] at this
        exact vk (by simpa [Addr.add] using this)
       have each:∀ i,∃ q:List AV × List Value,i<len→s1.has q.1∧jR W q.1 q.2∧W.cells? base (a.add (i * s1.size)) s1.size=some q.2:=by
        intro i
        by_cases hi:i<len
        ·obtain⟨y,_,hy⟩:=qL hels i i (by simp [hi])
         obtain⟨ds,hd,hy⟩:=gk.1 hy
         rw [hce] at hd
         obtain⟨_,xs,hx,hxr⟩:=ih e s1 fuel ds y h1 hy
         exact⟨(xs,ds),fun _=>⟨hx,hxr,hd⟩⟩
        ·exact⟨([],[]),fun h=>absurd h hi⟩
       obtain⟨f,hf⟩:=Classical.skolem.1 each
       have hL:(((bh len).map fun i=>(f i).1).map s1.mk).length=len:=χ
       have get:∀ (i:Nat) (e:AV),(((bh len).map fun i=>(f i).1).map s1.mk)[i]? = some e→i<len∧e.cells=(f i).1:=by
        intro i e he
        have hi:i<len:=by have:=(af.1 he).1;omega
        simp only [Fl,aJ] at he
        rw [Cw hi] at he
        cases he
        exact⟨hi,Sk.mk_cells (hf i hi).1⟩
       have at':∀ (i:Nat) (e:AV) (j:Nat) (x:AV),(((bh len).map fun i=>(f i).1).map s1.mk)[i]? = some e→e.cells[j]? = some x→x.leaf=true∧(vD W).c a.block (a.off+i * s1.size+j)=some ((f i).2.getD j undef)∧VR [] (vD W) x ((f i).2.getD j undef):=by
        intro i e j x he hx
        obtain⟨hi,hc⟩:=get i e he
        rw [hc] at hx
        obtain⟨g1,g2,g3⟩:=hf i hi
        obtain⟨v,hv⟩:∃ v,(f i).2[j]? = some v:=⟨_,ap (by rw [← g2.1];exact(af.1 hx).1)⟩
        obtain⟨k1,k2⟩:=g2.2 j x v hx hv
        have k3:=(tn g3).2 j v hv
        have:(f i).2.getD j undef=v:=by simp [List.getD,hv]
        rw [this]
        refine⟨k1, ?_,k2⟩
        rw [IC hspot] at k3
        exact k3
       refine⟨rfl,_,⟨(bh len).map fun i=>(f i).1,rfl,by simpa using fc hlc hcm,fun y hy=>?_⟩,.one rfl ?_⟩
       ·obtain⟨i,hi,rfl⟩:=aN.1 hy
        exact(hf i (by simpa using hi)).1
       ·have key:=VR.sval (ι:=[]) (ψ:=vD W) s1.size false (((bh len).map fun i=>(f i).1).map s1.mk) a.block a.off cap (fun i j=>(f i).2.getD j undef) (fun i e he=>?_) ω χ (fun i e j x he hx=>⟨(at' i e j x he hx).1,(at' i e j x he hx).2.1⟩) (fun i e j x he hx=>(at' i e j x he hx).2.2)
        ·rw [hL] at key
         rw [show (some a:Option Addr)=some ⟨a.block,a.off,none⟩ by rw [← hspot]]
         exact key
        ·obtain⟨hi,hc⟩:=get i e he
         rw [hc];exact Sk.has_size (hf i hi).1
      ·cases ht
    ·cases hs
   ·cases hs
  ·next fs hu =>
   split at hs
   ·next s1 h1 =>
    split at hs
    ·next hc =>
     have hs':=bg hs
     subst hs'
     simp only [DataW.trod,hu] at ht
     split at ht
     ·next hl =>
      obtain⟨xs,hm,_⟩:=aL.1 ht
      obtain⟨ys,hy,hyr⟩:=xC (fun t s cs x=>ih t s fuel cs x) fs.toList 0 s1 cs xs h1 hm ω
      exact⟨ω,ys,hy,by simpa using hyr⟩
     ·cases ht
    ·cases hs
   ·cases hs
  ·next m e hu =>
   split at hs
   ·next s1 h1 =>
    split at hs
    ·next hc =>
     obtain⟨hc1,hc2⟩:=hc
     have hs':=bg hs
     subst hs'
     simp only [DataW.trod,hu] at ht
     split at ht
     ·next hl =>
      obtain⟨xs,hm,_⟩:=aL.1 ht
      obtain⟨ys,hy,hyr⟩:=D5 (s:=s1) hc1 (g:=DataW.trod enc P W base spare held fuel e) (fun cs x hx=>ih e s1 fuel cs x h1 hx) m 0 cs (fun i hi=>by
       obtain⟨y,_,hy⟩:=qL hm i i (by simp [hi])
       exact⟨y,by simpa using hy⟩) (by rw [hl,hc2,hc1];simp)
      refine⟨by rw [hl,hc2,xm],ys,hy,by simpa using hyr⟩
     ·cases ht
    ·cases hs
   ·cases hs
  ·cases hs
def Sk.pln:Sk→Bool
 | .int _=>true
 | .bool=>true
 | .nil=>true
 | .cons a r=>a.pln&&r.pln
 | _=>false
def zl:Nat→DataW H→List Value
 | _+1,.lit (.int k n)=>[.int k n]
 | _+1,.lit (.bool b)=>[.bool b]
 | m+1,.agg l=>l.flatMap (zl m)
 | _,_=>[]
theorem GP{s:Sk}:∀ m,(s.rep m).pln=true→m=0∨s.pln=true
 | 0,_=>.inl rfl
 | m+1,h=>by
  simp only [Sk.rep,Sk.pln,aq] at h
  exact .inr h.1
theorem xG{c M:Nat}{cs:List Value}:∀ (xs:List (DataW H × List MemPlace)) (k:Nat),(∀ i b,xs[i]? = some b→zl M b.1=(cs.drop ((k+i) * c)).take c)→cs.length=(k+xs.length) * c→(xs.map (·.1)).flatMap (zl M)=cs.drop (k * c)
 | [],k,_,hl=>by
  rw [jX (by rw [hl];simp)]
  rfl
 | x::xs,k,h,hl=>by
  have h0:=h 0 x rfl
  have ih:=xG (c:=c) (M:=M) (cs:=cs) xs (k+1) (fun i b hb=>by rw [show k+1+i=k+(i+1) by omega];exact h (i+1) b (by simpa using hb)) (by rw [hl,aB];congr 1;omega)
  have hk:(k+1) * c=k * c+c:=by rw [eH,IL]
  rw [al,kF,h0,ih,hk,l8]
  exact Ng (m:=xs.length * c) (by rw [hl,aB,show k+(xs.length+1)=k+1+xs.length by omega,eH,hk];omega)
theorem Bi:∀ (fuel n:Nat) (t:TypeId) (s:Sk) (cs:List Value) (x:DataW H × List MemPlace),Sk.of P n t=some s→s.pln=true→DataW.trod enc P W base spare held fuel t cs=some x→∀ M,fuel≤M→zl M x.1=cs:=by
 intro fuel
 induction fuel with
 | zero=>intro n t s cs x _ _ ht;simp [DataW.trod] at ht
 | succ fuel ih =>
  intro n t s cs x hs hp ht M hM
  obtain⟨M,rfl⟩:∃ M',M=M'+1:=⟨M - 1,ω⟩
  have hsz:=(oa n t s (fuel+1) cs x hs ht).1
  cases n with
  | zero=>cases hs
  | succ n =>
  simp only [Sk.of] at hs
  split at hs
  ·next k hu =>
   simp only [DataW.trod,hu] at ht
   match cs,ht with
   | [.int k' m],ht =>
    simp only at ht
    split at ht
    ·next h=>obtain⟨rfl,_⟩:=h;cases ht;rfl
    ·cases ht
  ·next hu =>
   simp only [DataW.trod,hu] at ht
   match cs,ht with
   | [.bool b],ht=>cases ht;rfl
  ·cases hs;cases hp
  ·split at hs
   ·split at hs
    ·cases hs;cases hp
    ·cases hs
   ·cases hs
  ·next fs hu =>
   split at hs
   ·next s1 h1 =>
    split at hs
    ·next hc =>
     have hs':=bg hs
     subst hs'
     simp only [DataW.trod,hu] at ht
     split at ht
     ·next hl =>
      obtain⟨xs,hm,rfl⟩:=aL.1 ht
      have key:∀ (fs:List Field) (o:Nat) (s:Sk) (r:List (DataW H × List MemPlace)),Sk.fields P (Sk.of P n) o fs=some s→s.pln=true→(fs.mapM fun f=>DataW.trod enc P W base spare held fuel f.type ((cs.drop f.offset).take (P.cellsOf f.type)))=some r →
        cs.length=o+s.size→(r.map (·.1)).flatMap (zl M)=cs.drop o:=by
       intro fs
       induction fs with
       | nil =>
        intro o s r hs _ hm hl
        cases hs
        simp at hm
        subst hm
        rw [jX (by simp [Sk.size] at hl;omega)]
        rfl
       | cons f fs ihf =>
        intro o s r hs hp hm hl
        simp only [Sk.fields] at hs
        split at hs
        ·next s2 h2 =>
         split at hs
         ·next hc =>
          obtain⟨hc1,hc2⟩:=hc
          obtain⟨s3,h3,rfl⟩:=aL.1 hs
          simp only [List.mapM_cons,zY,gk,Fk,bl] at hm
          obtain⟨b,hb,r',hr',rfl⟩:=hm
          simp only [Sk.size] at hl
          simp only [Sk.pln,aq] at hp
          rw [hc1,hc2] at hb
          have e1:=ih n f.type s2 _ b h2 hp.1 hb M ω
          have e2:=ihf (o+s2.size) s3 r' h3 hp.2 hr' ω
          rw [al,kF,e1,e2]
          exact Ng (m:=s3.size) ω
         ·cases hs
        ·cases hs
      have:=key fs.toList 0 s1 xs h1 hp hm ω
      simpa [zl] using this
     ·cases ht
    ·cases hs
   ·cases hs
  ·next m e hu =>
   split at hs
   ·next s1 h1 =>
    split at hs
    ·next hc =>
     obtain⟨hc1,hc2⟩:=hc
     have hs':=bg hs
     subst hs'
     simp only [DataW.trod,hu] at ht
     split at ht
     ·next hl =>
      obtain⟨xs,hm,rfl⟩:=aL.1 ht
      have hxl:xs.length=m:=by simpa using oK hm
      have:=xG (c:=P.cellsOf e) (M:=M) (cs:=cs) xs 0 (fun i b hb=>by
       have hi:i<m:=by have:=(af.1 hb).1;omega
       obtain⟨y,hy1,hy2⟩:=qL hm i i (by simp [hi])
       rw [hb] at hy1;cases hy1
       rcases GP m hp with h0|h0
       ·omega
       ·rw [bG];exact ih n e s1 _ b h1 h0 hy2 M ω) (by rw [hl,hc2,hc1,hxl];simp)
      simpa [zl] using this
     ·cases ht
    ·cases hs
   ·cases hs
  ·cases hs
end
end Go.Fen
namespace Go.Fen
open Go.RowKit Go.ChangeShapes
section
variable {H:Type}{enc:TypeId × Value→H}{P:Program}{W:World}{base:Nat}{spare:Nat→Bool}{held:Bool}
theorem GZ{b2 n:Nat}{t:TypeId}{s:Sk}{v:Value}{d:DataW H}{ps:List MemPlace}(hs:Sk.of P n t=some s)(h:DataW.Trod enc P W base spare held t v d ps)(hok:rt P W .any b2 t v):∃ xs,s.has xs∧VR [] (vD W) (s.mk xs) v:=by
 obtain⟨fuel,ht⟩:=h
 unfold rt at hok
 by_cases hag:(∃ fs,P.underlying t=some (.struct fs))∨∃ m e,P.underlying t=some (.array m e)
 ·have hv:∃ cs,v=.agg cs∧cs.size=P.cellsOf t∧Row.okWide P W .any b2 t cs:=by
   rcases hag with⟨fs,hu⟩|⟨m,e,hu⟩<;>rw [hu] at hok<;>exact hok
  obtain⟨cs,rfl,_,ts,_,_,hrow⟩:=hv
  obtain⟨hl,xs,hx,hr⟩:=oa n t s fuel _ _ hs ht
  refine⟨xs,hx, ?_⟩
  have hagg:s.mk xs=.agg xs:=by
   cases n with
   | zero=>cases hs
   | succ n =>
   simp only [Sk.of] at hs
   rcases hag with⟨fs,hu⟩|⟨m,e,hu⟩
   ·simp only [hu] at hs
    split at hs
    ·next s1 h1 =>
     split at hs
     ·have hs':=bg hs
      subst hs'
      cases fl:fs.toList with
      | nil=>rw [fl] at h1;cases h1;rfl
      | cons f l =>
       rw [fl] at h1
       simp only [Sk.fields] at h1
       split at h1
       ·split at h1
        ·obtain⟨s2,_,rfl⟩:=aL.1 h1;rfl
        ·cases h1
       ·cases h1
     ·cases hs
    ·cases hs
   ·simp only [hu] at hs
    split at hs
    ·split at hs
     ·have hs':=bg hs
      subst hs'
      cases m<;>rfl
     ·cases hs
    ·cases hs
  rw [hagg]
  refine .agg xs cs (by simpa [Cp] using hr.1) fun j x v h1 h2=>(hr.2 j x v h1 (by simpa [Cp] using h2)).2
 ·have hcell:Cell.okWide P W .any b2 t v:=by
   split at hok
   ·next fs hu=>exact absurd (.inl ⟨fs,hu⟩) hag
   ·next m e hu=>exact absurd (.inr ⟨m,e,hu⟩) hag
   ·exact hok
  have hnotagg:∀ cs,v≠.agg cs:=by
   rintro cs rfl
   have h2:Cell.ok P W .any b2 t (.agg cs):=by
    unfold Cell.okWide at hcell
    split at hcell<;>first|exact hcell|(rename_i h3;cases h3)|(rename_i h3 h4;cases h4)
   unfold Cell.ok at h2
   split at h2<;>first|(rename_i h3 h4;cases h4;done)|cases h2
  have hc:v.cells.toList=[v]:=by
   cases v<;>first|rfl|exact absurd rfl (hnotagg _)
  rw [hc] at ht
  obtain⟨hl,xs,hx,hr⟩:=oa n t s fuel _ _ hs ht
  refine⟨xs,hx, ?_⟩
  have hna:s.isAgg=false:=by
   cases n with
   | zero=>cases hs
   | succ n =>
   simp only [Sk.of] at hs
   split at hs
   ·cases hs;rfl
   ·cases hs;rfl
   ·cases hs;rfl
   ·split at hs
    ·split at hs
     ·cases hs;rfl
     ·cases hs
    ·cases hs
   ·next fs hu=>exact absurd (.inl ⟨fs,hu⟩) hag
   ·next m e hu=>exact absurd (.inr ⟨m,e,hu⟩) hag
   ·cases hs
  have h1:xs.length=1:=hr.1
  match xs,h1 with
  | [x],_ =>
   have:s.mk [x]=x:=by simp [Sk.mk,hna]
   rw [this]
   exact(hr.2 0 x v rfl rfl).2
def nh:List Sk→List AV→Prop
 | [],[]=>True
 | s::l,x::r=>(∃ xs,s.has xs∧x=s.mk xs)∧nh l r
 | _,_=>False
theorem nh.cons'{s:Sk}{l:List Sk}{avs:List AV}(h:nh (s::l) avs):∃ y r,s.has y∧avs=s.mk y::r∧nh l r:=by
 cases avs with
 | nil=>exact h.elim
 | cons x r =>
  obtain⟨⟨xs,hx,e⟩,h2⟩:=h
  exact⟨xs,r,hx,by rw [e],h2⟩
theorem nh.nil'{avs:List AV}(h:nh [] avs):avs=[]:=by
 cases avs with
 | nil=>rfl
 | cons x r=>exact h.elim
theorem D6{b2 n:Nat}:∀ (ts:List TypeId) (vs:List Value) (ds:List (DataW H)) (ps:List MemPlace) (sks:List Sk),DataW.TrodAll enc P W base spare held ts vs ds ps→ts.map (Sk.of P n)=sks.map some →
  (∀ (j:Nat) t v,ts[j]? = some t→vs[j]? = some v→rt P W .any b2 t v)→∃ avs,nh sks avs∧avs.length=vs.length∧∀ (j:Nat) (x:AV) (v:Value),avs[j]? = some x→vs[j]? = some v→VR [] (vD W) x v:=by
 intro ts
 induction ts with
 | nil =>
  intro vs ds ps sks h hsk _
  obtain⟨rfl,rfl,rfl⟩:=trodAll_nil h
  cases sks with
  | nil=>exact⟨[],trivial,rfl,fun j x v h=>by simp at h⟩
  | cons _ _=>simp at hsk
 | cons t ts ih =>
  intro vs ds ps sks h hsk hok
  obtain⟨v,vs',d,ds',p,q,rfl,rfl,rfl,h0,hr⟩:=trodAll_cons h
  cases sks with
  | nil=>simp at hsk
  | cons s sks =>
   simp only [al,mz] at hsk
   obtain⟨xs,hx,hv⟩:=GZ hsk.1 h0 (hok 0 t v rfl rfl)
   obtain⟨avs,ha,hl,hvr⟩:=ih vs' ds' q sks hr hsk.2 (fun j t v h1 h2=>hok (j+1) t v h1 h2)
   refine⟨s.mk xs::avs,⟨⟨xs,hx,rfl⟩,ha⟩,by simp [hl],fun j x u h1 h2=>?_⟩
   cases j with
   | zero=>cases h1;cases h2;exact hv
   | succ j=>exact hvr j x u h1 h2
theorem tM(hl:laidOutB P=true){W':World}(hb:Below W.heap.size W W'):∀ (ts:List TypeId) (vs:List Value) (ds:List (DataW H)) (ps:List MemPlace),(∀ t∈ts,P.readableRec t=true∧t<P.types.size) →
  DataW.TrodAll enc P W 0 (fun _=>true) true ts vs ds ps→(∀ x∈ps,x.block<W.heap.size)→DataW.TrodAll enc P W' 0 (fun b=>decide (b<W.heap.size)) true ts vs ds ps:=by
 intro ts
 induction ts with
 | nil =>
  intro vs ds ps _ h _
  obtain⟨rfl,rfl,rfl⟩:=trodAll_nil h
  exact rfl
 | cons t ts ih =>
  intro vs ds ps hr h hlt
  obtain⟨v,vs',d,ds',p,q,rfl,rfl,rfl,h0,hrest⟩:=trodAll_cons h
  exact⟨p,q,Below.trod hl (hr t (dG ..)).1 (hr t (dG ..)).2 h0 hb (fun x hx=>hlt x (by simp [hx])),ih vs' ds' q (fun t ht=>hr t (iv _ ht)) hrest (fun x hx=>hlt x (by simp [hx])),rfl⟩
theorem BS{f:FuncId}{fn:Func}{s:ChangeSpec}{n:Nat}(sks:List Sk){fresh handsOn:Bool}(hl:laidOutB P=true)(hps:∀ t∈fn.params.toList,P.readableRec t=true∧t<P.types.size)(hsk:fn.params.toList.map (Sk.of P n)=sks.map some)
  {tb:TypeId} (hres:fn.resultTypes=#[tb]) (htb:P.underlying tb=some .bool) (hvars:s.vars=[])
  {args:Array Value}{ds gs:List (DataW H)}{before:List MemPlace} (hspec:ds.length=fn.params.size→s.fn H (ds++[])={ results:=[.lit (.bool true)],args:=ds })
  (hW:DataW.Whole enc P fn.params.toList s.vars false W args.toList ds gs before) (hval:∀ (j:Nat) t v,fn.params[j]? = some t→args[j]? = some v→rt P W .any base t v)
  (k:∀ avs,nh sks avs→ao P W f avs [] (fun out _=>out=.ret (.bool true))) :
  Calls P f args W fun e W'=>∃ v,e=.returned v∧s.post enc P fn false fresh handsOn false W args v W':=by
 have hW':=hW
 obtain⟨p,q,hA,hV,hbq,hfz,hnd⟩:=hW
 have hlt:∀ x∈before,x.block<W.heap.size:=fun x hx=>by simpa using hW'.lt x hx
 have hlen:ds.length=fn.params.size:=by
  have key:∀ (ts:List TypeId) (vs:List Value) (ds:List (DataW H)) (ps:List MemPlace),DataW.TrodAll enc P W 0 (fun _=>true) true ts vs ds ps→ds.length=ts.length:=by
   intro ts
   induction ts with
   | nil=>intro vs ds ps h;obtain⟨_,rfl,_⟩:=trodAll_nil h;rfl
   | cons t ts ih=>intro vs ds ps h;obtain⟨v,vs',d,ds',p,q,_,rfl,_,_,hr⟩:=trodAll_cons h;simp [ih _ _ _ hr]
  simpa using key _ _ _ _ hA
 rw [hvars] at hV
 cases gs with
 | cons _ _=>exact absurd hV (by simp [DataW.TrodVars])
 | nil =>
 obtain rfl:q=[]:=by simpa [DataW.TrodVars] using hV
 obtain⟨avs,ha,hal,hvr⟩:=D6 (b2:=base) _ _ _ _ sks hA hsk (fun j t v h1 h2=>hval j t v (by simpa using h1) (by simpa using h2))
 obtain⟨_,hk⟩:=k avs ha
 refine(hk [] (vD W) W args (cO.start W) (by simpa using hal) (fun j x c h1 h2=>hvr j x c h1 (by simpa using h2))).mono ?_
 rintro e W' ⟨ι',ψ',out,S',_,hR,ho,rfl⟩
 have he:e=.returned (.bool true):=by
  cases e with
  | returned v=>rw [VR.bool_inv (show VR ι' ψ' (.bool true) v from ho)]
  | _=>exact absurd ho (by simp [nf])
 subst he
 refine⟨_,rfl,ds,[],before,[],before,[],hW', ?_, ?_, ?_,hR.below.frame _,fun h=>by cases h⟩
 ·rw [hspec hlen,hres]
  simp only [iM,aB,aI]
  exact trodAll_mk1 (shut_bool htb _)
 ·rw [hspec hlen,hbq,aG]
  exact tM hl hR.below _ _ _ _ hps hA (fun x hx=>hlt x (by rw [hbq];simp [hx]))
 ·rw [hspec hlen,hvars]
  exact rfl
end
end Go.Fen
namespace Go.Fen
open Go.RowKit
variable {P:Program}{w0:World}{n0 N:Nat}{r:Option Nat}{Q:bU}{k:List TI}{env:du}{S:List aH}
theorem cO.recast{ι:List Pl}{ψ:eo}{w:World}(h:cO w0 ι ψ S w){a:Nat}{e:TypeId}{sz fz g:Nat}{els els':List AV}(hS:S[a]? = some (.arr e sz fz g els))(hc:els'.map AV.cells=els.map AV.cells) :
  cO w0 ι ψ (S.set a (.arr e sz fz g els')) w:=by
 have hl:els'.length=els.length:=by simpa using congrArg jI hc
 have hf:ei els'=ei els:=by simp only [ei,List.flatMap_def,hc]
 have hal:a<S.length:=(af.1 hS).1
 have get:∀ (j:Nat) (C:aH) (p:Pl),(S.set a (.arr e sz fz g els'))[j]? = some C→(j=a∧C=.arr e sz fz g els')∨(j≠a∧S[j]? = some C):=by
  intro j C p hC
  by_cases hj:j=a
  ·subst hj
   rw [gV hal] at hC
   exact .inl ⟨rfl,(bg hC).symm⟩
  ·rw [be (Ne.symm hj)] at hC
   exact .inr ⟨hj,hC⟩
 refine⟨h.below,h.psi,h.psim,by simp [h.len],fun j C p hC hp=>?_,h.old,fun i j C D p q k hC hD hp hq hk1 hk2=>?_⟩
 ·rcases get j C p hC with⟨rfl,rfl⟩|⟨_,hC⟩
  ·obtain⟨h1,h2,h3,h4,⟨xs,h5,h6⟩,h7⟩:=h.blk j _ p hS hp
   refine⟨h1,fun x hx=>?_,h3,by rw [hl];exact h4,⟨xs,by rw [hl];exact h5,by rw [hf];exact h6⟩,h7⟩
   have hm:x.cells∈els'.map AV.cells:=dc hx
   rw [hc] at hm
   obtain⟨y,hy,e⟩:=aN.1 hm
   rw [← e];exact h2 y hy
  ·exact h.blk j C p hC hp
 ·have old:∀ (j:Nat) (C:aH) (p:Pl) (k:Nat),(S.set a (.arr e sz fz g els'))[j]? = some C→C.at p=some k→∃ C',S[j]? = some C'∧C'.at p=some k:=by
   intro j C p k hC hk
   rcases get j C p hC with⟨rfl,rfl⟩|⟨_,hC⟩
   ·exact⟨_,hS,hk⟩
   ·exact⟨C,hC,hk⟩
  obtain⟨C',g1,g2⟩:=old i C p k hC hk1
  obtain⟨D',g3,g4⟩:=old j D q k hD hk2
  exact h.inj i j C' D' p q k g1 g3 hp hq g2 g4
theorem wM{i:KI}{a:Nat}{e:TypeId}{sz fz g:Nat}{els:List AV}{S1:List aH}(els':List AV)(hS:S[a]? = some (.arr e sz fz g els))(hc:els'.map AV.cells=els.map AV.cells)(h1:S.set a (.arr e sz fz g els')=S1)
  (h:aX P w0 n0 N r (.it i::k) Q .normal env S1):aX P w0 n0 N r (.it i::k) Q .normal env S:=by
 subst h1
 intro ι ψ w ac hR hE
 exact h ι ψ w ac (hR.recast hS hc) hE
end Go.Fen
