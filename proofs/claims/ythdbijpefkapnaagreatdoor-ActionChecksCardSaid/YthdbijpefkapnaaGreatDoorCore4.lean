/- YthdbijpefkapnaaGreatDoorCore4. Texts of the proof of a law about texts: a layer of abstract values above the worlds, the types, the walks of the functions that the law reaches, the law and its card. Own work of an AI agent. -/
import Derived.Test.YthdbijpefkapnaaGreatDoorCore3
import Derived.ProofKit
import Derived.Lib.LaidTab
import Derived.Carry
import Derived.Deep.DeepHandedRow
set_option linter.all false
set_option linter.unusedVariables false
set_option linter.unusedSimpArgs false
open Array renaming ext_getElem? → ma, getD → kf, getD_eq_getD_getElem? → aK, getElem?_eq_getElem → bN, getElem?_eq_some_iff → bH, getElem?_modify → dG, getElem?_setIfInBounds → ct, getElem?_setIfInBounds_ne → ke, getElem?_toList → bR, replicate → cr, toArray_toList → de, toList_push → EW
open Bool renaming and_eq_true → aB, false_or → kZ, not_eq_true' → ax, not_true → cC, or_eq_true → fc
open Classical renaming byContradiction → fL
open Go.Instr renaming checkKey → lA, entryStore → rd, keyThatStays → HQ, mapEntry → tS, mapUpdate → nK
open Go.Lib renaming mapM_at → qv, mapM_length → oM
open Go.MapKept renaming run_getObj_map → db
open Go.Op renaming operands → bV
open Go.Region renaming binds → eS, wanted → jO
open Go.RowKit.Below renaming refl → Ch
open Go.Value renaming cells → B9, okWide → wj
open Go.World renaming cell? → qs, putObj → nN, putObj_heap_same → eD
open List renaming all_eq_true → aF, append_nil → aP, countP_le_length → jX, drop_of_length_le → jM, filterMap_cons_some → zG, findIdx?_toArray → zF, flatMap_cons → kY, foldl_cons → h_, getElem?_append_left → aJ, getElem?_append_right → aM, getElem?_drop → dr, getElem?_eq_getElem → aC, getElem?_eq_some_iff → aw, getElem?_inj → ye, getElem?_map → aQ, getElem?_of_mem → bh, getElem?_range → Cf, getElem?_take → bu, length_cons → ah, length_eq_zero_iff → ib, length_nil → aj, map_append → co, map_cons → aG, mem_append_left → ly, mem_append_right → dR, mem_cons → dj, mem_cons_of_mem → ia, mem_cons_self → dL, mem_filter → qU, mem_filterMap → tw, mem_map → aX, mem_of_getElem? → aI, mem_of_mem_take → EJ, mem_range → cB, nodup_append → iu, nodup_cons → pJ, range → bJ, range' → qT, range'_succ → wv, range_eq_range' → Iv, size_toArray → fj, take_sublist → EI
open List.cons renaming injEq → np
open Nat renaming add_mul → eL, add_zero → nP, eq_zero_or_pos → EH, le_refl → bg, le_trans → fb, lt_or_ge → eI, one_mul → Hx, strongRecOn → Hw, zero_add → dw, zero_le → bI
open Option renaming bind_eq_bind → zC, bind_eq_some_iff → gz, map_eq_some_iff → aW, pure_def → EG
open Option.some renaming inj → bp, injEq → bM
open Prod renaming fst → cK
namespace Go.Fen
open Go.RowKit
section
variable {P:Program}{w0:World}{n0 N:Nat}{r:Option Nat}{Q:cR}{k:List TI}{ops:Array Oper}{S0:List aH}
def ml (P:Program) (w0:World) (S0:List aH) (ops:Array Oper) (env:dK) (o:Oper) (v:AV):Prop :=
 (cG ops env o=some false∧v=.tup [])∨(cG ops env o=some true∧en P S0 (bK w0 env) o.op=some (v,S0)) ∨
 (cG ops env o=some true∧∃ (fop:Operand) (args:Array Operand) (tys:Array TypeId) (f:FuncId) (first cap A:List AV),o.op=.call ⟨.value fop,args,tys⟩∧bK w0 env fop=.fn (.func f) first cap ∧
  EL S0 (first++args.toList.map (bK w0 env)++cap)=A∧∀ R:ed→List aH→Prop,R (.ret v) S0→az P w0 f A S0 R)
theorem ug {o:Oper}{t:Nat} (h:.tmp t∈o.op.operands):t∈o.looksAt ops:=by
 unfold Oper.looksAt
 exact ly _ (tw.2 ⟨.tmp t,by simpa using h,rfl⟩)
theorem pm {o:Oper}{env env':dK} (h:∀ t∈o.looksAt ops,env' t=env t):cG ops env' o=cG ops env o:=by
 unfold cG
 cases hg:o.guard with
 | none=>rfl
 | some p =>
  obtain⟨g,want⟩:=p
  cases ho:ops[g]? with
  | none=>simp [ho]
  | some og =>
   cases hd:og.dst with
   | none=>simp [ho,hd]
   | some s =>
    have:env' s=env s:=h s (by
     unfold Oper.looksAt
     refine dR _ ?_
     simp [hg,ho,hd])
    simp [ho,hd,this]
theorem ml.agree {o:Oper}{env env':dK}{v:AV} (h:∀ t∈o.looksAt ops,env' t=env t) (hg:ml P w0 S0 ops env o v):ml P w0 S0 ops env' o v:=by
 have hop:∀ x∈o.op.operands,bK w0 env' x=bK w0 env x:=fun x hx=>by
  cases x with
  | tmp t=>exact h t (ug hx)
  | _=>rfl
 have hgd:=pm h
 rcases hg with⟨a,b⟩ | ⟨a,b⟩ | ⟨a,fop,args,tys,f,first,cap,A,b,c,d,e⟩
 ·exact .inl ⟨hgd.trans a,b⟩
 ·exact .inr (.inl ⟨hgd.trans a,by rw [jB hop];exact b⟩)
 ·have hargs:args.toList.map (bK w0 env')=args.toList.map (bK w0 env):=jh fun y hy=>hop y (by rw [b];simp [bV,Call.operands];exact .inr (by simpa using hy))
  have hfop:bK w0 env' fop=bK w0 env fop:=hop fop (by rw [b];simp [bV,Call.operands])
  exact .inr (.inr ⟨hgd.trans a,fop,args,tys,f,first,cap,A,b,hfop.trans c,by rw [hargs];exact d,e⟩)
theorem ml.op {i d:Nat}{o:Oper}{env:dK}{v:AV}{K:dK→List aH→Prop} (ho:ops[i]? = some o) (hd:o.dst=some d) (hN:d<N) (hg:ml P w0 S0 ops env o v) (hk:K (eO env d v) S0):ie P w0 N ops Q i K env S0:=by
 refine⟨o,ho,by rw [hd];simpa [fg] using hN, ?_⟩
 rw [hd]
 rcases hg with⟨a,rfl⟩ | ⟨a,b⟩ | ⟨a,fop,args,tys,f,first,cap,A,b,c,e,g⟩
 ·exact .inl ⟨a,hk⟩
 ·exact .inr (.inl ⟨a,v,S0,b,hk⟩)
 ·refine .inr (.inr ⟨a,fop,args,tys,f,first,cap,[],b,c, ?_⟩)
  have e':(first++args.toList.map (bK w0 env)++cap).map (conv S0 (y9 S0) 4)=A:=e
  simp only [List.foldl_nil]
  rw [e']
  exact g _ hk
def oJ (P:Program) (w0:World) (N:Nat) (ops:Array Oper) (S0:List aH) (K:dK→Prop):Nat→Nat→dK→Prop
 | 0,_,env=>K env
 | m+1,i,env=>∃ o d v,ops[i]? = some o∧o.dst=some d∧d<N∧ml P w0 S0 ops env o v∧oJ P w0 N ops S0 K m (i+1) (eO env d v)
def im (pl:List (Nat × AV)) (env:dK):dK:=pl.foldl (fun e p=>eO e p.1 p.2) env
theorem rW {K:dK→Prop}:∀ (m i:Nat) (env:dK),oJ P w0 N ops S0 K m i env →
  ∃ pl:List (Nat × AV),pl.length=m∧(∀ j d v,pl[j]? = some (d,v)→∃ o,ops[i+j]? = some o∧o.dst=some d∧d<N∧ml P w0 S0 ops (im (pl.take j) env) o v)∧K (im pl env)
 | 0,i,env,h=>⟨[],rfl,by simp,h⟩
 | m+1,i,env,⟨o,d,v,h1,h2,h3,h4,h5⟩=>by
  obtain⟨pl,q1,q2,q3⟩:=rW m (i+1) _ h5
  refine⟨(d,v)::pl,by simp [q1],fun j d' v' hj=>?_,q3⟩
  cases j with
  | zero=>simp at hj;obtain⟨rfl,rfl⟩:=hj;exact⟨o,h1,h2,h3,h4⟩
  | succ j =>
   obtain⟨o',g1,g2,g3,g4⟩:=q2 j d' v' (by simpa using hj)
   exact⟨o',by rw [← g1];congr 1;omega,g2,g3,g4⟩
theorem jl:∀ {pl:List (Nat × AV)}{env:dK}{t:Nat},(∀ p∈pl,p.1≠t)→im pl env t=env t
 | [],_,_,_=>rfl
 | p::pl,env,t,h=>by
  unfold im
  rw [h_]
  have:=jl (pl:=pl) (env:=eO env p.1 p.2) (t:=t) fun q hq=>h q (ia _ hq)
  unfold im at this
  rw [this]
  have hne:=h p (dL ..)
  simp [eO,Ne.symm hne]
theorem kC:∀ {pl:List (Nat × AV)}{env:dK}{j d:Nat}{v:AV},(pl.map cK).Nodup→pl[j]? = some (d,v)→im pl env d=v
 | [],_,_,_,_,_,h=>by simp at h
 | p::pl,env,j,d,v,hn,h=>by
  rw [aG,pJ] at hn
  unfold im
  rw [h_]
  cases j with
  | zero =>
   simp at h;subst h
   have:=jl (pl:=pl) (env:=eO env d v) (t:=d) fun q hq e=>hn.1 (aX.2 ⟨q,hq,e⟩)
   unfold im at this
   rw [this];simp [eO]
  | succ j =>
   have:=kC (pl:=pl) (env:=eO env p.1 p.2) hn.2 (by simpa using h)
   unfold im at this
   exact this
def zY (ops:Array Oper) (n:Nat):Bool :=
 ((bJ n).all fun i=>match ops[i]? with
  | some o=>o.dst.isSome&&(o.looksAt ops).all fun t=>(bJ n).all fun j=>match ops[j]? with
   | some oj=>!(oj.dst==some t)||(decide (j<i)&&!j7 ops i j)
   | none=>true
  | none=>false)&&decide (((bJ n).filterMap fun i=>(ops[i]?).bind fun o:Oper=>o.dst).Nodup)
def jW (P:Program) (w0:World) (n0 N:Nat) (r:Option Nat) (ops:Array Oper) (k:List TI) (Q:cR):Nat→Nat→dK→List aH→Prop
 | 0,_,env,S=>ba P w0 n0 N r k Q .normal env S
 | s+1,i,env,S=>ie P w0 N ops Q i (fun env' S'=>jW P w0 n0 N r ops k Q s (i+1) env' S') env S
def CO (ops:Array Oper) (n s:Nat):Bool:=(bJ s).all fun j=>zl ops (n+j)
theorem jc {listed:Array Bool}{i j:Nat} (h:j=i∨listed.getD j true=true):(listed.setIfInBounds i true).getD j true=true:=by
 rcases h with rfl | h
 ·simp only [aK,ct]
  by_cases hs:j<listed.size<;>simp [hs]
 ·by_cases hji:j=i
  ·subst hji
   simp only [aK,ct]
   by_cases hs:j<listed.size<;>simp [hs]
  ·rw [getD_set_ne true (Ne.symm hji)];exact h
theorem mm.set {listed:Array Bool}{i:Nat}{o:Oper} (h:mm ops listed) (ho:ops[i]? = some o) (hd:∀ e∈o.after,eS .any e=true→listed.getD e.on false=true):mm ops (listed.setIfInBounds i true):=by
 have hset:∀ m,listed.getD m false=true→(listed.setIfInBounds i true).getD m false=true:=by
  intro m hm
  simp only [aK,ct] at hm ⊢
  split
  ·split<;>simp_all
  ·exact hm
 intro j oj hoj hl e he hb
 by_cases hji:j=i
 ·subst hji
  rw [ho] at hoj;cases hoj
  exact hset _ (hd e he hb)
 ·rw [getD_set_ne true (Ne.symm hji)] at hl
  exact hset _ (h j oj hoj hl e he hb)
theorem lq {listed:Array Bool}{z:Nat}{o:Oper} (hcov:zl ops z=true) (hz:ops[z]? = some o) (hd:∀ e∈o.after,eS .any e=true→listed.getD e.on false=true) (hdc:mm ops listed):∀ j,j<z→listed.getD j true=true:=by
 have hzl:z<ops.size:=(bH.1 hz).1
 have hall:∀ m j,j+m=z→listed.getD j true=true∨j=z:=by
  intro m
  induction m using Hw with
  | _ m ih =>
   intro j hj
   by_cases hji:j=z
   ·exact .inr hji
   ·left
    have hc:=aF.1 hcov j (cB.2 (by omega))
    obtain⟨q,hq,hq2⟩:=List.any_eq_true.1 hc
    simp only [aB,decide_eq_true_eq,ax] at hq2
    have hqi:q≤z:=by have:=cB.1 hq;omega
    rcases ih (z - q) (by omega) q (by omega) with hl | rfl
    ·obtain⟨oq,hoq⟩:∃ oq,ops[q]? = some oq:=⟨ops[q]'(by omega),bN (by omega)⟩
     obtain⟨e,he,hb,heq⟩:=e_ hoq hq2.2
     have:=hdc q oq hoq hl e he hb
     rw [heq] at this
     exact iv this
    ·obtain⟨e,he,hb,heq⟩:=e_ hz hq2.2
     have:=hd e he hb
     rw [heq] at this
     exact iv this
 exact fun j hj=>(hall (z - j) j (by omega)).resolve_right (by omega)
theorem xM (n s:Nat){df:dK} (hn:ops.size=n+s) (hok:zY ops n=true) (hdep:qg ops=true) (htl:CO ops n s=true)
  (h:oJ P w0 N ops S0 (fun env=>jW P w0 n0 N r ops k Q s n env S0) n 0 df):dI P w0 n0 N r ops k Q (n+s) (cr (n+s) false) [] df S0:=by
 obtain⟨pl,hpl,hgv,hK⟩:=rW n 0 df h
 simp only [dw] at hgv
 simp only [zY,aB,aF,cB,decide_eq_true_eq] at hok
 obtain⟨hlk,hnd0⟩:=hok
 have hdst:∀ j d v,pl[j]? = some (d,v)→(ops[j]?).bind (fun o:Oper=>o.dst)=some d:=fun j d v hj=>by
  obtain⟨o,h1,h2,_⟩:=hgv j d v hj
  rw [h1];exact h2
 have hmap:pl.map cK=(bJ n).filterMap fun i=>(ops[i]?).bind fun o:Oper=>o.dst:=by
  have key:∀ (m:Nat) (q:List (Nat × AV)) (i:Nat),q.length=m→(∀ j d v,q[j]? = some (d,v)→(ops[i+j]?).bind (fun o:Oper=>o.dst)=some d)→q.map cK=(qT i m).filterMap fun i=>(ops[i]?).bind fun o:Oper=>o.dst:=by
   intro m
   induction m with
   | zero=>intro q i hq _;rw [ib.1 hq];rfl
   | succ m ih =>
    intro q i hq hh
    match q,hq with
    | (d,v)::q,hq =>
     rw [wv,zG (by simpa using hh 0 d v rfl),aG]
     congr 1
     refine ih q (i+1) (by simpa using hq) fun j d' v' hj=>?_
     have:=hh (j+1) d' v' (by simpa using hj)
     rw [← this];congr 2;omega
  rw [Iv]
  exact key n pl 0 hpl (fun j d v hj=>by rw [dw];exact hdst j d v hj)
 have hnd:(pl.map cK).Nodup:=by rw [hmap];exact hnd0
 have hmid:∀ (i j d:Nat) (v:AV),j<i→pl[j]? = some (d,v)→im (pl.take i) df d=v:=fun i j d v hji hj =>
  kC (j:=j) (by rw [List.map_take];exact hnd.sublist (EI _ _)) (by rw [bu,if_pos hji];exact hj)
 have hget:∀ i,i<n→∃ d v,pl[i]? = some (d,v):=fun i hi=>⟨(pl[i]'(by omega)).1,(pl[i]'(by omega)).2,aC (by omega)⟩
 refine xN (fun listed env S=>((∀ i,n≤i→i<n+s→listed.getD i true=false)∧(∀ (i d:Nat) (v:AV),pl[i]? = some (d,v)→listed.getD i true=true→env d=v)∧(∀ t,(∀ p∈pl,p.1≠t)→env t=df t)∧S=S0∧mm ops listed) ∨
  (∃ j,j<s∧(∀ i,i≤n+j→listed.getD i true=true)∧(∀ i,n+j<i→i<n+s→listed.getD i true=false)∧mm ops listed∧jW P w0 n0 N r ops k Q (s - (j+1)) (n+j+1) env S)) ?step ?fin (n+s) _ _ _ ?init ?left
 case left =>
  unfold qH
  rw [← hn]
  exact fb (jX) (by simp)
 case init =>
  have hrep:∀ i,i<n+s→(cr (n+s) false).getD i true=false:=fun i hi=>by simp [kf,hi]
  refine .inl ⟨fun i _ hi=>hrep i hi,fun i d v hi hl=>?_,fun _ _=>rfl,rfl,fun j o ho hl=>?_⟩
  ·have h1:=(aw.1 hi).1
   rw [hrep i (by omega)] at hl;cases hl
  ·have h1:=(bH.1 ho).1
   rw [hrep j (by omega)] at hl;cases hl
 case fin =>
  intro listed env S hI hr
  have hal:=kG hdep hr
  rcases hI with⟨h1,h2,h3,rfl,_⟩ | ⟨j,hj,h1,h2,_,ht⟩
  ·have hs0:s=0:=by
    rcases EH s with h | h
    ·exact h
    ·have:=h1 n (bg _) (by omega)
     rw [hal n (by omega)] at this;cases this
   subst hs0
   have he:env=im pl df:=by
    funext t
    by_cases ht:∀ p∈pl,p.1≠t
    ·rw [h3 t ht,jl ht]
    ·have ht:∃ p∈pl,p.1=t:=by
      apply fL
      intro hne
      exact ht fun p hp e=>hne ⟨p,hp,e⟩
     obtain⟨p,hp,rfl⟩:=ht
     obtain⟨i,hi⟩:=bh hp
     have hil:=(aw.1 hi).1
     rw [h2 i p.1 p.2 hi (hal i (by omega)),kC hnd hi]
   rw [he];exact hK
  ·have hjs:j+1=s:=by
    rcases eI (j+1) s with h | h
    ·have:=h2 (n+j+1) (by omega) (by omega)
     rw [hal (n+j+1) (by omega)] at this;cases this
    ·omega
   rw [show s - (j+1)=0 by omega] at ht
   exact ht
 case step =>
  intro listed env S i o hI ho hu hd
  have hi:i<n+s:=by have:=(bH.1 ho).1;omega
  rcases hI with⟨h1,h2,h3,rfl,h5⟩ | ⟨j,hj,h1,h2,h5,ht⟩
  ·by_cases hin:i<n
   ·obtain⟨d,v,hf⟩:=hget i hin
    obtain⟨o',g1,g2,g3,g4⟩:=hgv i d v hf
    rw [ho] at g1;cases g1
    have hag:∀ t∈o.looksAt ops,env t=im (pl.take i) df t:=by
     intro t ht
     by_cases hto:∀ p∈pl,p.1≠t
     ·rw [h3 t hto,jl fun p hp=>hto p (EJ hp)]
     ·have hto:∃ p∈pl,p.1=t:=by
       apply fL
       intro hne
       exact hto fun p hp e=>hne ⟨p,hp,e⟩
      obtain⟨p,hp,rfl⟩:=hto
      obtain⟨j,hj⟩:=bh hp
      have hjl:=(aw.1 hj).1
      obtain⟨oj,w1,w2,_,_⟩:=hgv j p.1 p.2 hj
      have hc:=hlk i hin
      rw [ho] at hc
      simp only [aB,aF,cB] at hc
      have hc2:=hc.2 p.1 ht j (by omega)
      rw [w1] at hc2
      simp only [w2,beq_self_eq_true,cC,kZ,aB,decide_eq_true_eq,ax] at hc2
      obtain⟨e,he,hb,heq⟩:=e_ ho hc2.2
      have:=hd e he hb
      rw [heq] at this
      rw [h2 j p.1 p.2 hj (iv this),hmid i j p.1 p.2 hc2.1 hj]
    refine ml.op ho g2 g3 (g4.agree hag) (.inl ⟨fun m hm hm2=>?_,fun m d' v' hm hl=>?_,fun t ht=>?_,rfl,h5.set ho hd⟩)
    ·rw [getD_set_ne true (by omega)];exact h1 m hm hm2
    ·by_cases hmi:m=i
     ·subst hmi
      rw [hf] at hm;cases hm
      simp [eO]
     ·have hde:d'≠d:=fun hh=>by
       subst hh
       have e1:(pl.map cK)[m]? = some d':=by rw [aQ,hm];rfl
       have e2:(pl.map cK)[i]? = some d':=by rw [aQ,hf];rfl
       have hml:m<(pl.map cK).length:=(aw.1 e1).1
       exact hmi ((ye hml hnd).1 (e1.trans e2.symm))
      rw [show eO env d v d'=env d' by simp [eO,hde]]
      rw [getD_set_ne true (Ne.symm hmi)] at hl
      exact h2 m d' v' hm hl
    ·have hne:t≠d:=fun e=>ht (d,v) (aI hf) e.symm
     rw [show eO env d v t=env t by simp [eO,hne]]
     exact h3 t ht
   ·have hcov:=aF.1 htl (i - n) (cB.2 (by omega))
    rw [show n+(i - n)=i by omega] at hcov
    have hl:=lq hcov ho hd h5
    have hien:i=n:=by
     rcases eI n i with h | h
     ·have:=h1 n (bg _) (by omega)
      rw [hl n h] at this;cases this
     ·omega
    subst hien
    have he:env=im pl df:=by
     funext t
     by_cases ht:∀ p∈pl,p.1≠t
     ·rw [h3 t ht,jl ht]
     ·have ht:∃ p∈pl,p.1=t:=by
       apply fL
       intro hne
       exact ht fun p hp e=>hne ⟨p,hp,e⟩
      obtain⟨p,hp,rfl⟩:=ht
      obtain⟨j,hj⟩:=bh hp
      have hjl:=(aw.1 hj).1
      rw [h2 j p.1 p.2 hj (hl j (by omega)),kC hnd hj]
    subst he
    obtain⟨s',rfl⟩:∃ s',s=s'+1:=⟨s - 1,by omega⟩
    unfold jW at hK
    refine hK.mono fun env' S' ht=>.inr ⟨0,by omega,fun m hm=>jc ?_,fun m hm hm2=>?_,h5.set ho hd,ht⟩
    ·by_cases e:m=i
     ·exact .inl e
     ·exact .inr (hl m (by omega))
    ·rw [getD_set_ne true (by omega)]
     exact h1 m (by omega) hm2
  ·have hcov:=aF.1 htl (i - n) (cB.2 (by
    rcases eI i n with h | h
    ·rw [h1 i (by omega)] at hu;cases hu
    ·omega))
   have hin:n+j<i:=by
    rcases eI (n+j) i with h | h
    ·exact h
    ·rw [h1 i h] at hu;cases hu
   rw [show n+(i - n)=i by omega] at hcov
   have hl:=lq hcov ho hd h5
   have hij:i=n+j+1:=by
    rcases eI (n+j+1) i with h | h
    ·have:=h2 (n+j+1) (by omega) (by omega)
     rw [hl (n+j+1) h] at this;cases this
    ·omega
   subst hij
   obtain⟨s',hs'⟩:∃ s',s - (j+1)=s'+1:=⟨s - (j+1) - 1,by omega⟩
   rw [hs'] at ht
   unfold jW at ht
   refine ht.mono fun env' S' ht=>.inr ⟨j+1,by omega,fun m hm=>jc ?_,fun m hm hm2=>?_,h5.set ho hd, ?_⟩
   ·by_cases e:m=n+j+1
    ·exact .inl e
    ·exact .inr (h1 m (by omega))
   ·rw [getD_set_ne true (by omega)]
    exact h2 m (by omega) hm2
   ·rw [show s - (j+1+1)=s' by omega]
    exact ht
variable {K:dK→Prop}{m i d:Nat}{o:Oper}{env:dK}{v:AV}
theorem Lq (ho:ops[i]? = some o) (hg:cG ops env o=some false) (hd:o.dst=some d) (hN:decide (d<N)=true) (h:oJ P w0 N ops S0 K m (i+1) (eO env d (.tup []))):oJ P w0 N ops S0 K (m+1) i env :=
 ⟨o,d,_,ho,hd,by simpa using hN,.inl ⟨hg,rfl⟩,h⟩
theorem Jm (ho:ops[i]? = some o) (hg:cG ops env o=some true) (hs:en P S0 (bK w0 env) o.op=some (v,S0)) (hd:o.dst=some d) (hN:decide (d<N)=true) (h:oJ P w0 N ops S0 K m (i+1) (eO env d v)):oJ P w0 N ops S0 K (m+1) i env :=
 ⟨o,d,v,ho,hd,by simpa using hN,.inr (.inl ⟨hg,hs⟩),h⟩
theorem pX {fop:Operand}{args:Array Operand}{tys:Array TypeId}{f:FuncId}{first cap A:List AV} (ho:ops[i]? = some o) (hg:cG ops env o=some true) (hop:o.op=.call ⟨.value fop,args,tys⟩) (hf:bK w0 env fop=.fn (.func f) first cap) (hd:o.dst=some d) (hN:decide (d<N)=true)
  (hA:EL S0 (first++args.toList.map (bK w0 env)++cap)=A) (hc:∀ R:ed→List aH→Prop,R (.ret v) S0→az P w0 f A S0 R) (h:oJ P w0 N ops S0 K m (i+1) (eO env d v)):oJ P w0 N ops S0 K (m+1) i env :=
 ⟨o,d,v,ho,hd,by simpa using hN,.inr (.inr ⟨hg,fop,args,tys,f,first,cap,A,hop,hf,hA,hc⟩),h⟩
theorem Lr (h:K env):oJ P w0 N ops S0 K 0 i env:=h
theorem ML {s:Nat}{S:List aH} (h:ie P w0 N ops Q i (fun env' S'=>jW P w0 n0 N r ops k Q s (i+1) env' S') env S):jW P w0 n0 N r ops k Q (s+1) i env S:=h
theorem K9 {S:List aH} (h:ba P w0 n0 N r k Q .normal env S):jW P w0 n0 N r ops k Q 0 i env S:=h
theorem FP {b:Bool} (hg:cG ops env o=some b) (ho:ops[i]? = some o) (ht:b=true→oJ P w0 N ops S0 K (m+1) i env) (hf:b=false→oJ P w0 N ops S0 K (m+1) i env):oJ P w0 N ops S0 K (m+1) i env:=by
 cases b
 ·exact hf rfl
 ·exact ht rfl
end
attribute [irreducible] oJ jW
theorem sq {G K:Prop} (h:K) (run:Hid K→G:=by
 intro kk
 first
 | apply Lr;exact kk.out
 | apply K9;exact kk.out
 | apply ML;exact kk.out
 | apply Jm;(· simp only [go_sem, *];try rfl);(· simp only [go_sem, *];try rfl);(· simp only [go_sem, *];try rfl);(· rfl);(· rfl);exact kk.out
 | apply Lq;(· simp only [go_sem, *];try rfl);(· simp only [go_sem, *];try rfl);(· rfl);(· rfl);exact kk.out
 | fail):G:=run h
theorem bq {G K L:Prop} (h:K) (h':L) (run:Hid K→Hid L→G:=by
 intro kk ll
 first
 | apply FP;(· simp only [go_sem, *];try rfl);(· simp only [go_sem, *];try rfl);(· exact kk.out);exact ll.out
 | fail):G:=run h h'
end Go.Fen
namespace Go.Fen
open Go.RowKit
section
variable {P:Program}{w0:World}{n0 N:Nat}{r:Option Nat}{Q:cR}{k:List TI}{ops:Array Oper}{S0:List aH}
def zP (ops:Array Oper) (n:Nat):Bool:=match ops[n]? with
 | some o=>o.dst.isNone&&(o.looksAt ops).all fun t=>(bJ n).all fun j=>match ops[j]? with
  | some oj=>!(oj.dst==some t)||!j7 ops n j
  | none=>true
 | none=>false
def DZ (ops:Array Oper) (n:Nat):List Nat:=(bJ n).filter fun i=>j7 ops n i
def lZ (P:Program) (w0:World) (ops:Array Oper) (S1:List aH) (env:dK):List Nat→Prop
 | []=>True
 | i::l=>(∃ o d,ops[i]? = some o∧o.dst=some d∧ml P w0 S1 ops env o (env d))∧lZ P w0 ops S1 env l
theorem lZ.get {S1:List aH}{env:dK}:∀ {l:List Nat}{i:Nat},lZ P w0 ops S1 env l→i∈l→∃ o d,ops[i]? = some o∧o.dst=some d∧ml P w0 S1 ops env o (env d)
 | _::_,_,h,hm=>by
  rcases dj.1 hm with rfl | hm
  ·exact h.1
  ·exact lZ.get h.2 hm
def Mu (P:Program) (w0:World) (n0 N:Nat) (r:Option Nat) (ops:Array Oper) (k:List TI) (Q:cR) (S0:List aH) (n s:Nat) (env:dK):Prop :=
 ∃ S1 v o,ops[n]? = some o∧cG ops env o=some true∧en P S0 (bK w0 env) o.op=some (v,S1)∧lZ P w0 ops S1 env (DZ ops n)∧jW P w0 n0 N r ops k Q s (n+1) env S1
theorem Il (n s:Nat){df:dK} (hn:ops.size=n+1+s) (hok:zY ops n=true) (hst:zP ops n=true) (hdep:qg ops=true) (htl:CO ops (n+1) s=true)
  (h:oJ P w0 N ops S0 (fun env=>Mu P w0 n0 N r ops k Q S0 n s env) n 0 df):dI P w0 n0 N r ops k Q (n+1+s) (cr (n+1+s) false) [] df S0:=by
 obtain⟨pl,hpl,hgv,hK⟩:=rW n 0 df h
 simp only [dw] at hgv
 obtain⟨S1,vz,oz,hoz,hgz,hsz,hfl,hT⟩:=hK
 simp only [zY,aB,aF,cB,decide_eq_true_eq] at hok
 obtain⟨hlk,hnd0⟩:=hok
 unfold zP at hst
 rw [hoz] at hst
 simp only [aB,aF,cB,Option.isNone_iff_eq_none] at hst
 obtain⟨hzd,hzl⟩:=hst
 have hdst:∀ j d v,pl[j]? = some (d,v)→(ops[j]?).bind (fun o:Oper=>o.dst)=some d:=fun j d v hj=>by
  obtain⟨o,h1,h2,_⟩:=hgv j d v hj
  rw [h1];exact h2
 have hmap:pl.map cK=(bJ n).filterMap fun i=>(ops[i]?).bind fun o:Oper=>o.dst:=by
  have key:∀ (m:Nat) (q:List (Nat × AV)) (i:Nat),q.length=m→(∀ j d v,q[j]? = some (d,v)→(ops[i+j]?).bind (fun o:Oper=>o.dst)=some d)→q.map cK=(qT i m).filterMap fun i=>(ops[i]?).bind fun o:Oper=>o.dst:=by
   intro m
   induction m with
   | zero=>intro q i hq _;rw [ib.1 hq];rfl
   | succ m ih =>
    intro q i hq hh
    match q,hq with
    | (d,v)::q,hq =>
     rw [wv,zG (by simpa using hh 0 d v rfl),aG]
     congr 1
     refine ih q (i+1) (by simpa using hq) fun j d' v' hj=>?_
     have:=hh (j+1) d' v' (by simpa using hj)
     rw [← this];congr 2;omega
  rw [Iv]
  exact key n pl 0 hpl (fun j d v hj=>by rw [dw];exact hdst j d v hj)
 have hnd:(pl.map cK).Nodup:=by rw [hmap];exact hnd0
 have hmid:∀ (i j d:Nat) (v:AV),j<i→pl[j]? = some (d,v)→im (pl.take i) df d=v:=fun i j d v hji hj =>
  kC (j:=j) (by rw [List.map_take];exact hnd.sublist (EI _ _)) (by rw [bu,if_pos hji];exact hj)
 have hget:∀ i,i<n→∃ d v,pl[i]? = some (d,v):=fun i hi=>⟨(pl[i]'(by omega)).1,(pl[i]'(by omega)).2,aC (by omega)⟩
 have hslot:∀ (listed:Array Bool) (env:dK),(∀ (i d:Nat) (v:AV),pl[i]? = some (d,v)→listed.getD i true=true→env d=v)→(∀ t,(∀ p∈pl,p.1≠t)→env t=df t) →
   ∀ t,(∀ j oj,j<n→ops[j]? = some oj→oj.dst=some t→listed.getD j true=true)→env t=im pl df t:=by
  intro listed env h2 h3 t hw
  by_cases hto:∀ p∈pl,p.1≠t
  ·rw [h3 t hto,jl hto]
  ·have hto:∃ p∈pl,p.1=t:=by
    apply fL
    intro hne
    exact hto fun p hp e=>hne ⟨p,hp,e⟩
   obtain⟨p,hp,rfl⟩:=hto
   obtain⟨j,hj⟩:=bh hp
   have hjl:=(aw.1 hj).1
   obtain⟨oj,w1,w2,_,_⟩:=hgv j p.1 p.2 hj
   rw [h2 j p.1 p.2 hj (hw j oj (by omega) w1 w2),kC hnd hj]
 have hone:∀ (listed:Array Bool) (env:dK) (i d:Nat) (v:AV),(∀ (i d:Nat) (v:AV),pl[i]? = some (d,v)→listed.getD i true=true→env d=v)→(∀ t,(∀ p∈pl,p.1≠t)→env t=df t)→pl[i]? = some (d,v) →
   (∀ (m d':Nat) (v':AV),pl[m]? = some (d',v')→(listed.setIfInBounds i true).getD m true=true→eO env d v d'=v')∧(∀ t,(∀ p∈pl,p.1≠t)→eO env d v t=df t):=by
  intro listed env i d v h2 h3 hf
  refine⟨fun m d' v' hm hl=>?_,fun t ht=>?_⟩
  ·by_cases hmi:m=i
   ·subst hmi
    rw [hf] at hm;cases hm
    simp [eO]
   ·have hde:d'≠d:=fun hh=>by
     subst hh
     have e1:(pl.map cK)[m]? = some d':=by rw [aQ,hm];rfl
     have e2:(pl.map cK)[i]? = some d':=by rw [aQ,hf];rfl
     have hml:m<(pl.map cK).length:=(aw.1 e1).1
     exact hmi ((ye hml hnd).1 (e1.trans e2.symm))
    rw [show eO env d v d'=env d' by simp [eO,hde]]
    rw [getD_set_ne true (Ne.symm hmi)] at hl
    exact h2 m d' v' hm hl
  ·have hne:t≠d:=fun e=>ht (d,v) (aI hf) e.symm
   rw [show eO env d v t=env t by simp [eO,hne]]
   exact h3 t ht
 have hdeps:∀ (listed:Array Bool) (i:Nat) (o:Oper),i<n→ops[i]? = some o→(∀ e∈o.after,eS .any e=true→listed.getD e.on false=true)→∀ t∈o.looksAt ops,∀ j oj,j<n→ops[j]? = some oj→oj.dst=some t→j<i∧listed.getD j true=true:=by
  intro listed i o hin ho hd t ht j oj hj hoj hdj
  have hc:=hlk i hin
  rw [ho] at hc
  simp only [aB,aF,cB] at hc
  have hc2:=hc.2 t ht j hj
  rw [hoj] at hc2
  simp only [hdj,beq_self_eq_true,cC,kZ,aB,decide_eq_true_eq,ax] at hc2
  obtain⟨e,he,hb,heq⟩:=e_ ho hc2.2
  have:=hd e he hb
  rw [heq] at this
  exact⟨hc2.1,iv this⟩
 refine xN (fun listed env S=>((∀ i,n≤i→i<n+1+s→listed.getD i true=false)∧(∀ (i d:Nat) (v:AV),pl[i]? = some (d,v)→listed.getD i true=true→env d=v)∧(∀ t,(∀ p∈pl,p.1≠t)→env t=df t)∧S=S0∧mm ops listed) ∨
  (listed.getD n true=true∧(∀ i,n+1≤i→i<n+1+s→listed.getD i true=false)∧(∀ (i d:Nat) (v:AV),pl[i]? = some (d,v)→listed.getD i true=true→env d=v)∧(∀ t,(∀ p∈pl,p.1≠t)→env t=df t)∧S=S1∧mm ops listed) ∨
  (∃ j,j<s∧(∀ i,i≤n+1+j→listed.getD i true=true)∧(∀ i,n+1+j<i→i<n+1+s→listed.getD i true=false)∧mm ops listed∧jW P w0 n0 N r ops k Q (s - (j+1)) (n+1+j+1) env S)) ?step ?fin (n+1+s) _ _ _ ?init ?left
 case left =>
  unfold qH
  rw [← hn]
  exact fb (jX) (by simp)
 case init =>
  have hrep:∀ i,i<n+1+s→(cr (n+1+s) false).getD i true=false:=fun i hi=>by simp [kf,hi]
  refine .inl ⟨fun i _ hi=>hrep i hi,fun i d v hi hl=>?_,fun _ _=>rfl,rfl,fun j o ho hl=>?_⟩
  ·have h1:=(aw.1 hi).1
   rw [hrep i (by omega)] at hl;cases hl
  ·have h1:=(bH.1 ho).1
   rw [hrep j (by omega)] at hl;cases hl
 case fin =>
  intro listed env S hI hr
  have hal:=kG hdep hr
  rcases hI with⟨h1,_⟩ | ⟨h0,h1,h2,h3,rfl,_⟩ | ⟨j,hj,h1,h2,_,ht⟩
  ·have:=h1 n (bg _) (by omega)
   rw [hal n (by omega)] at this;cases this
  ·have hs0:s=0:=by
    rcases EH s with h | h
    ·exact h
    ·have:=h1 (n+1) (bg _) (by omega)
     rw [hal (n+1) (by omega)] at this;cases this
   subst hs0
   have he:env=im pl df:=funext fun t=>hslot listed env h2 h3 t fun j oj hj _ _=>hal j (by omega)
   rw [he]
   unfold jW at hT
   exact hT
  ·have hjs:j+1=s:=by
    rcases eI (j+1) s with h | h
    ·have:=h2 (n+1+j+1) (by omega) (by omega)
     rw [hal (n+1+j+1) (by omega)] at this;cases this
    ·omega
   rw [show s - (j+1)=0 by omega] at ht
   unfold jW at ht
   exact ht
 case step =>
  intro listed env S i o hI ho hu hd
  have hi:i<n+1+s:=by have:=(bH.1 ho).1;omega
  rcases hI with⟨h1,h2,h3,rfl,h5⟩ | ⟨h0,h1,h2,h3,rfl,h5⟩ | ⟨j,hj,h1,h2,h5,ht⟩
  ·by_cases hin:i<n
   ·obtain⟨d,v,hf⟩:=hget i hin
    obtain⟨o',g1,g2,g3,g4⟩:=hgv i d v hf
    rw [ho] at g1;cases g1
    have hag:∀ t∈o.looksAt ops,env t=im (pl.take i) df t:=by
     intro t ht
     by_cases hto:∀ p∈pl,p.1≠t
     ·rw [h3 t hto,jl fun p hp=>hto p (EJ hp)]
     ·have hto:∃ p∈pl,p.1=t:=by
       apply fL
       intro hne
       exact hto fun p hp e=>hne ⟨p,hp,e⟩
      obtain⟨p,hp,rfl⟩:=hto
      obtain⟨j,hj⟩:=bh hp
      have hjl:=(aw.1 hj).1
      obtain⟨oj,w1,w2,_,_⟩:=hgv j p.1 p.2 hj
      have hc:=hdeps listed i o hin ho hd p.1 ht j oj (by omega) w1 w2
      rw [h2 j p.1 p.2 hj hc.2,hmid i j p.1 p.2 hc.1 hj]
    obtain⟨q1,q2⟩:=hone listed env i d v h2 h3 hf
    refine ml.op ho g2 g3 (g4.agree hag) (.inl ⟨fun m hm hm2=>?_,q1,q2,rfl,h5.set ho hd⟩)
    rw [getD_set_ne true (by omega)];exact h1 m hm hm2
   ·by_cases hiz:i=n
    ·subst hiz
     rw [hoz] at ho;cases ho
     have hag:∀ t∈oz.looksAt ops,env t=im pl df t:=by
      intro t ht
      refine hslot listed env h2 h3 t fun j oj hj hoj hdj=>?_
      have hc2:=hzl t ht j hj
      rw [hoj] at hc2
      simp only [hdj,beq_self_eq_true,cC,kZ,ax] at hc2
      obtain⟨e,he,hb,heq⟩:=e_ hoz hc2
      have:=hd e he hb
      rw [heq] at this
      exact iv this
     have hop:∀ x∈oz.op.operands,bK w0 env x=bK w0 (im pl df) x:=fun x hx=>by
      cases x with
      | tmp t=>exact hag t (ug hx)
      | _=>rfl
     refine⟨oz,hoz,by rw [hzd];rfl, ?_⟩
     rw [hzd]
     refine .inr (.inl ⟨(pm hag).trans hgz,vz,S1,by rw [jB hop];exact hsz,.inr (.inl ⟨?_,fun m hm hm2=>?_,fun m d' v' hm hl=>?_,h3,rfl,h5.set hoz hd⟩)⟩)
     ·exact jc (.inl rfl)
     ·rw [getD_set_ne true (by omega)];exact h1 m (by omega) hm2
     ·have hml:=(aw.1 hm).1
      rw [getD_set_ne true (by omega)] at hl
      exact h2 m d' v' hm hl
    ·have hcov:=aF.1 htl (i - (n+1)) (cB.2 (by omega))
     rw [show n+1+(i - (n+1))=i by omega] at hcov
     have hl:=lq hcov ho hd h5
     have:=h1 n (bg _) (by omega)
     rw [hl n (by omega)] at this;cases this
  ·by_cases hin:i<n
   ·obtain⟨d,v,hf⟩:=hget i hin
    have hre:j7 ops n i=true:=by
     cases hb:j7 ops n i with
     | true=>rfl
     | false =>
      obtain⟨e,he,hb,heq⟩:=e_ hoz hb
      have:=h5 n oz hoz h0 e he hb
      rw [heq] at this
      rw [iv this] at hu;cases hu
    obtain⟨o',d',g1,g2,g4⟩:=hfl.get (qU.2 ⟨cB.2 hin,hre⟩)
    rw [ho] at g1;cases g1
    obtain⟨o'',g5,g6,g7,_⟩:=hgv i d v hf
    rw [ho] at g5;cases g5
    obtain rfl:d'=d:=bp (g2.symm.trans g6)
    rw [kC hnd hf] at g4
    have hag:∀ t∈o.looksAt ops,env t=im pl df t:=fun t ht =>
     hslot listed env h2 h3 t fun j oj hj hoj hdj=>(hdeps listed i o hin ho hd t ht j oj hj hoj hdj).2
    obtain⟨q1,q2⟩:=hone listed env i d' v h2 h3 hf
    refine ml.op ho g2 g7 (g4.agree hag) (.inr (.inl ⟨?_,fun m hm hm2=>?_,q1,q2,rfl,h5.set ho hd⟩))
    ·exact jc (.inr h0)
    ·rw [getD_set_ne true (by omega)];exact h1 m hm hm2
   ·have hin2:n<i:=by
     rcases eI n i with h | h
     ·exact h
     ·have:i=n:=by omega
      subst this
      rw [h0] at hu;cases hu
    have hcov:=aF.1 htl (i - (n+1)) (cB.2 (by omega))
    rw [show n+1+(i - (n+1))=i by omega] at hcov
    have hl:=lq hcov ho hd h5
    have hien:i=n+1:=by
     rcases eI (n+1) i with h | h
     ·have:=h1 (n+1) (bg _) (by omega)
      rw [hl (n+1) h] at this;cases this
     ·omega
    subst hien
    have he:env=im pl df:=funext fun t=>hslot listed env h2 h3 t fun j oj hj _ _=>hl j (by omega)
    subst he
    obtain⟨s',rfl⟩:∃ s',s=s'+1:=⟨s - 1,by omega⟩
    unfold jW at hT
    refine hT.mono fun env' S' ht=>.inr (.inr ⟨0,by omega,fun m hm=>jc ?_,fun m hm hm2=>?_,h5.set ho hd,ht⟩)
    ·by_cases e:m=n+1
     ·exact .inl e
     ·exact .inr (hl m (by omega))
    ·rw [getD_set_ne true (by omega)]
     exact h1 m (by omega) hm2
  ·have hcov:=aF.1 htl (i - (n+1)) (cB.2 (by
    rcases eI i (n+1) with h | h
    ·rw [h1 i (by omega)] at hu;cases hu
    ·omega))
   have hin:n+1+j<i:=by
    rcases eI (n+1+j) i with h | h
    ·exact h
    ·rw [h1 i h] at hu;cases hu
   rw [show n+1+(i - (n+1))=i by omega] at hcov
   have hl:=lq hcov ho hd h5
   have hij:i=n+1+j+1:=by
    rcases eI (n+1+j+1) i with h | h
    ·have:=h2 (n+1+j+1) (by omega) (by omega)
     rw [hl (n+1+j+1) h] at this;cases this
    ·omega
   subst hij
   obtain⟨s',hs'⟩:∃ s',s - (j+1)=s'+1:=⟨s - (j+1) - 1,by omega⟩
   rw [hs'] at ht
   unfold jW at ht
   refine ht.mono fun env' S' ht=>.inr (.inr ⟨j+1,by omega,fun m hm=>jc ?_,fun m hm hm2=>?_,h5.set ho hd, ?_⟩)
   ·by_cases e:m=n+1+j+1
    ·exact .inl e
    ·exact .inr (h1 m (by omega))
   ·rw [getD_set_ne true (by omega)]
    exact h2 m (by omega) hm2
   ·rw [show s - (j+1+1)=s' by omega]
    exact ht
variable {n s:Nat}{env:dK}
theorem Ah {S1:List aH}{v:AV}{o:Oper}{fl:List Nat} (ho:ops[n]? = some o) (hg:cG ops env o=some true) (hs:en P S0 (bK w0 env) o.op=some (v,S1)) (hf:DZ ops n=fl) (h1:lZ P w0 ops S1 env fl) (h:jW P w0 n0 N r ops k Q s (n+1) env S1):Mu P w0 n0 N r ops k Q S0 n s env :=
 ⟨S1,v,o,ho,hg,hs,by rw [hf];exact h1,h⟩
theorem D0 {S1:List aH}:lZ P w0 ops S1 env []:=trivial
theorem Ap {S1:List aH}{i d:Nat}{l:List Nat}{o:Oper}{v:AV} (ho:ops[i]? = some o) (hd:o.dst=some d) (hg:cG ops env o=some true) (hs:en P S1 (bK w0 env) o.op=some (v,S1)) (he:env d=v) (h:lZ P w0 ops S1 env l):lZ P w0 ops S1 env (i::l) :=
 ⟨⟨o,d,ho,hd,by rw [he];exact .inr (.inl ⟨hg,hs⟩)⟩,h⟩
end
end Go.Fen
namespace Go.Fen
open Go.RowKit
section
variable {P:Program}{w0:World}{n0 N:Nat}{r:Option Nat}{Q:cR}{k:List TI}{ops:Array Oper}
def yR (pl:List (Option (Nat × AV))) (t:Nat):Bool:=pl.all fun p=>match p with
 | some p=>!(p.1==t)
 | none=>true
def mX (pl:List (Option (Nat × AV))) (i:Nat):Bool:=match pl[i]? with
 | some none=>true
 | _=>false
def ii (pl:List (Option (Nat × AV))) (i:Nat):Nat:=(bJ i).countP (mX pl)
def KV (ops:Array Oper) (pl:List (Option (Nat × AV))) (df:dK) (i:Nat) (env:dK):Prop :=
 (∀ j,j7 ops i j=false→∀ d v,pl[j]? = some (some (d,v))→env d=v)∧∀ t,yR pl t=true→env t=df t
def CJ (ops:Array Oper) (pl:List (Option (Nat × AV))) (M i:Nat):Nat:=((bJ pl.length).filter fun j=>mX pl j&&!j7 ops j i).foldl (fun a j=>min a (ii pl j)) M
def Ir (P:Program) (w0:World) (N:Nat) (Q:cR) (ops:Array Oper) (pl:List (Option (Nat × AV))) (Ss:Nat→List aH) (M:Nat) (df:dK) (i:Nat):Prop :=
 match pl[i]? with
 | some (some (d,v))=>∀ m,m≤CJ ops pl M i→∀ env,KV ops pl df i env→ie P w0 N ops Q i (fun env' S'=>env'=eO env d v∧S'=Ss m) env (Ss m)
 | some none=>∀ env,KV ops pl df i env→ie P w0 N ops Q i (fun env' S'=>env'=env∧S'=Ss (ii pl i+1)) env (Ss (ii pl i))
 | none=>True
def Er (ops:Array Oper) (pl:List (Option (Nat × AV))) (M:Nat):Bool :=
 ((bJ pl.length).all fun i=>!mX pl i||(decide (ii pl i<M)&&(ii pl i==0||(bJ i).any fun j=>mX pl j&&(ii pl j+1==ii pl i)&&!j7 ops i j))) &&
 (bJ M).all fun m=>(bJ pl.length).any fun i=>mX pl i&&ii pl i==m
theorem Dg {pl:List (Option (Nat × AV))}{i j:Nat} (hi:mX pl i=true) (hj:mX pl j=true) (h:ii pl i=ii pl j):i=j:=by
 have key:∀ a b,mX pl a=true→a<b→ii pl a<ii pl b:=by
  intro a b ha hab
  unfold ii
  have h1:(bJ (a+1)).countP (mX pl)=(bJ a).countP (mX pl)+1:=by
   rw [List.range_succ,List.countP_append,List.countP_singleton,if_pos ha]
  have h2:(bJ (a+1)).countP (mX pl)≤(bJ b).countP (mX pl):=by
   refine List.Sublist.countP_le ?_
   exact List.range_sublist.2 (by omega)
  omega
 rcases Nat.lt_trichotomy i j with hlt | heq | hgt
 ·have:=key i j hi hlt;omega
 ·exact heq
 ·have:=key j i hj hgt;omega
theorem pn {f:Nat→Nat}:∀ (l:List Nat) (a x:Nat),x≤l.foldl (fun a j=>min a (f j)) a↔x≤a∧∀ j∈l,x≤f j
 | [],a,x=>by simp
 | j::l,a,x=>by
  rw [h_,pn l]
  simp only [dj,forall_eq_or_imp,Nat.le_min,and_assoc]
theorem Ay (pl:List (Option (Nat × AV))) (Ss:Nat→List aH) (M:Nat){n:Nat}{df:dK}{S0:List aH} (hS0:Ss 0=S0) (hn:ops.size=n) (hpl:pl.length=n) (hnd:decide ((pl.filterMap fun p=>p.map cK).Nodup)=true) (hdep:qg ops=true) (hch:Er ops pl M=true)
  (hstep:pA (Ir P w0 N Q ops pl Ss M df) 0 n)
  (hz:∀ env:dK,(∀ (i d:Nat) (v:AV),pl[i]? = some (some (d,v))→env d=v)→(∀ t,yR pl t=true→env t=df t)→ba P w0 n0 N r k Q .normal env (Ss M)) :
  dI P w0 n0 N r ops k Q n (cr n false) [] df S0:=by
 subst hS0
 have hnd:(pl.filterMap fun p=>p.map cK).Nodup:=by simpa using hnd
 simp only [Er,aB,aF,cB,fc,ax,decide_eq_true_eq,List.any_eq_true,beq_iff_eq] at hch
 obtain⟨hc1,hc2⟩:=hch
 have stN:∀ {i},mX pl i=true→pl[i]? = some none:=by
  intro i h
  unfold mX at h
  split at h
  ·assumption
  ·cases h
 have nSt:∀ {i},pl[i]? = some none→mX pl i=true:=by
  intro i h
  unfold mX
  rw [h]
 refine xN (fun listed env S=>∃ m,m≤M∧S=Ss m∧(∀ i,mX pl i=true→(listed.getD i true=true↔ii pl i<m))∧(∀ (i d:Nat) (v:AV),pl[i]? = some (some (d,v))→listed.getD i true=true→env d=v)∧(∀ t,yR pl t=true→env t=df t)∧mm ops listed) ?step ?fin n _ _ _ ?init ?left
 case left =>
  unfold qH
  rw [← hn]
  exact fb (jX) (by simp)
 case init =>
  have hrep:∀ i,i<n→(cr n false).getD i true=false:=fun i hi=>by simp [kf,hi]
  refine⟨0,bI _,rfl,fun i hi=>?_,fun i d v hi hl=>?_,fun _ _=>rfl,fun j o ho hl=>?_⟩
  ·have h1:=(aw.1 (stN hi)).1
   rw [hrep i (by omega)]
   simp
  ·have h1:=(aw.1 hi).1
   rw [hrep i (by omega)] at hl;cases hl
  ·have h1:=(bH.1 ho).1
   rw [hrep j (by omega)] at hl;cases hl
 case fin =>
  rintro listed env S ⟨m,h1,rfl,h3,h4,h5,_⟩ hr
  have hal:=kG hdep hr
  have hm:m=M:=by
   rcases eI m M with hlt | hge
   ·obtain⟨i,hi,hs,hri⟩:=hc2 m hlt
    have:=(h3 i hs).1 (hal i (by omega))
    omega
   ·omega
  subst hm
  exact hz env (fun i d v hi=>h4 i d v hi (hal i (by have:=(aw.1 hi).1;omega))) h5
 case step =>
  rintro listed env S i o ⟨m,h1,rfl,h3,h4,h5,h6⟩ ho hu hd
  have hi:i<n:=by have:=(bH.1 ho).1;omega
  have hdp:KV ops pl df i env:=by
   refine⟨fun j hj d' v' hd'=>?_,h5⟩
   obtain⟨e,he,hb,heq⟩:=e_ ho hj
   have:=hd e he hb
   rw [heq] at this
   exact h4 j d' v' hd' (iv this)
  have h6':mm ops (listed.setIfInBounds i true):=by
   intro j oj hoj hl e he hb
   have hset:∀ m,listed.getD m false=true→(listed.setIfInBounds i true).getD m false=true:=by
    intro m hm
    simp only [aK,ct] at hm ⊢
    split
    ·split<;>simp_all
    ·exact hm
   by_cases hji:j=i
   ·subst hji
    rw [ho] at hoj;cases hoj
    exact hset _ (hd e he hb)
   ·rw [getD_set_ne true (Ne.symm hji)] at hl
    exact hset _ (h6 j oj hoj hl e he hb)
  have hs:=kW hstep (bI i) (by omega)
  unfold Ir at hs
  obtain⟨f,hf⟩:∃ f,pl[i]? = some f:=⟨pl[i]'(by omega),aC (by omega)⟩
  rw [hf] at hs
  cases f with
  | none =>
   simp only at hs
   have hst:=nSt hf
   have hmr:ii pl i=m:=by
    have a1:¬ ii pl i<m:=fun h=>by rw [(h3 i hst).2 h] at hu;cases hu
    rcases hc1 i (by omega) with h | ⟨h,h' | ⟨j,hj,⟨hj1,hj2⟩,hj3⟩⟩
    ·rw [hst] at h;cases h
    ·omega
    ·obtain⟨e,he,hb,heq⟩:=e_ ho hj3
     have:=hd e he hb
     rw [heq] at this
     have:=(h3 j hj1).1 (iv this)
     omega
   have hM:ii pl i<M:=by
    rcases hc1 i (by omega) with h | ⟨h,_⟩
    ·rw [hst] at h;cases h
    ·exact h
   rw [← hmr]
   refine(hs env hdp).mono ?_
   rintro env' S' ⟨rfl,rfl⟩
   refine⟨ii pl i+1,by omega,rfl,fun j hj=>?_,fun j d' v' hj hl=>?_,h5,h6'⟩
   ·by_cases hji:j=i
    ·subst hji
     have hl:(listed.setIfInBounds j true).getD j true=true:=by
      simp only [aK,ct]
      by_cases hs:j<listed.size<;>simp [hs]
     simp [hl]
    ·rw [getD_set_ne true (Ne.symm hji),h3 j hj,← hmr]
     have:ii pl j≠ii pl i:=fun e=>hji (Dg hj hst e)
     omega
   ·by_cases hji:j=i
    ·subst hji;rw [hf] at hj;cases hj
    ·rw [getD_set_ne true (Ne.symm hji)] at hl
     exact h4 j d' v' hj hl
  | some p =>
   obtain⟨d,v⟩:=p
   simp only at hs
   have htop:m≤CJ ops pl M i:=by
    unfold CJ
    rw [pn]
    refine⟨h1,fun j hj=>?_⟩
    simp only [qU,cB,aB,ax] at hj
    obtain⟨hjn,hjs,hjr⟩:=hj
    rcases eI (ii pl j) m with hlt | hge
    ·have hl:=(h3 j hjs).2 hlt
     obtain⟨oj,hoj⟩:∃ oj,ops[j]? = some oj:=⟨ops[j]'(by omega),bN (by omega)⟩
     obtain⟨e,he,hb,heq⟩:=e_ hoj hjr
     have:=h6 j oj hoj hl e he hb
     rw [heq] at this
     rw [iv this] at hu;cases hu
    ·exact hge
   refine(hs m htop env hdp).mono ?_
   rintro env' S' ⟨rfl,rfl⟩
   refine⟨m,h1,rfl,fun j hj=>?_,fun j d' v' hj hl=>?_,fun t ht=>?_,h6'⟩
   ·have hji:i≠j:=by rintro rfl;rw [stN hj] at hf;cases hf
    rw [getD_set_ne true hji]
    exact h3 j hj
   ·by_cases hji:j=i
    ·subst hji
     rw [hf] at hj;cases hj
     simp [eO]
    ·have hde:d'≠d:=by
      rintro rfl
      obtain⟨a,b,hab⟩:∃ a b,(a<b∧pl[a]? = some (some (d',if a=j then v' else v))∧pl[b]? = some (some (d',if b=j then v' else v))):=by
       rcases Nat.lt_or_gt_of_ne hji with h | h
       ·exact⟨j,i,h,by rw [if_pos rfl];exact hj,by rw [if_neg (Ne.symm hji)];exact hf⟩
       ·exact⟨i,j,h,by rw [if_neg (Ne.symm hji)];exact hf,by rw [if_pos rfl];exact hj⟩
      obtain⟨hlt,ha,hb⟩:=hab
      have e1:pl=pl.take b++pl.drop b:=(List.take_append_drop b pl).symm
      rw [e1,List.filterMap_append,iu] at hnd
      refine hnd.2.2 d' ?_ d' ?_ rfl
      ·exact tw.2 ⟨_,aI (i:=a) (by rw [bu,if_pos hlt];exact ha),rfl⟩
      ·exact tw.2 ⟨_,aI (i:=0) (by rw [dr];exact hb),rfl⟩
     rw [show eO env d v d'=env d' by simp [eO,hde]]
     rw [getD_set_ne true (Ne.symm hji)] at hl
     exact h4 j d' v' hj hl
   ·have hne:t≠d:=by
     rintro rfl
     have:=aF.1 ht _ (aI hf)
     simp at this
    rw [show eO env d v t=env t by simp [eO,hne]]
    exact h5 t ht
end
end Go.Fen
namespace Go.Fen
open Go.RowKit Go.MapKept
section
variable {P:Program}{w0 w:World}{ι:List Pl}{ψ:eA}{S:List aH}
theorem xX {l:List MapEntry} (hn:(l.map (·.born)).Nodup){j:Nat}{m:MapEntry} (hj:l[j]? = some m):l.findIdx? (fun e=>(e.born:Int)==(m.born:Int))=some j:=by
 rw [List.findIdx?_eq_some_iff_getElem]
 have hl:=(aw.1 hj).1
 refine⟨hl, ?_,fun i hi=>?_⟩
 ·rw [(aw.1 hj).2];simp
 ·simp only [beq_iff_eq,Int.natCast_inj]
  intro e
  have e1:(l.map (·.born))[i]? = some m.born:=by
   rw [aQ,aC (by omega)];simp [e]
  have e2:(l.map (·.born))[j]? = some m.born:=by rw [aQ,hj];rfl
  have:=(ye (i:=i) (j:=j) (by simp;omega) hn).1 (e1.trans e2.symm)
  omega
theorem zf (h:di w0 ι ψ S w){t kt et:TypeId}{m k v z:AV}{cm ck cv:Value}{S':List aH} (hu:P.underlying t=some (.map kt et)) (hz:lf P et=some z) (hm:VR ι ψ m cm) (hk:VR ι ψ k ck) (hv:VR ι ψ v cv) (he:eF P S t m k v=some S') :
  ∃ zv b w1 w',(tS t cm ck).run P w=.ok (.tuple #[zv,goInt b]) w1∧(rd t cm (goInt b) cv).run P w1=.ok () w'∧di w0 ι ψ S' w':=by
 obtain⟨w',hw',hR'⟩:=jg (P:=P) h hm hk hv he
 obtain⟨zc,hzc,_⟩:=jA (P:=P) (w:=w) (ι:=ι) (ψ:=ψ) hz
 unfold eF at he
 cases m<;>simp only [hu] at he<;>try (cases he;done)
 ·next a =>
  split at he
  ·next es hS =>
   split at he
   ·next hc =>
    simp only [aB,aF] at hc
    cases hm with
    | mown _ pl hpl =>
     obtain⟨h0,hn,⟨me,clk,l,h1,h2,h3,h4,h5⟩,h6⟩:=h.blk a _ pl hS hpl
     have hck:(lA false 10000 kt ck).run P w=.ok () w:=p_ hc.1 hk false w
     have hlt:=eG h1
     rcases qb (P:=P) hk h3 hn h4 hc.1 hc.2 with⟨e1,e2⟩ | ⟨j,e,m,e1,e2,e3,e4,e5,e6⟩
     ·have hf:=e2 w
      simp [nK,run_underlying hu,db h1,hck,hf,run_setObj_map _ h1] at hw'
      have hidx:(me.push { key:=ck,val:=zc,born:=clk }).findIdx? (fun e=>(e.born:Int)==(clk:Int))=some me.size:=by
       rw [← de (xs:=Array.push _ _),zF]
       have hnd:((me.push { key:=ck,val:=zc,born:=clk }).toList.map (·.born)).Nodup:=by
        simp only [EW,co,iu]
        refine⟨h2.2,by simp, ?_⟩
        intro x hx y hy
        simp at hy;subst hy
        obtain⟨m,hm,rfl⟩:=aX.1 hx
        have:=h2.1 m hm
        omega
       exact xX hnd (m:={ key:=ck,val:=zc,born:=clk }) (by simp)
      refine⟨zc,clk,w.putObj pl.blk (.map (me.push { key:=ck,val:=zc,born:=clk }) (clk+1)),w', ?_, ?_,hR'⟩
      ·simp [tS,run_underlying hu,db h1,hck,hf,hzc,run_setObj_map _ h1,nN]
      ·have g1:(w.putObj pl.blk (.map (me.push { key:=ck,val:=zc,born:=clk }) (clk+1))).heap[pl.blk]? = some (.map (me.push { key:=ck,val:=zc,born:=clk }) (clk+1)):=eD hlt
       have hmod:(me.push { key:=ck,val:=zc,born:=clk }).modify me.size (fun e=>{ e with val:=cv })=me.push { key:=ck,val:=cv,born:=clk }:=by
        apply ma
        intro i
        rw [dG]
        by_cases hi:me.size=i
        ·subst hi;simp
        ·rw [if_neg hi];simp [Array.getElem?_push,Ne.symm hi]
       simp [rd,db g1,goInt,asInt,asIntOf,hidx,run_setObj_map _ g1,hmod]
       rw [← hw']
       simp [nN]
     ·have hf:=e6 w
      have hjl:j<me.size:=by have:=(aw.1 e3).1;simpa using this
      have hmj:me[j]? = some m:=by simpa using e3
      have hmj':me[j]=m:=by simpa [hjl] using hmj
      have hst:(HQ ck ck).run P w=.ok ck w:=uj hc.1 hk w
      simp [nK,run_underlying hu,db h1,hck,hf,run_setObj_map _ h1,hjl,hmj',e4,hst] at hw'
      have hb:(me.modify j fun e=>{ e with key:=ck }).toList.map (·.born)=me.toList.map (·.born):=by
       apply List.ext_getElem?
       intro i
       simp only [aQ,bR,dG]
       split
       ·cases me[i]?<;>rfl
       ·rfl
      have hidx:(me.modify j fun e=>{ e with key:=ck }).findIdx? (fun e=>(e.born:Int)==(m.born:Int))=some j:=by
       rw [← de (xs:=Array.modify _ _ _),zF]
       exact xX (m:={ m with key:=ck }) (by rw [hb];exact h2.2) (by simp [dG,hmj])
      refine⟨m.val,m.born,w.putObj pl.blk (.map (me.modify j fun e=>{ e with key:=ck }) clk),w', ?_, ?_,hR'⟩
      ·simp [tS,run_underlying hu,db h1,hck,hf,run_setObj_map _ h1,nN,hjl,hmj',e4,hst]
      ·have g1:(w.putObj pl.blk (.map (me.modify j fun e=>{ e with key:=ck }) clk)).heap[pl.blk]? = some (.map (me.modify j fun e=>{ e with key:=ck }) clk):=eD hlt
       have hmod:(me.modify j fun e=>{ e with key:=ck }).modify j (fun e=>{ e with val:=cv })=me.modify j (fun e=>{ e with key:=ck,val:=cv }):=by
        apply ma
        intro i
        rw [dG,dG,dG]
        split
        ·cases me[i]?<;>rfl
        ·rfl
       simp [rd,db g1,goInt,asInt,asIntOf,hidx,run_setObj_map _ g1,hmod]
       rw [← hw']
       simp [nN]
   ·cases he
  ·cases he
end
def tV:Operand→Nat→Bool
 | .tmp s,t=>!(s==t)
 | _,_=>true
theorem oV {x:Operand}{t:Nat} (h:tV x t=true):x≠.tmp t:=by
 rintro rfl
 simp [tV] at h
theorem Cu {P:Program}{w0:World}{n0 N:Nat}{r:Option Nat}{Q:cR}{k:List TI}{env:dK}{S S':List aH}{all:Array Oper}{o1 o2 o3:Oper}{l:List Oper}{t kt et:TypeId}{d e:Nat}{om ok ox:Operand}{z:AV}
  (h1:o1.op=.mapEntry t om ok) (h2:o2.op=.extract (.tmp d) 1) (h3:o3.op=.entryStore t om (.tmp e) ox) (d1:o1.dst=some d) (d2:o2.dst=some e) (d3:o3.dst=none) (g1:o1.guard=none) (g2:o2.guard=none) (g3:o3.guard=none)
  (hN:decide (d<N∧e<N∧N≤DS)=true) (hne:(tV om d&&tV om e&&tV ox d&&tV ox e)=true)
  (hu:P.underlying t=some (.map kt et)) (hz:lf P et=some z) (hs:eF P S t (bK w0 env om) (bK w0 env ok) (bK w0 env ox)=some S')
  (h:ba P w0 n0 N r (.it (.ops all l)::k) Q .normal (eO (eO env d .junk) e .junk) S'):ba P w0 n0 N r (.it (.ops all (o1::o2::o3::l))::k) Q .normal env S:=by
 intro ι ψ w a hR hE
 simp only [decide_eq_true_eq] at hN
 simp only [aB] at hne
 obtain⟨hdN,heN,hND⟩:=hN
 obtain⟨⟨⟨n1,n2⟩,n3⟩,n4⟩:=hne
 replace n1:=oV n1
 replace n2:=oV n2
 replace n3:=oV n3
 replace n4:=oV n4
 obtain⟨zv,b,w1,w',r1,r2,hR'⟩:=zf (P:=P) hR hu hz (hE.eval hR om) (hE.eval hR ok) (hE.eval hR ox) hs
 have wt:∀ (o:Oper) (y:Nat→Option Bool),o.guard=none→jO o y=true:=fun o y hg=>by simp [jO,hg]
 have hda:d<a.tmps.size:=by have:=hE.size;omega
 have ev:∀ (x:Operand) (t:Nat) (c:Value),x≠.tmp t→(a.put (some t) c).eval x=a.eval x:=by
  intro x t c hx
  cases x with
  | tmp s =>
   have hst:t≠s:=fun q=>hx (by rw [q])
   simp [Act.eval,Act.put,aK,ke hst]
  | _=>rfl
 have ev2:∀ (x:Operand) (t s:Nat) (c c':Value),x≠.tmp t→x≠.tmp s→((a.put (some t) c).put (some s) c').eval x=a.eval x:=by
  intro x t s c c' hx hx'
  cases x with
  | tmp q =>
   have hq1:t≠q:=fun y=>hx (by rw [y])
   have hq2:s≠q:=fun y=>hx' (by rw [y])
   simp [Act.eval,Act.put,aK,ke hq1,ke hq2]
  | _=>rfl
 refine ew (wt _ _ g1) (fun c hc=>by rw [hc] at h1;cases h1) ?_
 have s1:(execOp a.eval o1).run P w=.ok (.value (.tuple #[zv,goInt b])) w1:=by simp [execOp,h1,r1]
 rw [s1]
 show wpListIn (FR r) 0 P all _ (o2::o3::l) (a.put o1.dst (.tuple #[zv,goInt b])) w1
 rw [d1]
 refine ew (wt _ _ g2) (fun c hc=>by rw [hc] at h2;cases h2) ?_
 have s2:(execOp (a.put (some d) (.tuple #[zv,goInt b])).eval o2).run P w1=.ok (.value (goInt b)) w1:=by
  have:(a.put (some d) (.tuple #[zv,goInt b])).eval (.tmp d)=.tuple #[zv,goInt b]:=by
   simp [Act.eval,Act.put,aK,hda]
  simp [execOp,h2,this,Instr.extract]
 rw [s2]
 show wpListIn (FR r) 0 P all _ (o3::l) ((a.put (some d) (.tuple #[zv,goInt b])).put o2.dst (goInt b)) w1
 rw [d2]
 refine ew (wt _ _ g3) (fun c hc=>by rw [hc] at h3;cases h3) ?_
 have s3:(execOp ((a.put (some d) (.tuple #[zv,goInt b])).put (some e) (goInt b)).eval o3).run P w1=.ok .skip w':=by
  have e1:((a.put (some d) (.tuple #[zv,goInt b])).put (some e) (goInt b)).eval (.tmp e)=goInt b:=by
   have:e<a.tmps.size:=by have:=hE.size;omega
   simp [Act.eval,Act.put,aK,this]
  simp [execOp,h3,ev2 om _ _ _ _ n1 n2,ev2 ox _ _ _ _ n3 n4,e1,r2]
 rw [s3]
 show wpListIn (FR r) 0 P all _ l (((a.put (some d) (.tuple #[zv,goInt b])).put (some e) (goInt b)).put o3.dst undef) w'
 rw [d3]
 have hE':gr ι ψ N (eO (eO env d .junk) e .junk) ((a.put (some d) (.tuple #[zv,goInt b])).put (some e) (goInt b)) :=
  (hE.put (.junk _) hdN).put (.junk _) heN
 exact h ι ψ w' _ hR' hE'
end Go.Fen
namespace Go.Fen
open Go.RowKit
end Go.Fen
namespace Go.Fen
open Go.RowKit Go.ChangeShapes
inductive Sk where
 | int (k:IntKind)
 | bool
 | str
 | sl (e:Sk)
 | nil
 | cons (a:Sk) (r:Sk)
namespace Sk
def size:Sk→Nat
 | nil=>0
 | cons a r=>a.size+r.size
 | _=>1
def isAgg:Sk→Bool
 | nil | cons _ _=>true
 | _=>false
def mk (s:Sk) (cs:List AV):AV:=if s.isAgg then .agg cs else cs.headD .junk
def has:Sk→List AV→Prop
 | int k,xs=>∃ n,xs=[.int k n]∧(Lit.int k n).wf=true
 | bool,xs=>∃ b,xs=[.bool b]
 | str,xs=>∃ s,xs=[.str s]∧s.length≤maxLen
 | sl e,xs=>∃ els:List (List AV),xs=[.sval false (els.map e.mk)]∧els.length≤maxLen∧∀ y∈els,e.has y
 | nil,xs=>xs=[]
 | cons a r,xs=>∃ y z,xs=y++z∧a.has y∧r.has z
def rep (s:Sk):Nat→Sk
 | 0=>nil
 | n+1=>cons s (rep s n)
def fields (P:Program) (f:TypeId→Option Sk):Nat→List Field→Option Sk
 | _,[]=>some nil
 | o,x::l=>match f x.type with
  | some s=>if x.offset=o∧P.cellsOf x.type=s.size then (fields P f (o+s.size) l).map (cons s) else none
  | none=>none
def of (P:Program):Nat→TypeId→Option Sk
 | 0,_=>none
 | n+1,t=>match P.underlying t with
  | some (.int k)=>some (.int k)
  | some .bool=>some .bool
  | some .string=>some .str
  | some (.slice e)=>match of P n e with
   | some s=>if P.cellsOf e=s.size∧0<s.size then some (sl s) else none
   | none=>none
  | some (.struct fs)=>match fields P (of P n) 0 fs.toList with
   | some s=>if P.cellsOf t=s.size then some s else none
   | none=>none
  | some (.array m e)=>match of P n e with
   | some s=>if P.cellsOf e=s.size∧P.cellsOf t=m * s.size then some (rep s m) else none
   | none=>none
  | _=>none
theorem has_size:∀ {s:Sk}{xs:List AV},s.has xs→xs.length=s.size
 | int _,_,⟨_,h,_⟩=>by subst h;rfl
 | bool,_,⟨_,h⟩=>by subst h;rfl
 | str,_,⟨_,h,_⟩=>by subst h;rfl
 | sl _,_,⟨_,h,_⟩=>by subst h;rfl
 | nil,_,h=>by cases h;rfl
 | cons _ _,_,⟨y,z,h,h1,h2⟩=>by subst h;simp [size,has_size h1,has_size h2]
theorem mk_cells {s:Sk}{xs:List AV} (h:s.has xs):(s.mk xs).cells=xs:=by
 cases s<;>try rfl
 ·obtain⟨n,rfl,_⟩:=h;rfl
 ·obtain⟨n,rfl⟩:=h;rfl
 ·obtain⟨n,rfl,_⟩:=h;rfl
 ·obtain⟨n,rfl,_⟩:=h;rfl
end Sk
def vl (W:World):eA:=⟨fun b o=>W.cell? ⟨b,o,none⟩,fun _=>none⟩
theorem di.start (W:World):di W [] (vl W) [] W:=by
 refine⟨Ch _ _,fun _ _ _ h=>h,fun b es c h=>(by cases h),rfl,fun i B pl h=>(by simp at h),fun _ _ _ _ h=>h,fun i j B C p q k h=>(by simp at h)⟩
section
variable {H:Type}{enc:TypeId × Value→H}{P:Program}{W:World}{base:Nat}{spare:Nat→Bool}{held:Bool}
def jT (W:World) (xs:List AV) (cs:List Value):Prop:=xs.length=cs.length∧∀ (j:Nat) (x:AV) (v:Value),xs[j]? = some x→cs[j]? = some v→x.leaf=true∧VR [] (vl W) x v
theorem jT.one {x:AV}{v:Value} (hl:x.leaf=true) (h:VR [] (vl W) x v):jT W [x] [v] :=
 ⟨rfl,fun j y u h1 h2=>by
  cases j with
  | zero=>cases h1;cases h2;exact⟨hl,h⟩
  | succ j=>simp at h1⟩
theorem jT.append {xs ys:List AV}{cs ds:List Value} (h:jT W xs cs) (h':jT W ys ds):jT W (xs++ys) (cs++ds):=by
 refine⟨by simp [h.1,h'.1],fun j x v h1 h2=>?_⟩
 by_cases hj:j<xs.length
 ·rw [aJ hj] at h1
  rw [aJ (by rw [← h.1];exact hj)] at h2
  exact h.2 j x v h1 h2
 ·rw [aM (by omega)] at h1
  rw [aM (by rw [← h.1];omega),← h.1] at h2
  exact h'.2 _ x v h1 h2
theorem uY {a:Addr}{v:Value} (h:W.cell? a=some v):a.spot=none:=by
 unfold qs at h
 split at h
 ·split at h
  ·cases h
  ·next hs=>simpa using hs
 ·cases h
theorem sY {a:Addr}{n:Nat}{l:List Value} (h:W.cells? base a n=some l):l.length=n∧∀ j v,l[j]? = some v→W.cell? (a.add j)=some v:=by
 unfold World.cells? at h
 split at h
 ·refine⟨by simpa using oM h,fun j v hv=>?_⟩
  have hj:j<n:=by have:=(aw.1 hv).1;have h2:=oM h;simp at h2;omega
  obtain⟨b,hb,hf⟩:=qv h j j (by simp [hj])
  rw [hv] at hb;cases hb
  exact hf
 ·cases h
theorem Mz {cs:List Value}{o n m:Nat} (h:cs.length=o+(n+m)):(cs.drop o).take n++cs.drop (o+n)=cs.drop o:=by
 rw [← List.drop_drop,List.take_append_drop]
theorem xj {n:Nat}{fuel:Nat} (ih:∀ (t:TypeId) (s:Sk) (cs:List Value) (x:DataW H × List MemPlace),Sk.of P n t=some s→DataW.trod enc P W base spare held fuel t cs=some x→cs.length=s.size∧∃ xs,s.has xs∧jT W xs cs) :
  ∀ (fs:List Field) (o:Nat) (s:Sk) (cs:List Value) (r:List (DataW H × List MemPlace)),Sk.fields P (Sk.of P n) o fs=some s→(fs.mapM fun f=>DataW.trod enc P W base spare held fuel f.type ((cs.drop f.offset).take (P.cellsOf f.type)))=some r →
   cs.length=o+s.size→∃ xs,s.has xs∧jT W xs (cs.drop o):=by
 intro fs
 induction fs with
 | nil =>
  intro o s cs r hs _ hl
  cases hs
  refine⟨[],rfl, ?_⟩
  rw [jM (by simp [Sk.size] at hl;omega)]
  exact⟨rfl,fun j x v h=>by simp at h⟩
 | cons f fs ihf =>
  intro o s cs r hs hm hl
  simp only [Sk.fields] at hs
  split at hs
  ·next s1 h1 =>
   split at hs
   ·next hc =>
    obtain⟨hc1,hc2⟩:=hc
    obtain⟨s2,h2,rfl⟩:=aW.1 hs
    simp only [List.mapM_cons,zC,gz,EG,bM] at hm
    obtain⟨b,hb,r',hr',rfl⟩:=hm
    simp only [Sk.size] at hl
    rw [hc1,hc2] at hb
    obtain⟨_,ys,hy,hyr⟩:=ih f.type s1 _ b h1 hb
    obtain⟨zs,hz,hzr⟩:=ihf (o+s1.size) s2 cs r' h2 hr' (by omega)
    refine⟨ys++zs,⟨ys,zs,rfl,hy,hz⟩, ?_⟩
    rw [← Mz (o:=o) (n:=s1.size) (m:=s2.size) (by omega)]
    exact hyr.append hzr
   ·cases hs
  ·cases hs
theorem Dx {s:Sk}{c:Nat} (hc:c=s.size){g:List Value→Option (DataW H × List MemPlace)} (ih:∀ (cs:List Value) (x:DataW H × List MemPlace),g cs=some x→cs.length=s.size∧∃ xs,s.has xs∧jT W xs cs) :
  ∀ (m k:Nat) (cs:List Value),(∀ i,i<m→∃ x,g ((cs.drop ((k+i) * c)).take c)=some x)→cs.length=(k+m) * c→∃ xs,(s.rep m).has xs∧jT W xs (cs.drop (k * c)):=by
 intro m
 induction m with
 | zero =>
  intro k cs _ hl
  refine⟨[],rfl, ?_⟩
  rw [jM (by simp at hl;omega)]
  exact⟨rfl,fun j x v h=>by simp at h⟩
 | succ m ihm =>
  intro k cs hm hl
  obtain⟨x,hx⟩:=hm 0 (by omega)
  simp only [nP] at hx
  obtain⟨_,ys,hy,hyr⟩:=ih _ x hx
  obtain⟨zs,hz,hzr⟩:=ihm (k+1) cs (fun i hi=>by
   obtain⟨x,hx⟩:=hm (i+1) (by omega)
   exact⟨x,by rw [show k+1+i=k+(i+1) by omega];exact hx⟩) (by rw [hl];congr 1;omega)
  refine⟨ys++zs,⟨ys,zs,rfl,hy,hz⟩, ?_⟩
  have hk:(k+1) * c=k * c+c:=by rw [eL,Hx]
  rw [hk] at hzr
  have hl2:cs.length=k * c+(c+m * c):=by rw [hl,show k+(m+1)=k+1+m by omega,eL,hk];omega
  rw [← Mz (o:=k * c) (n:=c) (m:=m * c) hl2]
  exact hyr.append hzr
theorem Ha {a:Addr} (h:a.spot=none) (i j:Nat):(a.add i).add j=⟨a.block,a.off+i+j,none⟩:=by
 obtain⟨b,o,s⟩:=a
 simp only at h
 subst h
 unfold Addr.add
 by_cases hi:i=0<;>by_cases hj:j=0<;>simp [hi,hj]
theorem wW (s:Sk):∀ m,(s.rep m).size=m * s.size
 | 0=>by simp [Sk.rep,Sk.size]
 | m+1=>by simp [Sk.rep,Sk.size,wW s m,eL];omega
theorem n8:∀ (n:Nat) (t:TypeId) (s:Sk) (fuel:Nat) (cs:List Value) (x:DataW H × List MemPlace),Sk.of P n t=some s→DataW.trod enc P W base spare held fuel t cs=some x→cs.length=s.size∧∃ xs,s.has xs∧jT W xs cs:=by
 intro n
 induction n with
 | zero=>intro t s fuel cs x h;cases h
 | succ n ih =>
  intro t s fuel cs x hs ht
  cases fuel with
  | zero=>simp [DataW.trod] at ht
  | succ fuel =>
  simp only [Sk.of] at hs
  split at hs
  ·next k hu =>
   cases hs
   simp only [DataW.trod,hu] at ht
   match cs,ht with
   | [.int k' m],ht =>
    simp only at ht
    split at ht
    ·next h=>obtain⟨rfl,hw⟩:=h;exact⟨rfl,_,⟨m,rfl,hw⟩,.one rfl (.int _ _)⟩
    ·cases ht
  ·next hu =>
   cases hs
   simp only [DataW.trod,hu] at ht
   match cs,ht with
   | [.bool b],ht=>exact⟨rfl,_,⟨b,rfl⟩,.one rfl (.bool _)⟩
  ·next hu =>
   cases hs
   simp only [DataW.trod,hu] at ht
   match cs,ht with
   | [.string b],ht =>
    simp only at ht
    split at ht
    ·next h=>exact⟨rfl,_,⟨b.data.toList,rfl,by simpa using h⟩,.one rfl (.str _ _ rfl)⟩
    ·cases ht
  ·next e hu =>
   split at hs
   ·next s1 h1 =>
    split at hs
    ·next hc =>
     obtain⟨hce,hpos⟩:=hc
     cases hs
     simp only [DataW.trod,hu] at ht
     match cs,ht with
     | [.slice none 0 0],ht=>exact⟨rfl,_,⟨[],rfl,by simp,by simp⟩,.one rfl (.svnil _)⟩
     | [.slice (some a) len cap],ht =>
      simp only at ht
      split at ht
      ·next hle =>
       obtain⟨_,hlc,hcm⟩:=hle
       obtain⟨els,hels,_⟩:=gz.1 ht
       have hlen:els.length=len:=by simpa using oM hels
       by_cases hlen0:len=0
       ·subst hlen0
        exact⟨rfl,_,⟨[],rfl,by simp,by simp⟩,.one rfl (.sve _ a cap (by simp))⟩
       have hspot:a.spot=none:=by
        obtain⟨y,_,hy⟩:=qv hels 0 0 (Cf (by omega))
        obtain⟨ds,hd,_⟩:=gz.1 hy
        obtain⟨g1,g2⟩:=sY hd
        obtain⟨v,hv⟩:∃ v,ds[0]? = some v:=⟨_,aC (by omega)⟩
        have:=g2 0 v hv
        rw [Nat.zero_mul] at this
        exact uY (by simpa [Addr.add] using this)
       have each:∀ i,∃ q:List AV × List Value,i<len→s1.has q.1∧jT W q.1 q.2∧W.cells? base (a.add (i * s1.size)) s1.size=some q.2:=by
        intro i
        by_cases hi:i<len
        ·obtain⟨y,_,hy⟩:=qv hels i i (by simp [hi])
         obtain⟨ds,hd,hy⟩:=gz.1 hy
         rw [hce] at hd
         obtain⟨_,xs,hx,hxr⟩:=ih e s1 fuel ds y h1 hy
         exact⟨(xs,ds),fun _=>⟨hx,hxr,hd⟩⟩
        ·exact⟨([],[]),fun h=>absurd h hi⟩
       obtain⟨f,hf⟩:=Classical.skolem.1 each
       have hL:(((bJ len).map fun i=>(f i).1).map s1.mk).length=len:=by simp
       have get:∀ (i:Nat) (e:AV),(((bJ len).map fun i=>(f i).1).map s1.mk)[i]? = some e→i<len∧e.cells=(f i).1:=by
        intro i e he
        have hi:i<len:=by have:=(aw.1 he).1;omega
        simp only [List.map_map,aQ] at he
        rw [Cf hi] at he
        cases he
        exact⟨hi,Sk.mk_cells (hf i hi).1⟩
       have at':∀ (i:Nat) (e:AV) (j:Nat) (x:AV),(((bJ len).map fun i=>(f i).1).map s1.mk)[i]? = some e→e.cells[j]? = some x→x.leaf=true∧(vl W).c a.block (a.off+i * s1.size+j)=some ((f i).2.getD j undef)∧VR [] (vl W) x ((f i).2.getD j undef):=by
        intro i e j x he hx
        obtain⟨hi,hc⟩:=get i e he
        rw [hc] at hx
        obtain⟨g1,g2,g3⟩:=hf i hi
        obtain⟨v,hv⟩:∃ v,(f i).2[j]? = some v:=⟨_,aC (by rw [← g2.1];exact(aw.1 hx).1)⟩
        obtain⟨k1,k2⟩:=g2.2 j x v hx hv
        have k3:=(sY g3).2 j v hv
        have:(f i).2.getD j undef=v:=by simp [List.getD,hv]
        rw [this]
        refine⟨k1, ?_,k2⟩
        rw [Ha hspot] at k3
        exact k3
       refine⟨rfl,_,⟨(bJ len).map fun i=>(f i).1,rfl,by simpa using fb hlc hcm,fun y hy=>?_⟩,.one rfl ?_⟩
       ·obtain⟨i,hi,rfl⟩:=aX.1 hy
        exact(hf i (by simpa using hi)).1
       ·have key:=VR.sval (ι:=[]) (ψ:=vl W) s1.size false (((bJ len).map fun i=>(f i).1).map s1.mk) a.block a.off cap (fun i j=>(f i).2.getD j undef) (fun i e he=>?_) (by omega) (by simp) (fun i e j x he hx=>⟨(at' i e j x he hx).1,(at' i e j x he hx).2.1⟩) (fun i e j x he hx=>(at' i e j x he hx).2.2)
        ·rw [hL] at key
         rw [show (some a:Option Addr)=some ⟨a.block,a.off,none⟩ by rw [← hspot]]
         exact key
        ·obtain⟨hi,hc⟩:=get i e he
         rw [hc];exact Sk.has_size (hf i hi).1
      ·cases ht
    ·cases hs
   ·cases hs
  ·next fs hu =>
   split at hs
   ·next s1 h1 =>
    split at hs
    ·next hc =>
     have hs':=bp hs
     subst hs'
     simp only [DataW.trod,hu] at ht
     split at ht
     ·next hl =>
      obtain⟨xs,hm,_⟩:=aW.1 ht
      obtain⟨ys,hy,hyr⟩:=xj (fun t s cs x=>ih t s fuel cs x) fs.toList 0 s1 cs xs h1 hm (by omega)
      exact⟨by omega,ys,hy,by simpa using hyr⟩
     ·cases ht
    ·cases hs
   ·cases hs
  ·next m e hu =>
   split at hs
   ·next s1 h1 =>
    split at hs
    ·next hc =>
     obtain⟨hc1,hc2⟩:=hc
     have hs':=bp hs
     subst hs'
     simp only [DataW.trod,hu] at ht
     split at ht
     ·next hl =>
      obtain⟨xs,hm,_⟩:=aW.1 ht
      obtain⟨ys,hy,hyr⟩:=Dx (s:=s1) hc1 (g:=DataW.trod enc P W base spare held fuel e) (fun cs x hx=>ih e s1 fuel cs x h1 hx) m 0 cs (fun i hi=>by
       obtain⟨y,_,hy⟩:=qv hm i i (by simp [hi])
       exact⟨y,by simpa using hy⟩) (by rw [hl,hc2,hc1];simp)
      refine⟨by rw [hl,hc2,wW],ys,hy,by simpa using hyr⟩
     ·cases ht
    ·cases hs
   ·cases hs
  ·cases hs
def Sk.pln:Sk→Bool
 | .int _=>true
 | .bool=>true
 | .nil=>true
 | .cons a r=>a.pln&&r.pln
 | _=>false
def yV:Nat→DataW H→List Value
 | _+1,.lit (.int k n)=>[.int k n]
 | _+1,.lit (.bool b)=>[.bool b]
 | m+1,.agg l=>l.flatMap (yV m)
 | _,_=>[]
theorem FX {s:Sk}:∀ m,(s.rep m).pln=true→m=0∨s.pln=true
 | 0,_=>.inl rfl
 | m+1,h=>by
  simp only [Sk.rep,Sk.pln,aB] at h
  exact .inr h.1
theorem xo {c M:Nat}{cs:List Value}:∀ (xs:List (DataW H × List MemPlace)) (k:Nat),(∀ i b,xs[i]? = some b→yV M b.1=(cs.drop ((k+i) * c)).take c)→cs.length=(k+xs.length) * c→(xs.map (·.1)).flatMap (yV M)=cs.drop (k * c)
 | [],k,_,hl=>by
  rw [jM (by rw [hl];simp)]
  rfl
 | x::xs,k,h,hl=>by
  have h0:=h 0 x rfl
  have ih:=xo (c:=c) (M:=M) (cs:=cs) xs (k+1) (fun i b hb=>by rw [show k+1+i=k+(i+1) by omega];exact h (i+1) b (by simpa using hb)) (by rw [hl,ah];congr 1;omega)
  have hk:(k+1) * c=k * c+c:=by rw [eL,Hx]
  rw [aG,kY,h0,ih,hk,nP]
  exact Mz (m:=xs.length * c) (by rw [hl,ah,show k+(xs.length+1)=k+1+xs.length by omega,eL,hk];omega)
theorem AU:∀ (fuel n:Nat) (t:TypeId) (s:Sk) (cs:List Value) (x:DataW H × List MemPlace),Sk.of P n t=some s→s.pln=true→DataW.trod enc P W base spare held fuel t cs=some x→∀ M,fuel≤M→yV M x.1=cs:=by
 intro fuel
 induction fuel with
 | zero=>intro n t s cs x _ _ ht;simp [DataW.trod] at ht
 | succ fuel ih =>
  intro n t s cs x hs hp ht M hM
  obtain⟨M,rfl⟩:∃ M',M=M'+1:=⟨M - 1,by omega⟩
  have hsz:=(n8 n t s (fuel+1) cs x hs ht).1
  cases n with
  | zero=>cases hs
  | succ n =>
  simp only [Sk.of] at hs
  split at hs
  ·next k hu =>
   simp only [DataW.trod,hu] at ht
   match cs,ht with
   | [.int k' m],ht =>
    simp only at ht
    split at ht
    ·next h=>obtain⟨rfl,_⟩:=h;cases ht;rfl
    ·cases ht
  ·next hu =>
   simp only [DataW.trod,hu] at ht
   match cs,ht with
   | [.bool b],ht=>cases ht;rfl
  ·cases hs;cases hp
  ·split at hs
   ·split at hs
    ·cases hs;cases hp
    ·cases hs
   ·cases hs
  ·next fs hu =>
   split at hs
   ·next s1 h1 =>
    split at hs
    ·next hc =>
     have hs':=bp hs
     subst hs'
     simp only [DataW.trod,hu] at ht
     split at ht
     ·next hl =>
      obtain⟨xs,hm,rfl⟩:=aW.1 ht
      have key:∀ (fs:List Field) (o:Nat) (s:Sk) (r:List (DataW H × List MemPlace)),Sk.fields P (Sk.of P n) o fs=some s→s.pln=true→(fs.mapM fun f=>DataW.trod enc P W base spare held fuel f.type ((cs.drop f.offset).take (P.cellsOf f.type)))=some r →
        cs.length=o+s.size→(r.map (·.1)).flatMap (yV M)=cs.drop o:=by
       intro fs
       induction fs with
       | nil =>
        intro o s r hs _ hm hl
        cases hs
        simp at hm
        subst hm
        rw [jM (by simp [Sk.size] at hl;omega)]
        rfl
       | cons f fs ihf =>
        intro o s r hs hp hm hl
        simp only [Sk.fields] at hs
        split at hs
        ·next s2 h2 =>
         split at hs
         ·next hc =>
          obtain⟨hc1,hc2⟩:=hc
          obtain⟨s3,h3,rfl⟩:=aW.1 hs
          simp only [List.mapM_cons,zC,gz,EG,bM] at hm
          obtain⟨b,hb,r',hr',rfl⟩:=hm
          simp only [Sk.size] at hl
          simp only [Sk.pln,aB] at hp
          rw [hc1,hc2] at hb
          have e1:=ih n f.type s2 _ b h2 hp.1 hb M (by omega)
          have e2:=ihf (o+s2.size) s3 r' h3 hp.2 hr' (by omega)
          rw [aG,kY,e1,e2]
          exact Mz (m:=s3.size) (by omega)
         ·cases hs
        ·cases hs
      have:=key fs.toList 0 s1 xs h1 hp hm (by omega)
      simpa [yV] using this
     ·cases ht
    ·cases hs
   ·cases hs
  ·next m e hu =>
   split at hs
   ·next s1 h1 =>
    split at hs
    ·next hc =>
     obtain⟨hc1,hc2⟩:=hc
     have hs':=bp hs
     subst hs'
     simp only [DataW.trod,hu] at ht
     split at ht
     ·next hl =>
      obtain⟨xs,hm,rfl⟩:=aW.1 ht
      have hxl:xs.length=m:=by simpa using oM hm
      have:=xo (c:=P.cellsOf e) (M:=M) (cs:=cs) xs 0 (fun i b hb=>by
       have hi:i<m:=by have:=(aw.1 hb).1;omega
       obtain⟨y,hy1,hy2⟩:=qv hm i i (by simp [hi])
       rw [hb] at hy1;cases hy1
       rcases FX m hp with h0 | h0
       ·omega
       ·rw [dw];exact ih n e s1 _ b h1 h0 hy2 M (by omega)) (by rw [hl,hc2,hc1,hxl];simp)
      simpa [yV] using this
     ·cases ht
    ·cases hs
   ·cases hs
  ·cases hs
end
end Go.Fen
namespace Go.Fen
open Go.RowKit Go.ChangeShapes
section
variable {H:Type}{enc:TypeId × Value→H}{P:Program}{W:World}{base:Nat}{spare:Nat→Bool}{held:Bool}
theorem Ga {b2 n:Nat}{t:TypeId}{s:Sk}{v:Value}{d:DataW H}{ps:List MemPlace} (hs:Sk.of P n t=some s) (h:DataW.Trod enc P W base spare held t v d ps) (hok:wj P W .any b2 t v):∃ xs,s.has xs∧VR [] (vl W) (s.mk xs) v:=by
 obtain⟨fuel,ht⟩:=h
 unfold wj at hok
 by_cases hag:(∃ fs,P.underlying t=some (.struct fs))∨∃ m e,P.underlying t=some (.array m e)
 ·have hv:∃ cs,v=.agg cs∧cs.size=P.cellsOf t∧Row.okWide P W .any b2 t cs:=by
   rcases hag with⟨fs,hu⟩ | ⟨m,e,hu⟩<;>rw [hu] at hok<;>exact hok
  obtain⟨cs,rfl,_,ts,_,_,hrow⟩:=hv
  obtain⟨hl,xs,hx,hr⟩:=n8 n t s fuel _ _ hs ht
  refine⟨xs,hx, ?_⟩
  have hagg:s.mk xs=.agg xs:=by
   cases n with
   | zero=>cases hs
   | succ n =>
   simp only [Sk.of] at hs
   rcases hag with⟨fs,hu⟩ | ⟨m,e,hu⟩
   ·simp only [hu] at hs
    split at hs
    ·next s1 h1 =>
     split at hs
     ·have hs':=bp hs
      subst hs'
      cases fl:fs.toList with
      | nil=>rw [fl] at h1;cases h1;rfl
      | cons f l =>
       rw [fl] at h1
       simp only [Sk.fields] at h1
       split at h1
       ·split at h1
        ·obtain⟨s2,_,rfl⟩:=aW.1 h1;rfl
        ·cases h1
       ·cases h1
     ·cases hs
    ·cases hs
   ·simp only [hu] at hs
    split at hs
    ·split at hs
     ·have hs':=bp hs
      subst hs'
      cases m<;>rfl
     ·cases hs
    ·cases hs
  rw [hagg]
  refine .agg xs cs (by simpa [B9] using hr.1) fun j x v h1 h2=>(hr.2 j x v h1 (by simpa [B9] using h2)).2
 ·have hcell:Cell.okWide P W .any b2 t v:=by
   split at hok
   ·next fs hu=>exact absurd (.inl ⟨fs,hu⟩) hag
   ·next m e hu=>exact absurd (.inr ⟨m,e,hu⟩) hag
   ·exact hok
  have hnotagg:∀ cs,v≠.agg cs:=by
   rintro cs rfl
   have h2:Cell.ok P W .any b2 t (.agg cs):=by
    unfold Cell.okWide at hcell
    split at hcell<;>first | exact hcell | (rename_i h3;cases h3) | (rename_i h3 h4;cases h4)
   unfold Cell.ok at h2
   split at h2<;>first | (rename_i h3 h4;cases h4;done) | cases h2
  have hc:v.cells.toList=[v]:=by
   cases v<;>first | rfl | exact absurd rfl (hnotagg _)
  rw [hc] at ht
  obtain⟨hl,xs,hx,hr⟩:=n8 n t s fuel _ _ hs ht
  refine⟨xs,hx, ?_⟩
  have hna:s.isAgg=false:=by
   cases n with
   | zero=>cases hs
   | succ n =>
   simp only [Sk.of] at hs
   split at hs
   ·cases hs;rfl
   ·cases hs;rfl
   ·cases hs;rfl
   ·split at hs
    ·split at hs
     ·cases hs;rfl
     ·cases hs
    ·cases hs
   ·next fs hu=>exact absurd (.inl ⟨fs,hu⟩) hag
   ·next m e hu=>exact absurd (.inr ⟨m,e,hu⟩) hag
   ·cases hs
  have h1:xs.length=1:=hr.1
  match xs,h1 with
  | [x],_ =>
   have:s.mk [x]=x:=by simp [Sk.mk,hna]
   rw [this]
   exact(hr.2 0 x v rfl rfl).2
def iG:List Sk→List AV→Prop
 | [],[]=>True
 | s::l,x::r=>(∃ xs,s.has xs∧x=s.mk xs)∧iG l r
 | _,_=>False
theorem iG.cons' {s:Sk}{l:List Sk}{avs:List AV} (h:iG (s::l) avs):∃ y r,s.has y∧avs=s.mk y::r∧iG l r:=by
 cases avs with
 | nil=>exact h.elim
 | cons x r =>
  obtain⟨⟨xs,hx,e⟩,h2⟩:=h
  exact⟨xs,r,hx,by rw [e],h2⟩
theorem iG.nil' {avs:List AV} (h:iG [] avs):avs=[]:=by
 cases avs with
 | nil=>rfl
 | cons x r=>exact h.elim
theorem Dy {b2 n:Nat}:∀ (ts:List TypeId) (vs:List Value) (ds:List (DataW H)) (ps:List MemPlace) (sks:List Sk),DataW.TrodAll enc P W base spare held ts vs ds ps→ts.map (Sk.of P n)=sks.map some →
  (∀ (j:Nat) t v,ts[j]? = some t→vs[j]? = some v→wj P W .any b2 t v)→∃ avs,iG sks avs∧avs.length=vs.length∧∀ (j:Nat) (x:AV) (v:Value),avs[j]? = some x→vs[j]? = some v→VR [] (vl W) x v:=by
 intro ts
 induction ts with
 | nil =>
  intro vs ds ps sks h hsk _
  obtain⟨rfl,rfl,rfl⟩:=trodAll_nil h
  cases sks with
  | nil=>exact⟨[],trivial,rfl,fun j x v h=>by simp at h⟩
  | cons _ _=>simp at hsk
 | cons t ts ih =>
  intro vs ds ps sks h hsk hok
  obtain⟨v,vs',d,ds',p,q,rfl,rfl,rfl,h0,hr⟩:=trodAll_cons h
  cases sks with
  | nil=>simp at hsk
  | cons s sks =>
   simp only [aG,np] at hsk
   obtain⟨xs,hx,hv⟩:=Ga hsk.1 h0 (hok 0 t v rfl rfl)
   obtain⟨avs,ha,hl,hvr⟩:=ih vs' ds' q sks hr hsk.2 (fun j t v h1 h2=>hok (j+1) t v h1 h2)
   refine⟨s.mk xs::avs,⟨⟨xs,hx,rfl⟩,ha⟩,by simp [hl],fun j x u h1 h2=>?_⟩
   cases j with
   | zero=>cases h1;cases h2;exact hv
   | succ j=>exact hvr j x u h1 h2
theorem tC (hl:laidOutB P=true){W':World} (hb:Below W.heap.size W W'):∀ (ts:List TypeId) (vs:List Value) (ds:List (DataW H)) (ps:List MemPlace),(∀ t∈ts,P.readableRec t=true∧t<P.types.size) →
  DataW.TrodAll enc P W 0 (fun _=>true) true ts vs ds ps→(∀ x∈ps,x.block<W.heap.size)→DataW.TrodAll enc P W' 0 (fun b=>decide (b<W.heap.size)) true ts vs ds ps:=by
 intro ts
 induction ts with
 | nil =>
  intro vs ds ps _ h _
  obtain⟨rfl,rfl,rfl⟩:=trodAll_nil h
  exact rfl
 | cons t ts ih =>
  intro vs ds ps hr h hlt
  obtain⟨v,vs',d,ds',p,q,rfl,rfl,rfl,h0,hrest⟩:=trodAll_cons h
  exact⟨p,q,Below.trod hl (hr t (dL ..)).1 (hr t (dL ..)).2 h0 hb (fun x hx=>hlt x (by simp [hx])),ih vs' ds' q (fun t ht=>hr t (ia _ ht)) hrest (fun x hx=>hlt x (by simp [hx])),rfl⟩
theorem nD {f:FuncId}{fn:Func}{s:ChangeSpec}{n:Nat} (sks:List Sk){fresh handsOn:Bool} (hl:laidOutB P=true) (hps:∀ t∈fn.params.toList,P.readableRec t=true∧t<P.types.size) (hsk:fn.params.toList.map (Sk.of P n)=sks.map some)
  {tb:TypeId} (hres:fn.resultTypes=#[tb]) (htb:P.underlying tb=some .bool) (hvars:s.vars=[])
  {args:Array Value}{ds gs:List (DataW H)}{before:List MemPlace} (hspec:ds.length=fn.params.size→s.fn H (ds++[])={ results:=[.lit (.bool true)],args:=ds })
  (hW:DataW.Whole enc P fn.params.toList s.vars false W args.toList ds gs before) (hval:∀ (j:Nat) t v,fn.params[j]? = some t→args[j]? = some v→wj P W .any base t v)
  (k:∀ avs,iG sks avs→az P W f avs [] (fun out _=>out=.ret (.bool true))) :
  Calls P f args W fun e W'=>∃ v,e=.returned v∧s.post enc P fn false fresh handsOn false W args v W':=by
 have hW':=hW
 obtain⟨p,q,hA,hV,hbq,hfz,hnd⟩:=hW
 have hlt:∀ x∈before,x.block<W.heap.size:=fun x hx=>by simpa using hW'.lt x hx
 have hlen:ds.length=fn.params.size:=by
  have key:∀ (ts:List TypeId) (vs:List Value) (ds:List (DataW H)) (ps:List MemPlace),DataW.TrodAll enc P W 0 (fun _=>true) true ts vs ds ps→ds.length=ts.length:=by
   intro ts
   induction ts with
   | nil=>intro vs ds ps h;obtain⟨_,rfl,_⟩:=trodAll_nil h;rfl
   | cons t ts ih=>intro vs ds ps h;obtain⟨v,vs',d,ds',p,q,_,rfl,_,_,hr⟩:=trodAll_cons h;simp [ih _ _ _ hr]
  simpa using key _ _ _ _ hA
 rw [hvars] at hV
 cases gs with
 | cons _ _=>exact absurd hV (by simp [DataW.TrodVars])
 | nil =>
 obtain rfl:q=[]:=by simpa [DataW.TrodVars] using hV
 obtain⟨avs,ha,hal,hvr⟩:=Dy (b2:=base) _ _ _ _ sks hA hsk (fun j t v h1 h2=>hval j t v (by simpa using h1) (by simpa using h2))
 obtain⟨_,hk⟩:=k avs ha
 refine(hk [] (vl W) W args (di.start W) (by simpa using hal) (fun j x c h1 h2=>hvr j x c h1 (by simpa using h2))).mono ?_
 rintro e W' ⟨ι',ψ',out,S',_,hR,ho,rfl⟩
 have he:e=.returned (.bool true):=by
  cases e with
  | returned v=>rw [VR.bool_inv (show VR ι' ψ' (.bool true) v from ho)]
  | _=>exact absurd ho (by simp [nh])
 subst he
 refine⟨_,rfl,ds,[],before,[],before,[],hW', ?_, ?_, ?_,hR.below.frame _,fun h=>by cases h⟩
 ·rw [hspec hlen,hres]
  simp only [fj,ah,aj]
  exact trodAll_mk1 (shut_bool htb _)
 ·rw [hspec hlen,hbq,aP]
  exact tC hl hR.below _ _ _ _ hps hA (fun x hx=>hlt x (by rw [hbq];simp [hx]))
 ·rw [hspec hlen,hvars]
  exact rfl
end
end Go.Fen
