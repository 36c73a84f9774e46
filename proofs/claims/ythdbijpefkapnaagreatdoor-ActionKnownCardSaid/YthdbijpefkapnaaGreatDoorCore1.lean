/- YthdbijpefkapnaaGreatDoorCore1. Texts of the proof of a law about texts: a layer of abstract values above the worlds, the types, the walks of the functions that the law reaches, the law and its card. Own work of an AI agent. -/
import Derived.Test.YthdbijpefkapnaaGreatDoorCore0
import Derived.TacticsIn
import Derived.OrdersIn
import Derived.RangeFuncIn
import Derived.RecoverIn
import Derived.Lib.Hide
import Derived.Laws.Externs
import Derived.Lib.ConvBytes
import Derived.Lib.AtoiErrMem
set_option linter.all false
set_option linter.unusedVariables false
set_option linter.unusedSimpArgs false
open Array renaming any_eq_false' → wE, eq_empty_of_size_eq_zero → nT, ext_getElem? → jg, getD_eq_getD_getElem? → ay, getElem?_append_left → fq, getElem?_eq_getElem → a_, getElem?_eq_none → bS, getElem?_eq_some_iff → bO, getElem?_map → je, getElem?_setIfInBounds → bF, getElem?_toList → a7, isEmpty_eq_false_iff → p5, length_toList → c_, mapM_eq_mapM_toList → jw, replicate → bI, size_pos_iff → xU, toList_filter → wD, toList_inj → Cp
open Bool renaming and_assoc → CN, and_eq_true → aj, and_self → x_, false_eq_true → bJ, false_or → uq, not_eq_true' → az, not_false → CM, not_true → x9, or_false → eI, true_and → lX
open Function renaming comp_def → aN
open Go.Instr renaming loadAt → kX, next → iM, sliceAt → fe, sliceBound → Cm, sliceBounds → dD, sureAddr → cQ
open Go.Op renaming operands → bc
open Go.Region renaming binds → dm, free_spec → nG, ready → bM, wanted → jh
open Go.Result renaming andThen → Cf, andThen_ok → bB
open Go.RowKit renaming Below → ka
open Go.RowKit.Below renaming refl → lq
open Go.Sem renaming run → kg, run_bind → bu, run_map → Ce, run_pure → eD
open Go.Value renaming cells → pJ, int → dn, oneCell' → ul
open Go.Value.slice renaming injEq → fo
open Go.World renaming alloc_heap_new → ic, block_lt_of_cell? → eO, cell? → jx, putObj_heap_same → dK
open List renaming all_cons → lg, all_eq_true → aq, any_cons → ed, any_nil → fc, append_assoc → aK, append_nil → aE, cons_append → cz, drop_zero → fN, eq_nil_of_length_eq_zero → bo, eraseIdx_cons_succ → uo, filter_cons → Aq, find?_cons → ji, flatMap_cons → kW, foldl_cons → ee, foldr_cons → pL, foldr_nil → CI, getElem?_append_left → ap, getElem?_append_right → aw, getElem?_drop → bQ, getElem?_eq_getElem → al, getElem?_eq_none → bz, getElem?_eq_some_iff → ab, getElem?_map → aF, getElem?_of_mem → aQ, getElem?_set_ne → bl, getElem?_take → aV, getElem?_toArray → cS, length → dM, length_append → ah, length_cons → aI, length_eq_zero_iff → mM, length_eraseIdx_of_lt → qL, length_map → aY, length_nil → aU, map_append → bg, map_cons → aA, map_map → Ag, map_nil → aC, mem_append_left → fM, mem_append_right → b9, mem_cons → bA, mem_filter → sn, mem_filterMap → Cj, mem_map → aH, mem_map_of_mem → b_, mem_of_find?_eq_some → gw, mem_of_getElem? → ar, mem_singleton → aZ, nil_append → cU, nodup_cons → iL, range → bC, range' → un, set_append_left → Af, set_append_right → cZ, set_cons_zero → Ci, size_toArray → eR, take_left → kU, take_length → bk, take_of_length_le → cA, take_succ_cons → cy, take_zero → co, toList_toArray → bt, zip_cons_cons → x7
open Nat renaming add_assoc → qK, add_sub_cancel_left → x6, add_zero → kf, le_refl → aP, le_trans → dB, lt_of_not_le → sm, mod_lt → gj, mul_le_mul_right → bT, strongRecOn → um, zero_add → di, zero_le → bx, zero_lt_succ → ec
open Option renaming bind_some → Cg, getD_some → nR, map_eq_some_iff → aJ, map_none → pF, map_some → cu
open Option.some renaming injEq → a8
open Prod renaming fst → bZ
open Prod.mk renaming injEq → lA
namespace Go.Fen
open Go.RowKit
variable {P:Program}{w0 w w':World}{ι:List Pl}{ψ ψ':cX}{S:List ax}
def vG (w:World) (ι:List Pl) (ψ:cX) (S:List ax) (fr:Nat→Bool):Prop :=
 ∀ (a:Nat) (pl:Pl) (B:ax),fr a=true→S[a]? = some B→ι[a]? = some pl→match B with
  | .cells cs _=>∀ j,j<cs.length→ψ.c pl.blk j=w.cell? ⟨pl.blk,j,none⟩
  | .arr _ sz _ _ els=>∀ k j,pl.sv.ownBlock=some k→j<els.length * sz→ψ.c k j=w.cell? ⟨k,j,none⟩
  | .mp _ _=>∃ me c,w.heap[pl.blk]? = some (.map me c)∧ψ.m pl.blk=some (me,c)
  | .obj _=>True
  | .loop ..=>True
  | .mit ..=>True
  | .dead=>True
theorem vl {e:AV}{sz:Nat} (f:Nat→Value) (hl:e.cells.length=sz) (hlf:∀ (j:Nat) (x:AV),e.cells[j]? = some x→x.leaf=true) (hf:∀ (j:Nat) (x:AV),e.cells[j]? = some x→VR ι ψ x (f j)) :
  ∃ c,VR ι ψ e c∧c.cells.size=sz∧∀ j,j<sz→c.cells[j]? = some (f j):=by
 have one:e.cells=[e]→∃ c,VR ι ψ e c∧c.cells.size=sz∧∀ j,j<sz→c.cells[j]? = some (f j):=by
  intro he
  have h0:=hf 0 e (by rw [he];rfl)
  have h1:=h0.oneCell (hlf 0 e (by rw [he];rfl))
  have hs:sz=1:=by rw [← hl,he];rfl
  have hc:(f 0).cells=#[f 0]:=by cases hv:f 0<;>first | rfl | (rw [hv] at h1;simp [ul] at h1)
  refine⟨f 0,h0,by rw [hc,hs];rfl,fun j hj=>?_⟩
  have:j=0:=by omega
  subst this
  rw [hc];rfl
 cases e with
 | agg cs =>
  simp only [na] at hl hlf hf
  refine⟨.agg ((bC sz).map f).toArray,.agg _ _ (by simp [hl]) fun j x v hx hv=>?_,by simp [pJ],fun j hj=>by simp [pJ,hj]⟩
  have hj:j<sz:=by rw [← hl];exact(ab.1 hx).1
  simp [hj] at hv
  subst hv;exact hf j x hx
 | _=>exact one rfl
theorem gF (h:b7 w0 ι ψ S w) (hle:ψ.le ψ'){fr:Nat→Bool} (hfr:vG w ι ψ' S fr):∀ (d:Nat) (x:AV) (c:Value),VR ι ψ x c→VR ι ψ' (conv S fr d x) c:=by
  have hext:cN ι ψ ι ψ':=⟨(cN.refl ι ψ).pl,hle⟩
  intro d
  induction d with
  | zero =>
    intro x c hx
    simp only [conv]
    split
    · exact hx.mono hext
    · exact .junk c
  | succ d ih =>
    intro x c hx
    simp only [conv]
    split
    · exact hx.mono hext
    · rename_i hnr
      split
      · next a g n =>
        split
        · next hfa =>
          split
          · next e sz fz g' els hS =>
            split
            · next hg =>
              obtain⟨rfl,rfl⟩:=hg
              cases hx with
              | sown _ _ _ ad cap pl hpl hgl hs =>
                obtain⟨⟨hgen,hpsz⟩,hsize,hpos,_,⟨xs,hown,hxs⟩,_⟩:=h.blk a _ pl hS hpl
                have hsv:=hs hgen.symm
                have hfz:=hfr a pl _ hfa hS hpl
                rcases hown.2 with⟨hn,hn0⟩ | ⟨b,cap',cur,hv,hb',hgg,hncap,_⟩
                · rw [hn] at hsv
                  simp only [fo] at hsv
                  obtain⟨rfl,h0,rfl⟩:=hsv
                  have:els=[]:=bo (by omega)
                  subst this
                  simp only [plainL,if_true,aU]
                  exact .svnil _
                · rw [hv] at hsv
                  simp only [fo] at hsv
                  obtain⟨rfl,_,rfl⟩:=hsv
                  have hob:pl.sv.ownBlock=some b:=by rw [hv];rfl
                  have hxl:xs.length=els.length * sz:=hown.1
                  have cellOf:∀ (i:Nat) (e:AV) (j:Nat) (x:AV),els[i]? = some e→e.cells[j]? = some x→x.leaf=true∧∃ v,xs[i * sz+j]? = some v∧VR ι ψ x v∧ψ'.c b (i * sz+j)=some v:=by
                    intro i e j x he hj
                    obtain⟨hl,v,hv1,hv2,_⟩:=hxs _ x (iz hsize he hj)
                    refine⟨hl,v,hv1,hv2, ?_⟩
                    rw [hfz b (i * sz+j) hob (by rw [← hxl];exact(ab.1 hv1).1)]
                    have:=hown.cells (g:=b) hob _ v hv1
                    rw [Addr.add_lit,di] at this;exact this
                  let cv:Nat→Nat→Value:=fun i j=>(xs[i * sz+j]?).getD undef
                  have hcv:∀ (i:Nat) (e:AV) (j:Nat) (x:AV),els[i]? = some e→e.cells[j]? = some x→x.leaf=true∧VR ι ψ x (cv i j)∧ψ'.c b (0+i * sz+j)=some (cv i j):=by
                    intro i e j x he hj
                    obtain⟨hl,v,hv1,hv2,hv3⟩:=cellOf i e j x he hj
                    refine⟨hl, ?_, ?_⟩
                    · simp only [cv,hv1];exact hv2
                    · simp only [cv,hv1,di];exact hv3
                  split
                  · exact .sval sz false els b 0 cap cv (fun i e he=>hsize e (ar he)) hncap (by simp) (fun i e j x he hj=>⟨(hcv i e j x he hj).1,(hcv i e j x he hj).2.2⟩) (fun i e j x he hj=>(hcv i e j x he hj).2.1.mono hext)
                  · split
                    · next hok =>
                      have hlen:els.length=(els.map (conv S fr d)).length:=by simp
                      rw [hlen]
                      refine .sval sz false _ b 0 cap cv (fun i e he=>dZ hok e (ar he)) (by simpa using hncap) (by simp) ?_ ?_
                      all_goals
                        intro i e' j x he' hj
                        simp only [aF,aJ] at he'
                        obtain⟨e,he,rfl⟩:=he'
                        have hel:e.cells.length=sz:=hsize e (ar he)
                        have hjl:j<sz:=by
                          rw [← dZ hok (conv S fr d e) (b_ (ar he))]
                          exact(ab.1 hj).1
                        obtain⟨c',hc1,hc2,hc3⟩:=vl (ι:=ι) (ψ:=ψ) (fun j=>cv i j) hel (fun j x hx=>(hcv i e j x he hx).1) (fun j x hx=>(hcv i e j x he hx).2.1)
                        have hconv:=ih e c' hc1
                        have hnj:conv S fr d e≠.junk:=by
                          intro hjk
                          have:=oP hok (e:=conv S fr d e) (b_ (ar he))
                          rw [hjk] at this;simp [AV.isJunk] at this
                        obtain⟨_,hcc⟩:=hconv.cells hnj
                        obtain⟨v,hv1,hv2⟩:=hcc j x hj
                        rw [hc3 j hjl] at hv1;cases hv1
                        first
                          | exact hv2
                          | (refine⟨?_,(hcv i e j _ he (al (by omega))).2.2⟩
                             have hm:conv S fr d e∈els.map (conv S fr d):=b_ (ar he)
                             have:=aq.1 hok _ hm
                             simp only [aj,aq] at this
                             exact this.2 x (ar hj))
                    · exact .junk _
            · exact .junk _
          · exact .junk _
        · exact hx.mono hext
      · cases hx with
        | snil=>exact .svnil _
      · next f els =>
        cases hx with
        | svnil=>exact .svnil _
        | sval sz _ _ b o cap cv hsz hcap hf h1 h2 =>
          exact .sval sz false els b o cap cv hsz hcap (by simp) (fun i e j x he hj=>⟨(h1 i e j x he hj).1,hle.1 _ _ _ (h1 i e j x he hj).2⟩) (fun i e j x he hj=>(h2 i e j x he hj).mono hext)
      · next a o =>
        split
        · next hfa =>
          split
          · next cs hS =>
            split
            · next hlf =>
              cases hx with
              | own _ _ pl hpl =>
                obtain⟨_,⟨c,T,hc,hcl,hcv⟩,_⟩:=h.blk a _ pl hS hpl
                have hfz:=hfr a pl _ hfa hS hpl
                refine .pro _ pl.blk o (fun j=>(c[o+j]?).getD undef) (fun j x hx=>?_) (fun j x hx=>?_)
                all_goals
                  have hx0:=hx
                  simp only [aF,bQ,aJ] at hx
                  obtain⟨y,hy,rfl⟩:=hx
                  obtain⟨_,v,hv,hr⟩:=hcv _ y hy
                · refine ⟨gY hlf hx0, ?_⟩
                  rw [hfz (o+j) (ab.1 hy).1]
                  simp [jx,hc,hv]
                · simp only [hv, nR]
                  exact ih y v hr
            · exact .junk _
          · exact .junk _
        · exact hx.mono hext
      · next a =>
        split
        · next hfa =>
          split
          · next fz es hS =>
            cases hx with
            | mown _ pl hpl =>
              obtain⟨h0,hn,⟨me,ck,l,h1,h2,h3,h4,h5⟩,h6⟩:=h.blk a _ pl hS hpl
              obtain⟨me',ck',k1,k2⟩:=hfr a pl _ hfa hS hpl
              rw [h1] at k1;cases k1
              refine .mval _ (l.map fun e=>(e.1,conv S fr d e.2)) _ ck me k2 (h3.map _) (by simpa using h4.1) (by simpa [Ag,aN] using hn) (fun i e m he hm=>?_) (fun i e m he hm=>?_)
              all_goals
                simp only [aF,aJ] at he
                obtain⟨e0,he0,rfl⟩:=he
                obtain⟨r1,r2⟩:=h4.2 i e0 m he0 (by simpa using hm)
              · exact r1.mono hext
              · exact ih _ _ r2
          · exact .junk _
        · exact hx.mono hext
      · next es =>
        cases hx with
        | mval _ l b ck me hb hp hl hn h1 h2 =>
          refine .mval _ (l.map fun e=>(e.1,conv S fr d e.2)) b ck me (hle.2 _ _ hb) (hp.map _) (by simpa using hl) (by simpa [Ag,aN] using hn) (fun i e m he hm=>?_) (fun i e m he hm=>?_)
          all_goals
            simp only [aF,aJ] at he
            obtain⟨e0,he0,rfl⟩:=he
          · exact(h1 i e0 m he0 hm).mono hext
          · exact ih _ _ (h2 i e0 m he0 hm)
      · next cs =>
        obtain⟨vs,rfl,hl,hv⟩:=hx.agg_inv
        refine .agg _ _ (by simpa using hl) fun j x v hx hv'=>?_
        simp only [aF,aJ] at hx
        obtain⟨y,hy,rfl⟩:=hx
        obtain⟨v2,e1,e2⟩:=hv j y hy
        rw [hv'] at e1;cases e1
        exact ih y v e2
      · next cs =>
        obtain⟨vs,rfl,hl,hv⟩:=hx.tup_inv
        refine .tup _ _ (by simpa using hl) fun j x v hx hv'=>?_
        simp only [aF,aJ] at hx
        obtain⟨y,hy,rfl⟩:=hx
        obtain⟨v2,e1,e2⟩:=hv j y hy
        rw [hv'] at e1;cases e1
        exact ih y v e2
      · next f a cc =>
        cases hx with
        | fn _ _ _ vf vc hl1 hl2 h1 h2 =>
          refine .fn _ _ _ _ _ (by simpa using hl1) (by simpa using hl2) (fun j x v hx hv'=>?_) (fun j x v hx hv'=>?_)
          all_goals
            simp only [aF,aJ] at hx
            obtain⟨y,hy,rfl⟩:=hx
          · exact ih y v (h1 j y v hy hv')
          · exact ih y v (h2 j y v hy hv')
      · next t v =>
        cases hx with
        | ifc _ _ c hc=>exact .ifc _ _ _ (ih v c hc)
      · exact hx.mono hext
theorem b7.leave (h:b7 w0 ι ψ S w) (n:Nat) (hlt:∀ (i:Nat) (B:ax),i<n→S[i]? = some B→match B with
   | .cells cs _=>ltL n cs=true
   | .arr _ _ _ _ els=>ltL n els=true
   | .obj _=>True
   | .loop _ _ _ tm _ _ _=>tm.all (fun p=>p.2.lt n)=true
   | .mp _ es=>lh n es=true
   | .mit cur es=>lh n es=true∧∀ e,cur=some e→e.1.lt n=true∧e.2.lt n=true
   | .dead=>True) :
  ∃ ψ',ψ.le ψ'∧vG w ι ψ' S (fun a=>decide (n≤a))∧b7 w0 (ι.take n) ψ' (S.take n) w:=by
 classical
 let dropped:Nat→Prop:=fun b=>∃ (i:Nat) (B:ax) (pl:Pl),n≤i∧S[i]? = some B∧ι[i]? = some pl∧B.at pl=some b
 let droppedM:Nat→Prop:=fun b=>∃ (i:Nat) (fz:Bool) (es:List (AV × AV)) (pl:Pl),n≤i∧S[i]? = some (.mp fz es)∧ι[i]? = some pl∧pl.blk=b
 let eL:Nat→Option (Array MapEntry × Nat):=fun b=>match w.heap[b]? with
  | some (.map me c)=>some (me,c)
  | _=>none
 let ψ':cX:={ c:=fun b o=>if dropped b then w.cell? ⟨b,o,none⟩ else ψ.c b o,m:=fun b=>if droppedM b then eL b else ψ.m b }
 have hle:ψ.le ψ':=by
  refine⟨fun b o v e=>?_,fun b es e=>?_⟩
  ·simp only [ψ']
   split
   ·exact h.psi b o v e
   ·exact e
  ·simp only [ψ']
   split
   ·obtain⟨hc,_⟩:=h.psim b es.1 es.2 e
    simp only [eL,hc]
   ·exact e
 refine⟨ψ',hle, ?_, ?_⟩
 ·intro a pl B hfa hB hpl
  have ha:n≤a:=by simpa using hfa
  cases B with
  | cells cs ty=>exact fun j _=>by simp only [ψ'];rw [if_pos ⟨a,_,pl,ha,hB,hpl,rfl⟩]
  | arr e sz fz g els=>exact fun k j hk _=>by simp only [ψ'];rw [if_pos ⟨a,_,pl,ha,hB,hpl,hk⟩]
  | mp fz es =>
   obtain⟨h0,hn,⟨me,ck,l,h1,h2,h3,h4,h5⟩,h6⟩:=h.blk a _ pl hB hpl
   exact⟨me,ck,h1,by simp only [ψ'];rw [if_pos ⟨a,fz,es,pl,ha,hB,hpl,rfl⟩];simp only [eL,h1]⟩
  | loop st pend N tm ps asg body=>trivial
  | mit cur rest=>trivial
  | obj o=>trivial
  | dead=>trivial
 ·have getS:∀ {i:Nat}{B:ax},(S.take n)[i]? = some B→i<n∧S[i]? = some B:=by
   intro i B hB
   rw [aV] at hB
   split at hB
   ·exact⟨by assumption,hB⟩
   ·cases hB
  have getι:∀ {i:Nat}{p:Pl},(ι.take n)[i]? = some p→i<n∧ι[i]? = some p:=by
   intro i B hB
   rw [aV] at hB
   split at hB
   ·exact⟨by assumption,hB⟩
   ·cases hB
  have notDropped:∀ {i:Nat}{B:ax}{pl:Pl}{k:Nat},i<n→S[i]? = some B→ι[i]? = some pl→B.at pl=some k→¬ dropped k:=by
   rintro i B pl k hi hB hpl hk ⟨j,C,q,hj,hC,hq,hk2⟩
   have:=h.inj i j B C pl q k hB hC hpl hq hk hk2
   omega
  have notDroppedM:∀ {i:Nat}{B:ax}{pl:Pl}{k:Nat},i<n→S[i]? = some B→ι[i]? = some pl→B.at pl=some k→¬ droppedM k:=by
   rintro i B pl k hi hB hpl hk ⟨j,fz,es,q,hj,hC,hq,hk2⟩
   have:=h.inj i j B _ pl q k hB hC hpl hq hk (by simp [ax.at,hk2])
   omega
  refine⟨h.below,fun b o v e=>?_,fun b es c e=>?_,by simp [h.len],fun i B pl hB hpl=>?_,fun b o v hb0 e=>hle.1 _ _ _ (h.old b o v hb0 e),fun i j B C p q k hB hC hp hq hk1 hk2=>?_⟩
  rotate_left
  ·simp only [ψ'] at e
   split at e
   ·next hd =>
    obtain⟨i,fz,es',pl,hi,hS,hpl,rfl⟩:=hd
    obtain⟨h0,hn,⟨me,ck,l,h1,h2,h3,h4,h5⟩,h6⟩:=h.blk i _ pl hS hpl
    simp only [eL,h1,a8,lA] at e
    obtain⟨rfl,rfl⟩:=e
    exact⟨h1,h2⟩
   ·exact h.psim b es c e
  rotate_left
  rotate_left
  ·simp only [ψ'] at e
   split at e
   ·exact e
   ·exact h.psi b o v e
  ·obtain⟨hi,hB⟩:=getS hB
   obtain⟨_,hpl⟩:=getι hpl
   have hBR:=h.blk i B pl hB hpl
   have hl:=hlt i B hi hB
   have hext:cN ι ψ ι ψ':=⟨(cN.refl ι ψ).pl,hle⟩
   have hsame:∀ k o,B.at pl=some k→ψ'.c k o=ψ.c k o:=fun k o hk=>by simp only [ψ'];rw [if_neg (notDropped hi hB hpl hk)]
   have hBR':=hBR.ext hext (fun _ _=>rfl) hsame (fun k hk=>by simp only [ψ'];rw [if_neg (notDroppedM hi hB hpl hk)])
   cases B with
   | cells cs ty =>
    obtain⟨h0,⟨c,T,h1,h2,h3⟩,h4,h5⟩:=hBR'
    refine⟨h0,⟨c,T,h1,h2,fun j x e=>?_⟩,h4,h5⟩
    obtain⟨hlf,v,hv,hr⟩:=h3 j x e
    exact⟨hlf,v,hv,hr.take (cw.1 hl x (ar e))⟩
   | arr e sz fz g els =>
    obtain⟨hg,hsz,hpos,hfz,⟨xs,hown,hxs⟩,hps⟩:=hBR'
    refine⟨hg,hsz,hpos,hfz,⟨xs,hown,fun j x e=>?_⟩,hps⟩
    obtain⟨hlf,v,hv,hr,hro⟩:=hxs j x e
    refine⟨hlf,v,hv,hr.take ?_,hro⟩
    obtain⟨e',he1,he2⟩:=my hsz hpos e
    exact kC (cw.1 hl e' (ar he1)) he2
   | obj o=>exact hBR'
   | loop st pend N tm ps asg body =>
    obtain⟨h0,⟨fn,vs,d,h1,h2,h2'⟩,h3,h4⟩:=hBR'
    exact⟨h0,⟨fn,vs,d,h1,h2,fun p hp=>(h2' p hp).take (aq.1 hl p hp)⟩,h3,h4⟩
   | mp fz es =>
    obtain⟨h0,hn,⟨me,c,l,h1,h2,h3,h4,h5⟩,h6⟩:=hBR'
    exact⟨h0,hn,⟨me,c,l,h1,h2,h3,⟨h4.1,fun i e m he hm=>⟨(h4.2 i e m he hm).1.take (dz.1 hl e (h3.mem_iff.1 (ar he))).1,(h4.2 i e m he hm).2.take (dz.1 hl e (h3.mem_iff.1 (ar he))).2⟩⟩,h5⟩,h6⟩
   | mit cur rest =>
    obtain⟨h0,h1,h3,h4⟩:=hBR'
    refine⟨h0, ?_,h3,h4⟩
    rcases h1 with h1 | ⟨mb,ck,me,seen,l,k1,k2,k4,k5,k6⟩
    ·exact .inl h1
    ·exact .inr ⟨mb,ck,me,seen,l,k1,k2,k4,⟨k5.1,fun i e m he hm=>⟨(k5.2 i e m he hm).1.take (dz.1 hl.1 e (k4.mem_iff.1 (ar he))).1,(k5.2 i e m he hm).2.take (dz.1 hl.1 e (k4.mem_iff.1 (ar he))).2⟩⟩,
      fun e he=>let ⟨b,m,q1,q2,q3,q4⟩:=k6 e he;⟨b,m,q1,q2,q3.take (hl.2 e he).1,q4.take (hl.2 e he).2⟩⟩
   | dead=>trivial
  ·obtain⟨_,hB⟩:=getS hB
   obtain⟨_,hC⟩:=getS hC
   obtain⟨_,hp⟩:=getι hp
   obtain⟨_,hq⟩:=getι hq
   exact h.inj i j B C p q k hB hC hp hq hk1 hk2
theorem b7.share (h:b7 w0 ι ψ S w){a:Nat}{e:TypeId}{sz fz g:Nat}{els:List AV} (hS:S[a]? = some (.arr e sz fz g els)) :
  ∃ ψ',ψ.le ψ'∧b7 w0 ι ψ' (S.set a (.arr e sz els.length g els)) w:=by
 obtain⟨pl,hpl,hB⟩:=h.get hS
 obtain⟨hgp,hsize,hpos,hfz,⟨xs,hown,hxs⟩,hps⟩:=hB
 have hset:ι.set a pl=ι:=eK hpl
 have hxl:xs.length=els.length * sz:=hown.1
 cases hob:pl.sv.ownBlock with
 | none =>
  refine⟨ψ,cX.le_refl _, ?_⟩
  have key:=h.update (w':=w) (ψ':=ψ) (B':=.arr e sz els.length g els) (pl':=pl) hS hpl (lq _ _) (fun _ _ _=>rfl) (by rw [hset];exact cN.refl _ _) ?_ (fun k hk=>.inl hk) (fun b o v ev=>.inl ⟨ev,by simp [ax.at,hob]⟩) rfl
  ·rw [hset] at key;exact key
  ·rw [hset]
   refine⟨hgp,hsize,hpos,aP _,⟨xs,hown,fun j x ex=>?_⟩,fun k o hk=>by rw [hob] at hk;cases hk⟩
   obtain⟨h1,v,h2,h3,_⟩:=hxs j x ex
   exact⟨h1,v,h2,h3,fun _ k hk=>by rw [hob] at hk;cases hk⟩
 | some b =>
  have hcell:∀ j v,xs[j]? = some v→w.cell? ⟨b,j,none⟩=some v:=fun j v hv=>by
   have:=hown.cells (g:=b) hob j v hv
   rw [Addr.add_lit,di] at this;exact this
  have hfl:=cO hsize
  have hle:ψ.le (ψ.addRow b xs):=cX.le_addRow fun o v e=>by
   have ho:o<fz * sz:=sm fun hge=>by rw [hps b o hob hge] at e;cases e
   have hfb:fz * sz≤els.length * sz:=bT _ hfz
   obtain⟨_,v2,e1,_,e3⟩:=hxs o _ (al (show o<(dg els).length by omega))
   rw [e3 ho b hob] at e;cases e
   exact e1
  have hext:cN ι ψ ι (ψ.addRow b xs):=⟨(cN.refl ι ψ).pl,hle⟩
  refine⟨ψ.addRow b xs,hle, ?_⟩
  have key:=h.update (w':=w) (ψ':=ψ.addRow b xs) (B':=.arr e sz els.length g els) (pl':=pl) hS hpl (lq _ _) (fun _ _ _=>rfl) (by rw [hset];exact hext) ?_ (fun k hk=>.inl hk) ?_ rfl
  ·rw [hset] at key;exact key
  ·rw [hset]
   refine⟨hgp,hsize,hpos,aP _,⟨xs,hown,fun j x ex=>?_⟩,fun k o hk ho=>?_⟩
   ·obtain⟨h1,v,h2,h3,_⟩:=hxs j x ex
    exact⟨h1,v,h2,h3.mono hext,fun _ k hk=>by rw [hob] at hk;cases hk;simp [cX.addRow,h2]⟩
   ·rw [hob] at hk;cases hk
    simp [cX.addRow];omega
  ·intro b' o v ev
   simp only [cX.addRow] at ev
   split at ev
   ·next hb=>subst hb;exact .inr ⟨.inl hob,hcell o v ev⟩
   ·next hb=>exact .inl ⟨ev,by simp [ax.at,hob];exact fun e=>hb e.symm⟩
theorem b7.freezeM (h:b7 w0 ι ψ S w){a:Nat}{es:List (AV × AV)} (hS:S[a]? = some (.mp false es)) :
  ∃ ψ',ψ.le ψ'∧b7 w0 ι ψ' (S.set a (.mp true es)) w:=by
 obtain⟨pl,hpl,hB⟩:=h.get hS
 obtain⟨h0,hn,⟨me,c,l,h1,h2,h3,h4,h5⟩,h6⟩:=hB
 have h5':ψ.m pl.blk=none:=by simpa using h5
 let ψ':cX:={ c:=ψ.c,m:=fun b=>if b=pl.blk then some (me,c) else ψ.m b }
 have hle:ψ.le ψ':=by
  refine⟨fun _ _ _ e=>e,fun b es e=>?_⟩
  simp only [ψ']
  split
  ·next hb=>subst hb;rw [h5'] at e;cases e
  ·exact e
 have hext:cN ι ψ ι ψ':=⟨(cN.refl ι ψ).pl,hle⟩
 have hal:a<S.length:=(ab.1 hS).1
 refine⟨ψ',hle,h.below,h.psi,fun b es' c' e=>?_,by simp [h.len],fun i B q hB hq=>?_,fun b o v hb0 e=>hle.1 _ _ _ (h.old b o v hb0 e),fun i j B C p q k hB hC hp hq hk1 hk2=>?_⟩
 ·simp only [ψ'] at e
  split at e
  ·next hb=>subst hb;cases e;exact⟨h1,h2⟩
  ·exact h.psim b es' c' e
 ·by_cases hi:i=a
  ·subst hi
   rw [hpl] at hq;cases hq
   simp [hal] at hB
   subst hB
   exact⟨h0,hn,⟨me,c,l,h1,h2,h3,h4.mono hext,by simp [ψ']⟩,h6⟩
  ·rw [bl (by omega)] at hB
   refine(h.blk i B q hB hq).ext hext (fun _ _=>rfl) (fun _ _ _=>rfl) (fun k hk=>?_)
   simp only [ψ']
   rw [if_neg]
   intro e
   exact hi (h.inj i a B _ q pl k hB hS hq hpl hk (by simp [ax.at,e]))
 ·have back:∀ (i:Nat) (B:ax) (p:Pl),(S.set a (.mp true es))[i]? = some B→∃ B0,S[i]? = some B0∧B0.at p=B.at p:=by
   intro i B p hB
   by_cases hi:i=a
   ·subst hi
    simp [hal] at hB
    subst hB
    exact⟨_,hS,rfl⟩
   ·rw [bl (by omega)] at hB
    exact⟨B,hB,rfl⟩
  obtain⟨B0,e1,e2⟩:=back i B p hB
  obtain⟨C0,e3,e4⟩:=back j C q hC
  exact h.inj i j B0 C0 p q k e1 e3 hp hq (e2.trans hk1) (e4.trans hk2)
end Go.Fen
namespace Go.Fen
open Go.RowKit
inductive AX where
 | normal | exit (id:Nat) | goto (l:Nat) | ret | panic (v:AV)
inductive df where
 | ret (v:AV) | panic (v:AV)
def XR (ι:List Pl) (ψ:cX):AX→Exit→Prop
 | .normal,.normal=>True
 | .exit i,.exit j=>i=j
 | .goto i,.goto j=>i=j
 | .ret,.ret=>True
 | .panic v,.panic ch=>∃ c,ch=[{ v:=c,recovered:=false }]∧VR ι ψ v c
 | _,_=>False
def kP (ι:List Pl) (ψ:cX):df→Ending→Prop
 | .ret v,.returned c=>VR ι ψ v c
 | .panic v,.panicked ch=>∃ c,ch=[{ v:=c,recovered:=false }]∧VR ι ψ v c
 | _,_=>False
abbrev cF:=Nat→AV
abbrev bN:=AX→cF→List ax→Prop
def ju (w0:World) (n0 N:Nat) (ι:List Pl) (ψ:cX) (Q:bN) (e:Exit) (a:Act) (w:World):Prop :=
 ∃ ι' ψ' x env S,cN (ι.take n0) ψ ι' ψ'∧b7 w0 ι' ψ' S w∧eA ι' ψ' N env a∧XR ι' ψ' x e∧Q x env S
inductive KI where
 | code (c:Code)
 | ops (all:Array Oper) (l:List Oper)
 | lp (c:Code)
def FR (r:Option Nat):Fence:={ Fence.wide with round:=r }
theorem lQ {r:Option Nat}{n:Nat}{P:Program}{f:FuncId}{args:Array Value}{w:World}{R:Ending→World→Prop} (h:Calls P f args w R):CallsIn (FR r) n P f args w R :=
 (callsIn_wide (n:=n)).2 h
theorem rd (r:Option Nat) (n:Nat):(FR r).room n:=fun _ h=>by simp [FR,Fence.wide] at h
theorem ph (r:Option Nat){n:Nat}:(FR r).depth.isSome=true→1≤n:=fun h=>by simp [FR,Fence.wide] at h
def LW (P:Program) (r:Option Nat) (Q:Exit→Act→World→Prop) (c:Code) (a:Act) (w:World):Prop :=
 ∀ (b:Frame) (k:List Item) (cs:List Frame),b.roundOf=r→∃ e a' w',Q e a' w'∧ArrivesIn (Machine.fenced P (FR r)) P (lone (b.atR a (.inLoop c::k)) cs w) b k cs e a' w'
theorem LW.round {P:Program}{r:Option Nat}{Q:Exit→Act→World→Prop}{c:Code}{a:Act}{w:World} (h:c.wpIn (FR r) 0 P (Exit.then (LW P r Q c) Q) a w) (b:Frame) (k:List Item) (cs:List Frame) (hb:b.roundOf=r) :
  ∃ e a' w',Q e a' w'∧ArrivesIn (Machine.fenced P (FR r)) P (lone (b.atR a (.code c::.inLoop c::k)) cs w) b k cs e a' w':=by
 obtain⟨e,a₁,w₁,hq,harr⟩:=h b (.inLoop c::k) cs hb trivial (rd _ _)
 cases e with
 | normal =>
  obtain⟨e2,a2,w2,hq2,harr2⟩:=hq b k cs hb
  exact⟨e2,a2,w2,hq2,.of_steps harr harr2⟩
 | exit id=>exact⟨_,a₁,w₁,hq,.pass (x:=.inLoop c) rfl (fun _ _=>.inl (by simp)) harr⟩
 | goto l=>exact⟨_,a₁,w₁,hq,.pass (x:=.inLoop c) rfl (fun _ _=>.inl (by simp)) harr⟩
 | ret=>exact⟨_,a₁,w₁,hq,.pass (x:=.inLoop c) rfl (fun _ _=>.inl (by simp)) harr⟩
 | panic ch=>exact⟨_,a₁,w₁,hq,.pass (x:=.inLoop c) rfl (fun _ _=>.inl (by simp)) harr⟩
 | outgrown=>exact⟨_,a₁,w₁,hq,.pass (x:=.inLoop c) rfl (fun _ _=>.inl (by simp)) harr⟩
theorem LW.head {P:Program}{r:Option Nat}{Q:Exit→Act→World→Prop}{c:Code}{a:Act}{w:World} (h:c.wpIn (FR r) 0 P (Exit.then (LW P r Q c) Q) a w):LW P r Q c a w:=by
 intro b k cs hb
 obtain⟨e,a',w',hq,harr⟩:=LW.round h b k cs hb
 exact⟨e,a',w',hq,.of_steps (.one (fenced_calm (n:=0) (fr:=b.atR a (.inLoop c::k)) trivial (rd _ _) rfl) stepR_inLoop) harr⟩
theorem LW.loop {P:Program}{r:Option Nat}{Q:Exit→Act→World→Prop}{c:Code}{a:Act}{w:World} (h:c.wpIn (FR r) 0 P (Exit.then (LW P r Q c) Q) a w):(Code.loop c).wpIn (FR r) 0 P Q a w:=by
 intro b k cs hb _ _
 obtain⟨e,a',w',hq,harr⟩:=LW.round h b k cs hb
 exact⟨e,a',w',hq,.of_steps (.one (fenced_calm (n:=0) (fr:=b.atR a (.code (.loop c)::k)) trivial (rd _ _) rfl) stepR_loop) harr⟩
theorem LW.mono {P:Program}{r:Option Nat}{Q Q':Exit→Act→World→Prop}{c:Code}{a:Act}{w:World} (h:LW P r Q c a w) (hq:∀ e a w,Q e a w→Q' e a w):LW P r Q' c a w :=
 fun b k cs hb=>let ⟨e,a',w',q,r⟩:=h b k cs hb;⟨e,a',w',hq _ _ _ q,r⟩
def KI.wp (P:Program) (r:Option Nat) (Q:Exit→Act→World→Prop):KI→Act→World→Prop
 | .code c,a,w=>c.wpIn (FR r) 0 P Q a w
 | .lp c,a,w=>LW P r Q c a w
 | .ops all l,a,w=>wpListIn (FR r) 0 P all Q l a w
theorem p6 {P:Program}{F:Fence}{n:Nat}{o:Oper}{a:Act}{K K':Act→World→Prop}{Q Q':Exit→Act→World→Prop} (hk:∀ a w,K a w→K' a w) (hq:∀ e a w,Q e a w→Q' e a w) :
  ∀ r,o.uponIn F n P a K Q r→o.uponIn F n P a K' Q' r:=by
 intro r h
 unfold Oper.uponIn at h ⊢
 split at h
 ·exact hk _ _ h
 ·exact hk _ _ h
 ·exact hk _ _ h
 ·refine⟨h.1,h.2.mono fun e w' he=>?_⟩
  cases e with
  | returned v=>exact hk _ _ he
  | panicked ch=>exact hq _ _ _ he
  | outgrown=>obtain⟨a₀,w₀,h0⟩:=he;exact⟨a₀,w₀,hq _ _ _ h0⟩
 ·exact⟨h.1,h.2.mono fun v w' he=>hk _ _ he⟩
 ·refine⟨h.1,h.2.mono fun e w' he=>?_⟩
  cases e with
  | returned v=>exact hk _ _ he
  | panicked ch=>exact hq _ _ _ he
  | outgrown=>obtain⟨a₀,w₀,h0⟩:=he;exact⟨a₀,w₀,hq _ _ _ h0⟩
 ·exact hq _ _ _ h
 ·exact h.elim
theorem m4 {P:Program}{F:Fence}{all:Array Oper}{Q Q':Exit→Act→World→Prop} (hq:∀ e a w,Q e a w→Q' e a w):∀ (l:List Oper) (a:Act) (w:World),wpListIn F 0 P all Q l a w→wpListIn F 0 P all Q' l a w
 | [],_,_,h=>hq _ _ _ h
 | o::l,a,w,h=>by
  unfold wpListIn at h ⊢
  split
  ·next hw =>
   rw [if_pos hw] at h
   exact⟨h.1,p6 (m4 hq l) hq _ h.2⟩
  ·next hw =>
   rw [if_neg hw] at h
   exact⟨h.1,m4 hq l _ _ h.2⟩
theorem KI.mono {P:Program}{r:Option Nat}{it:KI}{Q Q':Exit→Act→World→Prop}{a:Act}{w:World} (h:it.wp P r Q a w) (hq:∀ e a w,Q e a w→Q' e a w):it.wp P r Q' a w:=by
 cases it with
 | code c=>exact wpIn_mono h hq
 | lp c=>exact LW.mono h hq
 | ops all l=>exact m4 hq l a w h
theorem d9 {P:Program}{r:Option Nat}{all:Array Oper}{Q:Exit→Act→World→Prop}{o:Oper}{l:List Oper}{a:Act}{w:World} (hw:jh o (yielded all a.tmps)=true) (hd:∀ c,o.op≠.defer c)
  (h:o.uponIn (FR r) 0 P a (wpListIn (FR r) 0 P all Q l) Q ((execOp a.eval o).run P w)):wpListIn (FR r) 0 P all Q (o::l) a w:=by
 unfold wpListIn
 rw [if_pos hw]
 refine⟨fun _ _=>trivial, ?_⟩
 rw [Oper.semAt_eq _ _ _ hd];exact h
theorem qP {P:Program}{r:Option Nat}{all:Array Oper}{Q:Exit→Act→World→Prop}{o:Oper}{l:List Oper}{a:Act}{w:World} (hw:jh o (yielded all a.tmps)=false)
  (h:wpListIn (FR r) 0 P all Q l (a.put o.dst undef) w):wpListIn (FR r) 0 P all Q (o::l) a w:=by
 unfold wpListIn
 rw [if_neg (by rw [hw];simp)]
 exact⟨fun _ _=>trivial,h⟩
def WP (P:Program) (w0:World) (n0 N:Nat) (r:Option Nat) (it:KI) (Q:bN) (env:cF) (S:List ax):Prop :=
 ∀ ι ψ w a,b7 w0 ι ψ S w→eA ι ψ N env a→it.wp P r (ju w0 n0 N ι ψ Q) a w
inductive TI where
 | it (i:KI)
 | blk (id:Nat)
def aX (P:Program) (w0:World) (n0 N:Nat) (r:Option Nat):List TI→bN→bN
 | [],Q=>Q
 | .it i::k,Q=>fun x env S=>match x with
  | .normal=>WP P w0 n0 N r i (aX P w0 n0 N r k Q) env S
  | x=>aX P w0 n0 N r k Q x env S
 | .blk id::k,Q=>fun x env S=>match x with
  | .exit j=>if j=id then aX P w0 n0 N r k Q .normal env S else aX P w0 n0 N r k Q (.exit j) env S
  | x=>aX P w0 n0 N r k Q x env S
section
variable {P:Program}{w0:World}{n0 N:Nat}{r:Option Nat}{Q:bN}{k:List TI}{env:cF}{S:List ax}
theorem cN.take {ι ι':List Pl}{ψ ψ':cX} (h:cN ι ψ ι' ψ') (n:Nat):cN (ι.take n) ψ ι' ψ' :=
 ⟨fun i p hp=>h.pl i p (by rw [aV] at hp;split at hp;exact hp;cases hp),h.psi⟩
theorem cN.chain {ι ι' ι'':List Pl}{ψ ψ' ψ'':cX}{n:Nat} (h:cN (ι.take n) ψ ι' ψ') (h2:cN (ι'.take n) ψ' ι'' ψ''):cN (ι.take n) ψ ι'' ψ'':=by
 refine⟨fun i p hp=>?_,cX.le_trans h.psi h2.psi⟩
 have hi:i<n:=by have:=(ab.1 hp).1;simp at this;omega
 obtain⟨p1,h1,hb1,hg1,he1⟩:=h.pl i p hp
 obtain⟨p2,h2,hb2,hg2,he2⟩:=h2.pl i p1 (by rw [aV,if_pos hi];exact h1)
 refine⟨p2,h2,hb2.trans hb1,dB hg1 hg2,fun e=>?_⟩
 have e1:p.gen=p1.gen:=by omega
 have e2:p1.gen=p2.gen:=by omega
 rw [he2 e2,he1 e1]
theorem ju.chain {ι ι':List Pl}{ψ ψ':cX}{e:Exit}{a:Act}{w:World} (h:cN (ι.take n0) ψ ι' ψ') (hp:ju w0 n0 N ι' ψ' Q e a w):ju w0 n0 N ι ψ Q e a w:=by
 obtain⟨ι2,ψ2,x,env,S,h1,h2,h3,h4,h5⟩:=hp
 exact⟨ι2,ψ2,x,env,S,h.chain h1,h2,h3,h4,h5⟩
theorem ju.here {ι:List Pl}{ψ:cX}{e:Exit}{a:Act}{w:World}{x:AX} (hR:b7 w0 ι ψ S w) (hE:eA ι ψ N env a) (hx:XR ι ψ x e) (hq:Q x env S):ju w0 n0 N ι ψ Q e a w :=
 ⟨ι,ψ,x,env,S,(cN.refl ι ψ).take n0,hR,hE,hx,hq⟩
theorem eT (h:aX P w0 n0 N r k Q .normal env S):aX P w0 n0 N r (.it (.code .skip)::k) Q .normal env S :=
 fun _ _ _ _ hR hE=>wpIn_skip (ju.here hR hE (x:=.normal) trivial h)
theorem eU {id:Nat} (h:aX P w0 n0 N r k Q (.exit id) env S):aX P w0 n0 N r (.it (.code (.exit id))::k) Q .normal env S :=
 fun _ _ _ _ hR hE=>wpIn_exit (ju.here hR hE (x:=.exit id) rfl h)
theorem gq (h:aX P w0 n0 N r k Q .ret env S):aX P w0 n0 N r (.it (.code .ret)::k) Q .normal env S :=
 fun _ _ _ _ hR hE=>wpIn_ret (ju.here hR hE (x:=.ret) trivial h)
theorem gp {c d:Code} (h:aX P w0 n0 N r (.it (.code c)::.it (.code d)::k) Q .normal env S):aX P w0 n0 N r (.it (.code (.seq c d))::k) Q .normal env S:=by
 intro ι ψ w a hR hE
 refine wpIn_seq (wpIn_mono (h ι ψ w a hR hE) fun e a' w' hp=>?_)
 obtain⟨ι',ψ',x,env',S',h1,h2,h3,h4,h5⟩:=hp
 have h40:=h4
 cases x with
 | normal =>
  cases e<;>simp only [XR] at h4
  exact wpIn_mono (h5 ι' ψ' w' a' h2 h3) fun e2 a2 w2 hp2=>hp2.chain h1
 | _ =>
  cases e<;>simp only [XR] at h4<;>exact⟨ι',ψ',_,env',S',h1,h2,h3,h40,h5⟩
theorem uz {c:Operand}{d e:Code}{t:Bool} (hc:bf w0 env c=.bool t) (h:aX P w0 n0 N r (.it (.code (if t then d else e))::k) Q .normal env S):aX P w0 n0 N r (.it (.code (.cond c d e))::k) Q .normal env S:=by
 intro ι ψ w a hR hE
 have:=hE.eval hR c
 rw [hc] at this
 exact wpIn_cond this.bool_inv (h ι ψ w a hR hE)
theorem dU {id:Nat}{c:Code} (h:aX P w0 n0 N r (.it (.code c)::.blk id::k) Q .normal env S):aX P w0 n0 N r (.it (.code (.block id c))::k) Q .normal env S:=by
 intro ι ψ w a hR hE
 refine wpIn_block (wpIn_mono (h ι ψ w a hR hE) fun e a' w' hp=>?_)
 obtain⟨ι',ψ',x,env',S',h1,h2,h3,h4,h5⟩:=hp
 have h40:=h4
 cases x with
 | exit j =>
  cases e<;>simp only [XR] at h4
  subst h4
  simp only [aX] at h5
  simp only [Exit.inBlock]
  split at h5
  ·next hj=>rw [if_pos hj];exact⟨ι',ψ',.normal,env',S',h1,h2,h3,trivial,h5⟩
  ·next hj=>rw [if_neg hj];exact⟨ι',ψ',.exit j,env',S',h1,h2,h3,rfl,h5⟩
 | _ =>
  cases e<;>simp only [XR] at h4<;>exact⟨ι',ψ',_,env',S',h1,h2,h3,h40,h5⟩
theorem vP {c:Code}{ι:List Pl}{ψ:cX}{w:World}{a:Act} (h:aX P w0 n0 N r (.it (.code c)::.it (.lp c)::k) Q .normal env S) (hR:b7 w0 ι ψ S w) (hE:eA ι ψ N env a) :
  c.wpIn (FR r) 0 P (Exit.then (LW P r (ju w0 n0 N ι ψ (aX P w0 n0 N r k Q)) c) (ju w0 n0 N ι ψ (aX P w0 n0 N r k Q))) a w:=by
 refine wpIn_mono (h ι ψ w a hR hE) fun e a' w' hp=>?_
 obtain⟨ι',ψ',x,env',S',h1,h2,h3,h4,h5⟩:=hp
 have h40:=h4
 cases x with
 | normal =>
  cases e<;>simp only [XR] at h4
  exact LW.mono (h5 ι' ψ' w' a' h2 h3) fun e2 a2 w2 hp2=>hp2.chain h1
 | _ =>
  cases e<;>simp only [XR] at h4<;>exact⟨ι',ψ',_,env',S',h1,h2,h3,h40,h5⟩
theorem fO {c:Code} (h:aX P w0 n0 N r (.it (.code c)::.it (.lp c)::k) Q .normal env S):aX P w0 n0 N r (.it (.lp c)::k) Q .normal env S :=
 fun _ _ _ _ hR hE=>LW.head (vP h hR hE)
theorem cR {c:Code} (h:aX P w0 n0 N r (.it (.code c)::.it (.lp c)::k) Q .normal env S):aX P w0 n0 N r (.it (.code (.loop c))::k) Q .normal env S :=
 fun _ _ _ _ hR hE=>LW.loop (vP h hR hE)
theorem da {id:Nat}{ops:Array Oper} (h:aX P w0 n0 N r (.it (.ops ops ops.toList)::k) Q .normal env S):aX P w0 n0 N r (.it (.code (.region id ops false))::k) Q .normal env S :=
 fun ι ψ w a hR hE=>wpIn_region_list (h ι ψ w a hR hE)
theorem cG {all:Array Oper} (h:aX P w0 n0 N r k Q .normal env S):aX P w0 n0 N r (.it (.ops all [])::k) Q .normal env S :=
 fun _ _ _ _ hR hE=>ju.here hR hE (x:=.normal) trivial h
def putA (env:cF) (d:Option Nat) (v:AV):cF :=
 match d with
 | some t=>eg env t v
 | none=>env
def bH (all:Array Oper) (env:cF) (o:Oper):Option Bool :=
 match o.guard with
 | none=>some true
 | some (j,want)=>match all[j]? with
  | some oj=>match oj.dst with
   | some d=>match env d with
    | .bool b=>some (b==want)
    | .tup []=>some false
    | _=>none
   | none=>none
  | none=>none
def dx (N:Nat):Option Nat→Bool
 | some d=>decide (d<N)
 | none=>true
theorem eA.putA {ι:List Pl}{ψ:cX}{a:Act}{d:Option Nat}{v:AV}{c:Value} (h:eA ι ψ N env a) (hv:VR ι ψ v c) (hd:dx N d=true):eA ι ψ N (putA env d v) (a.put d c):=by
 cases d with
 | none=>exact h
 | some t=>exact h.put hv (by simpa [dx] using hd)
theorem ce {ι:List Pl}{ψ:cX}{all:Array Oper}{o:Oper}{a:Act}{b:Bool} (hE:eA ι ψ N env a) (h:bH all env o=some b):jh o (yielded all a.tmps)=b:=by
 unfold bH at h
 unfold jh
 cases hg:o.guard with
 | none=>simp [hg] at h;exact h.symm
 | some p =>
  obtain⟨j,want⟩:=p
  simp only [hg] at h ⊢
  split at h
  ·next oj hj =>
   split at h
   ·next d hd =>
    split at h
    ·next b' hb =>
     simp at h;subst h
     have ht:=hE.tmp d
     rw [hb] at ht
     have ht:=ht.bool_inv
     have hlt:d<a.tmps.size:=by
      refine sm fun hge=>?_
      rw [ay,bS hge] at ht
      cases ht
     have hgt:a.tmps[d]? = some (.bool b'):=by
      rw [ay,a_ hlt] at ht
      simp at ht
      rw [a_ hlt,ht]
     simp [yielded,hj,hd,hgt]
    ·next hb =>
     simp at h;subst h
     have ht:=hE.tmp d
     rw [hb] at ht
     generalize hc:a.tmps.getD d undef=c at ht
     cases ht with
     | tup _ vs hl _ =>
      have hy:yielded all a.tmps j=none:=by
       simp only [yielded,hj,hd,Cg]
       rw [ay] at hc
       cases hq:a.tmps[d]? with
       | none=>rfl
       | some q=>rw [hq] at hc;simp at hc;subst hc;rfl
      simp [hy]
    ·cases h
   ·cases h
  ·cases h
theorem dF {all:Array Oper}{o:Oper}{l:List Oper}{v:AV}{S':List ax} (hg:bH all env o=some true) (hs:dc P S (bf w0 env) o.op=some (v,S')) (hd:dx N o.dst=true)
  (h:aX P w0 n0 N r (.it (.ops all l)::k) Q .normal (putA env o.dst v) S'):aX P w0 n0 N r (.it (.ops all (o::l))::k) Q .normal env S:=by
 intro ι ψ w a hR hE
 obtain⟨ι',ψ',w',nx,cv,h1,h2,h3,h4,h5⟩:=kq hR (fun x=>hE.eval hR x) hs
 have hw:=ce hE hg
 refine d9 hw (fun c hc=>by rw [hc] at hs;simp [dc,ez] at hs) ?_
 have hnext:wpListIn (FR r) 0 P all (ju w0 n0 N ι ψ (aX P w0 n0 N r k Q)) l (a.put o.dst cv) w' :=
  KI.mono (it:=.ops all l) (h ι' ψ' w' _ h4 ((hE.mono h3).putA h5 hd)) fun e a2 w2 hp=>hp.chain (h3.take n0)
 rw [h1]
 rcases h2 with rfl | ⟨rfl,rfl⟩
 ·exact hnext
 ·exact hnext
theorem cq {all:Array Oper}{o:Oper}{l:List Oper} (hg:bH all env o=some false) (hd:dx N o.dst=true)
  (h:aX P w0 n0 N r (.it (.ops all l)::k) Q .normal (putA env o.dst (.tup [])) S):aX P w0 n0 N r (.it (.ops all (o::l))::k) Q .normal env S:=by
 intro ι ψ w a hR hE
 have hw:=ce hE hg
 refine qP hw ?_
 exact h ι ψ w _ hR (hE.putA (.tup _ _ rfl (by simp)) hd)
def ao (P:Program) (w0:World) (f:FuncId) (args:List AV) (S:List ax) (R:df→List ax→Prop):Prop :=
 (∀ (a:Array Value) (w:World),(callFunc f a).run P w=.ok (.enter f a) w) ∧
 ∀ ι ψ w (cargs:Array Value),b7 w0 ι ψ S w→args.length=cargs.size→(∀ (j:Nat) (x:AV) (c:Value),args[j]? = some x→cargs[j]? = some c→VR ι ψ x c) →
  Calls P f cargs w fun e w'=>∃ ι' ψ' out S',cN ι ψ ι' ψ'∧b7 w0 ι' ψ' S' w'∧kP ι' ψ' out e∧R out S'
theorem ao.mono {f:FuncId}{args:List AV}{R R':df→List ax→Prop} (h:ao P w0 f args S R) (hr:∀ o S',R o S'→R' o S'):ao P w0 f args S R' :=
 ⟨h.1,fun ι ψ w cargs hR hl hv=>(h.2 ι ψ w cargs hR hl hv).mono fun _ _ ⟨ι',ψ',out,S',h1,h2,h3,h4⟩=>⟨ι',ψ',out,S',h1,h2,h3,hr _ _ h4⟩⟩
def bK (P:Program) (w0:World) (n0 N:Nat) (r:Option Nat) (all:Array Oper) (l:List Oper) (k:List TI) (Q:bN) (env:cF) (dst:Option Nat):df→List ax→Prop
 | .ret v,S=>aX P w0 n0 N r (.it (.ops all l)::k) Q .normal (putA env dst v) S
 | .panic v,S=>aX P w0 n0 N r k Q (.panic v) env S
def cE (S:List ax) (a:Nat):List ax :=
 match S[a]? with
 | some (.arr e sz _ g els)=>S.set a (.arr e sz els.length g els)
 | some (.mp false es)=>S.set a (.mp true es)
 | _=>S
def vd (S:List ax) (a:Nat):Bool :=
 match S[a]? with
 | some (.arr _ _ fz _ els)=>fz==els.length
 | some (.mp fz _)=>fz
 | _=>false
theorem ip {ι:List Pl}{ψ:cX}{w:World} (h:b7 w0 ι ψ S w) (a:Nat):∃ ψ',ψ.le ψ'∧b7 w0 ι ψ' (cE S a) w:=by
 unfold cE
 split
 ·next e sz fz g els hS=>exact h.share hS
 ·next es hS=>exact h.freezeM hS
 ·exact⟨ψ,cX.le_refl _,h⟩
theorem gJ {ι:List Pl}{w:World}:∀ (l:List Nat) (S:List ax) (ψ:cX),b7 w0 ι ψ S w→∃ ψ',ψ.le ψ'∧b7 w0 ι ψ' (l.foldl cE S) w
 | [],_,ψ,h=>⟨ψ,cX.le_refl _,h⟩
 | a::l,S,_,h=>by
  obtain⟨ψ1,h1,h2⟩:=ip h a
  obtain⟨ψ2,h3,h4⟩:=gJ l _ ψ1 h2
  exact⟨ψ2,cX.le_trans h1 h3,h4⟩
theorem iX {ι:List Pl}{ψ:cX}{w:World} (h:b7 w0 ι ψ S w):vG w ι ψ S (vd S):=by
 intro a pl B hfa hB hpl
 cases B with
 | cells cs ty=>simp [vd,hB] at hfa
 | arr e sz fz g els =>
  simp [vd,hB] at hfa
  intro kb j hk hj
  obtain⟨⟨hgen,hpsz⟩,hsize,hpos,hfz,⟨xs,hown,hxs⟩,_⟩:=h.blk a _ pl hB hpl
  obtain⟨_,v,hv,_,hro⟩:=hxs j _ (al (show j<(dg els).length by rw [cO hsize];exact hj))
  rw [hro (by rw [hfa];exact hj) kb hk]
  have:=hown.cells (g:=kb) hk j v hv
  rw [Addr.add_lit,di] at this;exact this.symm
 | mp fz es =>
  simp [vd,hB] at hfa
  subst hfa
  obtain⟨h0,hn,⟨me,ck,l,h1,h2,h3,h4,h5⟩,h6⟩:=h.blk a _ pl hB hpl
  exact⟨me,ck,h1,by simpa using h5⟩
 | loop st pend N tm ps asg body=>trivial
 | mit cur rest=>trivial
 | obj o=>trivial
 | dead=>trivial
theorem CP {all:Array Oper}{o:Oper}{l:List Oper}{fop:Operand}{args:Array Operand}{tys:Array TypeId}{f:FuncId}{first cap:List AV} (sh:List Nat)
  (hg:bH all env o=some true) (ho:o.op=.call ⟨.value fop,args,tys⟩) (hf:bf w0 env fop=.fn (.func f) first cap) (hd:dx N o.dst=true)
  (h:ao P w0 f ((first++args.toList.map (bf w0 env)++cap).map (conv (sh.foldl cE S) (vd (sh.foldl cE S)) 4)) (sh.foldl cE S) (bK P w0 n0 N r all l k Q env o.dst)) :
  aX P w0 n0 N r (.it (.ops all (o::l))::k) Q .normal env S:=by
 intro ι ψ w a hR hE
 have hw:=ce hE hg
 refine d9 hw (fun c hc=>by rw [hc] at ho;cases ho) ?_
 obtain⟨ψ1,hle,hR1⟩:=gJ (w0:=w0) sh S ψ hR
 have hE1:eA ι ψ1 N env a:=hE.mono ⟨(cN.refl ι ψ).pl,hle⟩
 have hfr:=iX hR1
 have hvf:=hE1.eval hR1 fop
 rw [hf] at hvf
 generalize hcf:a.eval fop=cf at hvf
 cases hvf with
 | fn _ _ _ vf vc hl1 hl2 h1 h2 =>
  have hres:(execOp a.eval o).run P w=.ok (.enter f (vf++args.map a.eval++vc)) w:=by
   simp [execOp,ho,resolve,hcf,Deferred.ofValue,invoke,h.1]
  rw [hres]
  refine⟨fun h=>ph r h,lQ (r:=r) ?_⟩
  refine(h.2 ι ψ1 w (vf++args.map a.eval++vc) hR1 (by simp [hl1,hl2]) ?_).mono ?_
  ·intro j x c hx hc
   rw [aF,aJ] at hx
   obtain⟨y,hy,rfl⟩:=hx
   refine gF hR1 (cX.le_refl _) hfr 4 y c ?_
   have hc':(vf.toList++args.toList.map a.eval++vc.toList)[j]? = some c:=by
    rw [← a7] at hc
    simpa using hc
   by_cases hj1:j<first.length
   ·rw [aK,ap hj1] at hy
    rw [aK,ap (by simp;omega)] at hc'
    exact h1 j y c hy (by simpa using hc')
   ·by_cases hj2:j<first.length+args.size
    ·rw [aK,aw (by omega),ap (by simp;omega)] at hy
     rw [aK,aw (by simp;omega),ap (by simp;omega)] at hc'
     simp only [c_,← hl1,aF,aJ] at hy hc'
     obtain⟨z,hz,rfl⟩:=hy
     obtain⟨z',hz',rfl⟩:=hc'
     rw [hz] at hz';cases hz'
     exact hE1.eval hR1 z
    ·rw [aw (by simp;omega)] at hy
     rw [aw (by simp;omega)] at hc'
     simp only [ah,aY,c_,← hl1] at hy hc'
     exact h2 _ y c hy (by simpa using hc')
  ·rintro e w' ⟨ι',ψ',out,S',e1,e2,e3,e4⟩
   have hx:cN ι ψ ι' ψ':=(show cN ι ψ ι ψ1 from ⟨(cN.refl ι ψ).pl,hle⟩).trans e1
   cases out with
   | ret v =>
    cases e<;>simp only [kP] at e3
    exact KI.mono (it:=.ops all l) (e4 ι' ψ' w' _ e2 ((hE1.mono e1).putA e3 hd)) fun e a2 w2 hp=>hp.chain (hx.take n0)
   | panic v =>
    cases e<;>simp only [kP] at e3
    exact⟨ι',ψ',.panic v,env,S',hx.take n0,e2,hE1.mono e1,e3,e4⟩
theorem dP {all:Array Oper}{o:Oper}{l:List Oper}{x:Operand}{t:TypeId}{v:AV} (hg:bH all env o=some true) (ho:o.op=.panic x) (hx:bf w0 env x=.ifc t v)
  (h:aX P w0 n0 N r k Q (.panic (.ifc t v)) env S):aX P w0 n0 N r (.it (.ops all (o::l))::k) Q .normal env S:=by
 intro ι ψ w a hR hE
 have hw:=ce hE hg
 refine d9 hw (fun c hc=>by rw [hc] at ho;cases ho) ?_
 have hv:=hE.eval hR x
 rw [hx] at hv
 have hv0:=hv
 generalize hc:a.eval x=c at hv
 cases hv with
 | ifc _ _ c' hc' =>
  have hres:(execOp a.eval o).run P w=.halt (.panic (.iface t c')) w:=by
   simp [execOp,ho,hc,Instr.panic]
  rw [hres]
  exact⟨ι,ψ,.panic (.ifc t v),env,S,(cN.refl ι ψ).take n0,hR,hE,⟨_,rfl,by rw [hc] at hv0;exact hv0⟩,h⟩
theorem yh {i:KI} (n:Nat) (env':cF) (hn:n0≤n) (hds:env' DS=env DS) (he:∀ t,env' t=.junk∨(env' t=env t∧(env t).lt n=true))
  (hS:∀ (j:Nat) (B:ax),j<n→S[j]? = some B→match B with
   | .cells cs _=>ltL n cs=true
   | .arr _ _ _ _ els=>ltL n els=true
   | .obj _=>True
   | .loop _ _ _ tm _ _ _=>tm.all (fun p=>p.2.lt n)=true
   | .mp _ es=>lh n es=true
   | .mit cur es=>lh n es=true∧∀ e,cur=some e→e.1.lt n=true∧e.2.lt n=true
   | .dead=>True)
  (h:aX P w0 n0 N r (.it i::k) Q .normal env' (S.take n)):aX P w0 n0 N r (.it i::k) Q .normal env S:=by
 intro ι ψ w a hR hE
 obtain⟨ψ',hle,_,hR'⟩:=hR.leave n hS
 have hE':eA (ι.take n) ψ' N env' a:=by
  have tk:∀ t,(env t).lt n=true→∀ c,VR ι ψ (env t) c→VR (ι.take n) ψ' (env t) c:=fun t ht c hc=>(hc.mono ⟨(cN.refl ι ψ).pl,hle⟩).take ht
  refine⟨hE.size,hE.bound, ?_,fun t=>?_⟩
  ·obtain⟨l,vs,h1,h2,h3,h4⟩:=hE.defers
   have hlt:ltL n l=true:=by
    rcases he DS with h5 | ⟨_,h5⟩
    ·rw [hds,h1] at h5;cases h5
    ·rw [h1] at h5;exact h5
   exact⟨l,vs,hds.trans h1,h2,fun j x v hx hv=>((h3 j x v hx hv).mono ⟨(cN.refl ι ψ).pl,hle⟩).take (cw.1 hlt x (ar hx)),h4⟩
  rcases he t with h1 | ⟨h1,h2⟩
  ·rw [h1];exact .junk _
  ·rw [h1]
   exact((hE.tmp t).mono ⟨(cN.refl ι ψ).pl,hle⟩).take h2
 refine KI.mono (h _ _ w a hR' hE') fun e a2 w2 hp=>?_
 obtain⟨ι2,ψ2,x,env2,S2,h1,h2,h3,h4,h5⟩:=hp
 refine⟨ι2,ψ2,x,env2,S2,⟨fun j p hj=>?_,cX.le_trans hle h1.psi⟩,h2,h3,h4,h5⟩
 refine h1.pl j p ?_
 rw [List.take_take,Nat.min_eq_left hn];exact hj
theorem uy {i:KI}{t:Nat} (e:TypeId) (sz:Nat) (ht:env t=.snil) (hpos:0<sz)
  (h:aX P w0 n0 N r (.it i::k) Q .normal (eg env t (.sown S.length 0 0)) (S++[.arr e sz 0 0 []])):aX P w0 n0 N r (.it i::k) Q .normal env S:=by
 intro ι ψ w a hR hE
 have hth:=hR.thaw e sz hpos
 have hx:=cN.push ι ψ ⟨0,0,.slice none 0 0,sz⟩
 have hE':eA (ι++[⟨0,0,.slice none 0 0,sz⟩]) ψ N (eg env t (.sown S.length 0 0)) a:=by
  have htd:t≠DS:=fun e=>by
   obtain⟨l,vs,h1,_⟩:=hE.defers
   rw [e,h1] at ht;cases ht
  refine⟨hE.size,hE.bound, ?_,fun s=>?_⟩
  ·obtain⟨l,vs,h1,h2,h3,h4⟩:=hE.defers
   exact⟨l,vs,by rw [eg,if_neg (Ne.symm htd)];exact h1,h2,fun j x v hx' hv=>(h3 j x v hx' hv).mono hx,h4⟩
  simp only [eg]
  split
  ·next hs =>
   subst hs
   have hv:=hE.tmp s
   rw [ht] at hv
   generalize hc:a.tmps.getD s undef=c at hv
   cases hv
   exact .sown _ _ _ _ _ ⟨0,0,.slice none 0 0,sz⟩ (by rw [← hR.len];simp) (aP _) (fun _=>rfl)
  ·exact(hE.tmp s).mono hx
 exact KI.mono (h _ _ w a hth hE') fun e a2 w2 hp=>hp.chain (hx.take n0)
def uJ (P:Program) (env:cF) (S:List ax):ResultVar→Option AV
 | .tmp t=>some (env t)
 | .cell a t=>qh P S t (env a)
def e_ (P:Program) (env:cF) (S:List ax):List ResultVar→Option (List AV)
 | []=>some []
 | r::rs=>match uJ P env S r,e_ P env S rs with
  | some v,some vs=>some (v::vs)
  | _,_=>none
def cj:List AV→AV
 | [v]=>v
 | vs=>.tup vs
end
end Go.Fen
namespace Go.Fen
open Go.RowKit
def ax.ltB (n:Nat):ax→Bool
 | .cells cs _=>ltL n cs
 | .arr _ _ _ _ els=>ltL n els
 | .obj _=>true
 | .loop _ _ _ tm _ _ _=>tm.all (fun p=>p.2.lt n)
 | .mp _ es=>lh n es
 | .mit cur es=>lh n es&&(match cur with
  | some e=>e.1.lt n&&e.2.lt n
  | none=>true)
 | .dead=>true
theorem oQ {n:Nat}{cur:Option (AV × AV)}{es:List (AV × AV)} (h:(ax.mit cur es).ltB n=true):lh n es=true∧∀ e,cur=some e→e.1.lt n=true∧e.2.lt n=true:=by
 simp only [ax.ltB,aj] at h
 refine⟨h.1, ?_⟩
 rintro e rfl
 simpa using h.2
def eu (n:Nat) (S0 S:List ax):Prop:=∀ (j:Nat) (B:ax),j<n→S[j]? = some B→S0[j]? = some B∨B.ltB n=true
theorem f_ (S0 L:List ax):eu S0.length S0 (S0++L):=by
 intro j B hj hB
 rw [ap hj] at hB
 exact .inl hB
theorem rt (S0:List ax):eu S0.length S0 S0:=fun _ _ _ h=>.inl h
def dA:List AV→List ax→Option (List ax)
 | [],S=>some S
 | .own m _::ms,S=>match S[m]? with
  | some (.obj (.deferred (some [])))=>dA ms (S.set m (.obj (.deferred none)))
  | _=>none
 | _,_=>none
def i6 (P:Program) (F:Func) (S0:List ax) (R:df→List ax→Prop):bN
 | .normal,env,S | .ret,env,S=>∃ ms S1 vs,env DS=.dfr ms∧dA ms S=some S1∧e_ P env S1 F.results.toList=some vs∧eu S0.length S0 S1 ∧
   (conv S1 (fun a=>decide (S0.length≤a)) 4 (cj vs)).lt S0.length=true∧R (.ret (conv S1 (fun a=>decide (S0.length≤a)) 4 (cj vs))) (S1.take S0.length)
 | .panic v,env,S=>∃ ms S1,env DS=.dfr ms∧dA ms S=some S1∧eu S0.length S0 S1∧(conv S1 (fun a=>decide (S0.length≤a)) 4 v).lt S0.length=true∧R (.panic (conv S1 (fun a=>decide (S0.length≤a)) 4 v)) (S1.take S0.length)
 | _,_,_=>False
def cW (args:List AV):cF:=fun t=>if t=DS then .dfr [] else (args[t]?).getD .junk
section
variable {P:Program}{w0 w:World}{ι:List Pl}{ψ:cX}{S:List ax}
theorem oT {es l:List (AV × AV)}{me:List MapEntry} (hp:l.Perm es) (h:nP ι ψ l me):lh ι.length es=true:=by
 refine dz.2 fun x hx=>?_
 obtain⟨i,hi⟩:=aQ (hp.mem_iff.2 hx)
 have hlt:i<me.length:=by rw [← h.1];exact(ab.1 hi).1
 have:=h.2 i x me[i] hi (by simp [hlt])
 exact⟨this.1.lt_len,this.2.lt_len⟩
theorem b7.ltB (h:b7 w0 ι ψ S w){j:Nat}{B:ax} (hB:S[j]? = some B):B.ltB S.length=true:=by
 obtain⟨pl,hpl,hR⟩:=h.get hB
 rw [← h.len]
 cases B with
 | cells cs ty =>
  obtain⟨_,⟨c,T,_,_,hv⟩,_⟩:=hR
  refine cw.2 fun x hx=>?_
  obtain⟨i,hi⟩:=aQ hx
  obtain⟨_,v,_,hr⟩:=hv i x hi
  exact hr.lt_len
 | arr e sz fz g els =>
  obtain⟨_,hsz,_,_,⟨xs,_,hxs⟩,_⟩:=hR
  refine cw.2 fun x hx=>?_
  obtain⟨i,hi⟩:=aQ hx
  have cell:∀ (j:Nat) (y:AV),x.cells[j]? = some y→y.lt ι.length=true:=fun j y hy=>by
   obtain⟨_,v,_,hr,_⟩:=hxs _ y (iz hsz hi hy)
   exact hr.lt_len
  cases x with
  | agg cs=>exact cw.2 fun y hy=>by obtain⟨j,hj⟩:=aQ hy;exact cell j y hj
  | _=>exact cell 0 _ rfl
 | obj o=>rfl
 | loop st pend N tm ps asg body =>
  obtain⟨_,⟨fn,vs,d,_,h2,h3⟩,_⟩:=hR
  exact aq.2 fun p hp=>(h3 p hp).lt_len
 | mp fz es =>
  obtain⟨_,hn,⟨me,c,l,h1,h2,h3,h4,h5⟩,_⟩:=hR
  exact oT h3 h4
 | mit cur rest =>
  obtain⟨_,h1,_⟩:=hR
  rcases h1 with⟨_,rfl,rfl⟩ | ⟨mb,ck,me,seen,l,k1,k2,k4,k5,k6⟩
  ·rfl
  ·simp only [ax.ltB,aj]
   refine⟨oT k4 k5, ?_⟩
   cases cur with
   | none=>rfl
   | some e =>
    obtain⟨b,m,q1,q2,q3,q4⟩:=k6 e rfl
    simp only [aj]
    exact⟨q3.lt_len,q4.lt_len⟩
 | dead=>rfl
theorem kw (h:b7 w0 ι ψ S w){N:Nat}{env:cF}{a:Act} (hE:eA ι ψ N env a):∀ (rs:List ResultVar) (vs:List AV),e_ P env S rs=some vs →
  ∃ cs:List Value,(rs.mapM (m:=Sem) fun r=>match r with
   | .tmp t=>pure (a.tmps.getD t undef)
   | .cell ad t=>do loadVar t (← asAddr (a.tmps.getD ad undef))).run P w=.ok cs w∧vs.length=cs.length∧∀ (j:Nat) (x:AV) (c:Value),vs[j]? = some x→cs[j]? = some c→VR ι ψ x c:=by
 intro rs
 induction rs with
 | nil=>intro vs hv;simp [e_] at hv;subst hv;exact⟨[],by simp,rfl,by simp⟩
 | cons r rs ih =>
  intro vs hv
  simp only [e_] at hv
  split at hv
  ·next v vs' hr hrs =>
   simp at hv;subst hv
   obtain⟨cs,h1,h2,h3⟩:=ih vs' hrs
   have key:∃ c,(match r with
     | .tmp t=>(pure (a.tmps.getD t undef):Sem Value)
     | .cell ad t=>do loadVar t (← asAddr (a.tmps.getD ad undef))).run P w=.ok c w∧VR ι ψ v c:=by
    cases r with
    | tmp t=>simp [uJ] at hr;subst hr;exact⟨_,rfl,hE.tmp t⟩
    | cell ad t =>
     simp only [uJ] at hr
     obtain⟨c,k1,k2⟩:=nr (P:=P) h (hE.tmp ad) hr
     refine⟨c, ?_,k2⟩
     show (do loadVar t (← asAddr (a.tmps.getD ad undef)):Sem Value).run P w=.ok c w
     generalize a.tmps.getD ad undef=p at k1 ⊢
     cases p with
     | pointer p=>cases p with
      | some p=>simpa [kX,cQ,asAddr] using k1
      | none=>simp [kX,cQ] at k1
     | _=>simp [kX,cQ] at k1
   obtain⟨c,k1,k2⟩:=key
   refine⟨c::cs, ?_,by simp [h2],fun j x c' hx hc=>?_⟩
   ·simp only [List.mapM_cons,bu,k1,bB,h1,eD]
   ·cases j with
    | zero=>simp at hx hc;subst hx hc;exact k2
    | succ j=>exact h3 j x c' (by simpa using hx) (by simpa using hc)
  ·cases hv
def bw (S:List ax):Prop:=∀ (j:Nat) (B:ax),S[j]? = some B→B.ltB S.length=true
theorem b7.putObj (h:b7 w0 ι ψ S w){m:Nat}{o o':Obj}{pl:Pl} (hi:S[m]? = some (.obj o)) (hpl:ι[m]? = some pl) (ho':o'.isCells=false):b7 w0 ι ψ (S.set m (.obj o')) (w.putObj pl.blk o'):=by
 obtain⟨h0,h1,h2,h3,h4⟩:=h.blk m _ pl hi hpl
 have hset:ι.set m pl=ι:=eK hpl
 have hoth:∀ k,k≠pl.blk→(w.putObj pl.blk o').heap[k]? = w.heap[k]?:=fun k hk=>World.putObj_heap_other hk
 have key:=h.update (w':=w.putObj pl.blk o') (ψ':=ψ) (B':=.obj o') (pl':=pl) hi hpl ⟨rfl,rfl,rfl,by simp,fun k hk=>hoth k (by omega)⟩ (fun k hk _=>hoth k (fun e=>hk (by simp [ax.at,e]))) (by rw [hset];exact cN.refl _ _) (by
  rw [hset]
  exact⟨h0,dK (du h1),(fun e=>by rw [ho'] at e;cases e),h3,h4⟩) (fun k hk=>.inl (by simpa [ax.at] using hk)) (fun b o v e=>.inl ⟨e,fun hk=>by
   simp [ax.at] at hk;subst hk;rw [h3 o] at e;cases e⟩) rfl
 rw [hset] at key;exact key
theorem iV {F:Fence}{n:Nat}{fn:Func}{tmps:Array Value}{R:Ending→World→Prop}{u:FrameMode} (hu:u≠.run):∀ (ms:List AV) (vs:List Value) (S S1:List ax) (w:World),dA ms S=some S1→ms.length=vs.length →
  (∀ (j:Nat) (x:AV) (v:Value),ms[j]? = some x→vs[j]? = some v→VR ι ψ x v)→b7 w0 ι ψ S w→(∀ w1,b7 w0 ι ψ S1 w1→LeavesInM F n P fn tmps R [] u w1)→LeavesInM F n P fn tmps R (vs.map sI) u w:=by
 intro ms
 induction ms with
 | nil =>
  intro vs S S1 w h hl _ hR hk
  simp only [dA,a8] at h;subst h
  obtain rfl:vs=[]:=mM.1 hl.symm
  exact hk w hR
 | cons x ms ih =>
  intro vs S S1 w h hl hv hR hk
  cases vs with
  | nil=>simp at hl
  | cons v vs =>
   cases x with
   | own m off =>
    simp only [dA] at h
    split at h
    ·next hS =>
     have hx:=hv 0 _ _ rfl rfl
     cases hx with
     | own _ _ pl hpl =>
      obtain⟨h0,h1,h2,h3,h4⟩:=hR.blk m _ pl hS hpl
      refine⟨hu,.inl ⟨pl.blk,_,rfl,run_takeDeferred h1, ?_⟩⟩
      exact ih vs _ S1 _ h (by simpa using hl) (fun j x v hx hv'=>hv (j+1) x v hx hv') (hR.putObj hS hpl rfl) hk
    ·cases h
   | _=>simp [dA] at h
theorem enter {f:FuncId}{F:Func}{c:Code}{args:List AV}{R:df→List ax→Prop} (hf:P.funcs[f]? = some F) (hb:F.body=some c) (hname:(F.name == "runtime.NumGoroutine")=false) (hargs:args.length≤F.ntmps) (hbd:F.ntmps≤DS)
  (h0:bw S→aX P w0 S.length F.ntmps none [.it (.code c)] (i6 P F S R) .normal (cW args) S):ao P w0 f args S R:=by
 refine⟨fun a w=>by simp only [callFunc,bu,run_program,bB,hf,hname,hb];rfl,fun ι ψ w cargs hR hl hv=>?_⟩
 have h:=h0 fun j B hB=>hR.ltB hB
 refine(callsIn_wide (n:=0)).1 ?_
 refine callsIn_of_wp_marks (F:=Fence.wide) hf hb trivial ?_
 have hE:eA ι ψ F.ntmps (cW args) { tmps:=cargs++bI (F.ntmps - cargs.size) undef,defers:=[] }:=by
  refine⟨by simp;omega,hbd,⟨[],[],by simp [cW],rfl,by simp,rfl⟩,fun t=>?_⟩
  simp only [cW]
  split
  ·next ht =>
   have:(cargs++bI (F.ntmps - cargs.size) undef).getD t undef=undef:=by
    rw [ay,bS (by simp;omega)];rfl
   rw [this]
   exact .dfr [] [] rfl (by simp)
  ·by_cases ht:t<args.length
   ·have e1:args[t]? = some args[t]:=al ht
    have ht':t<cargs.size:=by omega
    have e2:cargs[t]? = some cargs[t]:=a_ ht'
    rw [e1,ay,fq ht',e2]
    exact hv t _ _ e1 e2
   ·rw [bz (by omega)]
    exact .junk _
 refine wpIn_mono (h ι ψ w _ hR hE) fun e a' w' hp=>?_
 obtain⟨ι',ψ',x,env,S',h1,h2,h3,h4,h5⟩:=hp
 have hext:cN ι ψ ι' ψ':=by rw [← hR.len,bk] at h1;exact h1
 obtain⟨ds,dvs,d1,d2,d3,d4⟩:=h3.defers
 have leave:∀ S1 w1 v c,b7 w0 ι' ψ' S1 w1→eu S.length S S1→VR ι' ψ' v c→(conv S1 (fun a=>decide (S.length≤a)) 4 v).lt S.length=true →
   ∃ ι'' ψ'',cN ι ψ ι'' ψ''∧b7 w0 ι'' ψ'' (S1.take S.length) w1∧VR ι'' ψ'' (conv S1 (fun a=>decide (S.length≤a)) 4 v) c:=by
  intro S1 w1 v c h2 ho hv hlt
  obtain⟨ψ'',k1,k2,k3⟩:=h2.leave S.length (fun j B hj hB=>by
   have:B.ltB S.length=true:=(ho j B hj hB).elim (fun e=>hR.ltB e) id
   cases B<;>first | exact this | (exact oQ this) | trivial)
  refine⟨ι'.take S.length,ψ'',⟨fun i p hp=>?_,cX.le_trans hext.psi k1⟩,k3,(gF h2 k1 k2 4 v c hv).take hlt⟩
  obtain⟨p',e1,e2⟩:=hext.pl i p hp
  have:i<S.length:=by rw [← hR.len];exact(ab.1 hp).1
  exact⟨p',by rw [aV,if_pos this];exact e1,e2⟩
 have ret:∀ (h5:∃ ms S1 vs,env DS=.dfr ms∧dA ms S'=some S1∧e_ P env S1 F.results.toList=some vs∧eu S.length S S1 ∧
   (conv S1 (fun a=>decide (S.length≤a)) 4 (cj vs)).lt S.length=true∧R (.ret (conv S1 (fun a=>decide (S.length≤a)) 4 (cj vs))) (S1.take S.length)),
   LeavesInM Fence.wide 0 P F a'.tmps (fun e w'=>∃ ι' ψ' out S',cN ι ψ ι' ψ'∧b7 w0 ι' ψ' S' w'∧kP ι' ψ' out e∧R out S') a'.defers .returning w':=by
  rintro⟨ms,S1,vs,q1,q2,r1,r2,r3,r4⟩
  rw [q1] at d1;cases d1
  rw [d4]
  refine iV (by simp) ds dvs S' S1 w' q2 d2 d3 h2 fun w1 hR1=>?_
  obtain⟨cs,q1,q2,q3⟩:=kw (P:=P) hR1 h3 _ vs r1
  have hrun:(results F a'.tmps).run P w1=.ok (if h:cs.toArray.size=1 then cs.toArray[0] else .tuple cs.toArray) w1:=by
   unfold results
   rw [jw]
   simp only [bu,Ce]
   erw [q1]
   rfl
  have hv:VR ι' ψ' (cj vs) (if h:cs.toArray.size=1 then cs.toArray[0] else .tuple cs.toArray):=by
   match vs,cs,q2,q3 with
   | [],[],_,_=>exact .tup _ _ rfl (by simp)
   | [v],[c],_,q3=>simpa [cj] using q3 0 v c rfl rfl
   | v1::v2::vs,c1::c2::cs,q2,q3 =>
    simp only [cj,eR,aI]
    rw [dif_neg (by omega)]
    exact .tup _ _ (by simpa using q2) (fun j x c hx hc=>q3 j x c hx (by simpa using hc))
   | [],_::_,q2,_=>simp at q2
   | [_],[],q2,_=>simp at q2
   | [_],_::_::_,q2,_=>simp at q2
   | _::_::_,[],q2,_=>simp at q2
   | _::_::_,[_],q2,_=>simp at q2
  obtain⟨ι'',ψ'',e1,e2,e3⟩:=leave S1 w1 _ _ hR1 r2 hv r3
  exact⟨_,hrun,ι'',ψ'',.ret _,_,e1,e2,e3,r4⟩
 cases x with
 | normal=>cases e<;>simp only [XR] at h4;exact ret h5
 | ret=>cases e<;>simp only [XR] at h4;exact ret h5
 | exit id=>exact h5.elim
 | goto l=>exact h5.elim
 | panic v =>
  cases e<;>simp only [XR] at h4
  obtain⟨c,rfl,hv⟩:=h4
  obtain⟨ms,S1,q1,q2,r2,r3,r4⟩:=h5
  rw [q1] at d1;cases d1
  show LeavesInM _ _ _ _ _ _ a'.defers _ _
  rw [d4]
  refine iV (by simp) ds dvs S' S1 w' q2 d2 d3 h2 fun w1 hR1=>?_
  obtain⟨ι'',ψ'',e1,e2,e3⟩:=leave S1 w1 _ _ hR1 r2 hv r3
  exact⟨ι'',ψ'',.panic _,_,e1,e2,⟨c,rfl,e3⟩,r4⟩
end
mutual
theorem AV.lt_mono {n m:Nat} (h:n≤m):∀ x:AV,x.lt n=true→x.lt m=true
 | .own ..,hx=>by simp only [AV.lt,decide_eq_true_eq] at hx ⊢;omega
 | .oel ..,hx=>by simp only [AV.lt,decide_eq_true_eq] at hx ⊢;omega
 | .sown ..,hx=>by simp only [AV.lt,decide_eq_true_eq] at hx ⊢;omega
 | .mown ..,hx=>by simp only [AV.lt,decide_eq_true_eq] at hx ⊢;omega
 | .yld _,hx=>by simp only [AV.lt,decide_eq_true_eq] at hx ⊢;omega
 | .pro cs,hx=>fw h cs hx
 | .sval _ els,hx=>fw h els hx
 | .mval es,hx=>mn h es hx
 | .fn _ a c,hx=>by
  simp only [AV.lt,aj] at hx ⊢
  exact⟨fw h a hx.1,fw h c hx.2⟩
 | .ifc _ v,hx=>AV.lt_mono h v hx
 | .agg cs,hx=>fw h cs hx
 | .tup cs,hx=>fw h cs hx
 | .dfr cs,hx=>fw h cs hx
 | .int ..,_=>rfl
 | .bool _,_=>rfl
 | .str _,_=>rfl
 | .nilp,_=>rfl
 | .mnil,_=>rfl
 | .snil,_=>rfl
 | .fnil,_=>rfl
 | .inil,_=>rfl
 | .val _,_=>rfl
 | .junk,_=>rfl
theorem fw {n m:Nat} (h:n≤m):∀ l:List AV,ltL n l=true→ltL m l=true
 | [],_=>rfl
 | x::r,hx=>by
  simp only [ltL,aj] at hx ⊢
  exact⟨AV.lt_mono h x hx.1,fw h r hx.2⟩
theorem mn {n m:Nat} (h:n≤m):∀ l:List (AV × AV),lh n l=true→lh m l=true
 | [],_=>rfl
 | (a,b)::r,hx=>by
  simp only [lh,aj] at hx ⊢
  exact⟨⟨AV.lt_mono h a hx.1.1,AV.lt_mono h b hx.1.2⟩,mn h r hx.2⟩
end
theorem ax.ltB_mono {n m:Nat} (h:n≤m){B:ax} (hB:B.ltB n=true):B.ltB m=true:=by
 cases B with
 | cells cs ty=>exact fw h cs hB
 | arr e sz fz g els=>exact fw h els hB
 | obj o=>rfl
 | loop st pend N tm ps asg body=>exact aq.2 fun p hp=>AV.lt_mono h p.2 (aq.1 hB p hp)
 | mp fz es=>exact mn h es hB
 | mit cur es =>
  simp only [ax.ltB,aj] at hB ⊢
  refine⟨mn h es hB.1, ?_⟩
  cases cur with
  | none=>rfl
  | some e =>
   have:=hB.2
   simp only [aj] at this ⊢
   exact⟨AV.lt_mono h e.1 this.1,AV.lt_mono h e.2 this.2⟩
 | dead=>rfl
section
variable {P:Program}{w0:World}{n0 N:Nat}{r:Option Nat}{Q:bN}{k:List TI}{env:cF}{S:List ax}
theorem eJ {c:Code}{α:Type} (I:α→cF→List ax→Prop) (μ:α→Nat) (a0:α) (h0:I a0 env S)
  (step:∀ (a:α) (env:cF) (S:List ax),I a env S→(∀ (a':α) (env':cF) (S':List ax),μ a'<μ a→I a' env' S'→aX P w0 n0 N r (.it (.lp c)::k) Q .normal env' S') →
   aX P w0 n0 N r (.it (.code c)::.it (.lp c)::k) Q .normal env S):aX P w0 n0 N r (.it (.code (.loop c))::k) Q .normal env S:=by
 have key:∀ (m:Nat) (a:α) (env:cF) (S:List ax),μ a=m→I a env S→aX P w0 n0 N r (.it (.code c)::.it (.lp c)::k) Q .normal env S:=by
  intro m
  induction m using um with
  | _ m ih =>
   intro a env S hm hI
   exact step a env S hI fun a' env' S' hlt hI'=>fO (ih (μ a') (hm▸hlt) a' env' S' rfl hI')
 exact cR (key _ a0 env S rfl h0)
def gg (L:List Nat) (env:cF):cF:=fun t=>if t=DS then env t else if L.contains t then env t else .junk
theorem fT {i:KI}{S0 L:List ax} (hO:bw S0) (m:Nat) (sl:List Nat) (hn:n0=S0.length) (hds:(env DS).lt (S0.length+m)=true) (hsl:sl.all (fun t=>(env t).lt (S0.length+m))=true) (hL:(L.take m).all (fun B=>B.ltB (S0.length+m))=true)
  (h:aX P w0 n0 N r (.it i::k) Q .normal (gg sl env) (S0++L.take m)):aX P w0 n0 N r (.it i::k) Q .normal env (S0++L):=by
 refine yh (S0.length+m) (gg sl env) (by omega) (by simp [gg]) (fun t=>?_) (fun j B hj hB=>?_) ?_
 ·unfold gg
  split
  ·next ht=>subst ht;exact .inr ⟨rfl,hds⟩
  split
  ·next ht=>exact .inr ⟨rfl,aq.1 hsl t (by simpa using ht)⟩
  ·exact .inl rfl
 ·have:B.ltB (S0.length+m)=true:=by
   by_cases hj0:j<S0.length
   ·rw [ap hj0] at hB
    exact ax.ltB_mono (by omega) (hO j B hB)
   ·rw [aw (by omega)] at hB
    refine aq.1 hL B (ar (i:=j - S0.length) ?_)
    rw [aV,if_pos (by omega)];exact hB
  cases B<;>first | exact this | (exact oQ this) | trivial
 ·rw [List.take_append,cA (by omega),x6]
  exact h
end
end Go.Fen
namespace Go.Fen
theorem wj (S L:List ax) (i:Nat):(S++L)[S.length+i]? = L[i]?:=by
 rw [aw (by omega)];congr 1;omega
theorem zq (S L:List ax):(S++L)[S.length]? = L[0]?:=wj S L 0
theorem vV (S L:List ax) (i:Nat) (B:ax):(S++L).set (S.length+i) B=S++L.set i B:=by
 rw [cZ _ _ (by omega)];congr 2;omega
theorem yD (S L:List ax) (B:ax):(S++L).set S.length B=S++L.set 0 B:=vV S L 0 B
theorem ng (S L M:List ax):S++L++M=S++(L++M):=aK S L M
theorem BA (S L:List ax):(S++L).length=S.length+L.length:=ah
theorem yy (S L:List ax):(S++L).take S.length=S:=kU
theorem wN (S:List ax):S.take S.length=S:=bk
theorem DL (n i:Nat):decide (n≤n+i)=true:=by simp
theorem BE (n:Nat):decide (n≤n)=true:=by simp
theorem DJ (n i:Nat):decide (n+i<n)=false:=by simp
theorem Bv (n i j:Nat):decide (n+i<n+j)=decide (i<j):=by simp
theorem Bu (n j:Nat):decide (n<n+j)=decide (0<j):=by simp
theorem u_ (L:List Nat) (env:cF) (t:Nat) (h:L.contains t=true):gg L env t=env t:=by unfold gg;simp only [h,if_true,ite_self]
theorem va (L:List Nat) (env:cF):gg L env 1000000=env 1000000:=by unfold gg;rw [if_pos rfl]
theorem uY (n:Nat):(0≤(n:Int))=True:=by simp
theorem wL (n:Nat):(n:Int).toNat=n:=Int.toNat_natCast n
theorem yn (env:cF) (t:Nat) (v:AV):eg env t v t=v:=by simp [eg]
theorem wI (env:cF) (t s:Nat) (v:AV) (h:(s==t)=false):eg env t v s=env s:=by
 simp at h;simp [eg,h]
section
variable {P:Program}{w0:World}{n0 N:Nat}{r:Option Nat}{Q:bN}{k:List TI}{env:cF}{S:List ax}
theorem cI {i:KI}{id:Nat} (h:aX P w0 n0 N r k Q (.exit id) env S):aX P w0 n0 N r (.it i::k) Q (.exit id) env S:=h
theorem dd {i:KI} (h:aX P w0 n0 N r k Q .ret env S):aX P w0 n0 N r (.it i::k) Q .ret env S:=h
theorem cr {i:KI}{v:AV} (h:aX P w0 n0 N r k Q (.panic v) env S):aX P w0 n0 N r (.it i::k) Q (.panic v) env S:=h
theorem ct {id:Nat} (h:aX P w0 n0 N r k Q .normal env S):aX P w0 n0 N r (.blk id::k) Q (.exit id) env S:=by
 simp only [aX,if_true];exact h
theorem bV {id j:Nat} (hne:(j==id)=false) (h:aX P w0 n0 N r k Q (.exit j) env S):aX P w0 n0 N r (.blk id::k) Q (.exit j) env S:=by
 simp only [aX];rw [if_neg (by simpa using hne)];exact h
theorem gu {id:Nat} (h:aX P w0 n0 N r k Q .normal env S):aX P w0 n0 N r (.blk id::k) Q .normal env S:=h
theorem cH {id:Nat} (h:aX P w0 n0 N r k Q .ret env S):aX P w0 n0 N r (.blk id::k) Q .ret env S:=h
theorem bU {id:Nat}{v:AV} (h:aX P w0 n0 N r k Q (.panic v) env S):aX P w0 n0 N r (.blk id::k) Q (.panic v) env S:=h
theorem gr {x:AX} (h:Q x env S):aX P w0 n0 N r [] Q x env S:=h
theorem dQ {c:Operand}{d e:Code} (hc:bf w0 env c=.bool true) (h:aX P w0 n0 N r (.it (.code d)::k) Q .normal env S):aX P w0 n0 N r (.it (.code (.cond c d e))::k) Q .normal env S:=uz hc h
theorem dS {c:Operand}{d e:Code} (hc:bf w0 env c=.bool false) (h:aX P w0 n0 N r (.it (.code e)::k) Q .normal env S):aX P w0 n0 N r (.it (.code (.cond c d e))::k) Q .normal env S:=uz hc h
theorem db {all:Array Oper}{o:Oper}{l:List Oper}{b:Bool} (_h0:o.guard.isSome=true) (_hg:bH all env o=some b) (h1:b=true→aX P w0 n0 N r (.it (.ops all (o::l))::k) Q .normal env S) (h2:b=false→aX P w0 n0 N r (.it (.ops all (o::l))::k) Q .normal env S) :
  aX P w0 n0 N r (.it (.ops all (o::l))::k) Q .normal env S:=by
 cases b
 ·exact h2 rfl
 ·exact h1 rfl
theorem dR {c:Operand}{d e:Code}{t:Bool} (hc:bf w0 env c=.bool t) (h1:t=true→aX P w0 n0 N r (.it (.code d)::k) Q .normal env S) (h2:t=false→aX P w0 n0 N r (.it (.code e)::k) Q .normal env S) :
  aX P w0 n0 N r (.it (.code (.cond c d e))::k) Q .normal env S:=by
 refine uz hc ?_
 cases t
 ·exact h2 rfl
 ·exact h1 rfl
theorem dN {all:Array Oper}{o:Oper}{l:List Oper}{v:AV}{S':List ax} (hg:o.guard=none) (hs:dc P S (bf w0 env) o.op=some (v,S')) (hd:dx N o.dst=true)
  (h:aX P w0 n0 N r (.it (.ops all l)::k) Q .normal (putA env o.dst v) S'):aX P w0 n0 N r (.it (.ops all (o::l))::k) Q .normal env S :=
 dF (by simp [bH,hg]) hs hd h
def Aj (S:List ax) (l:List AV):List AV:=l.map (conv S (vd S) 4)
theorem BU (S:List ax):Aj S []=[]:=rfl
theorem zK (S:List ax) (x:AV) (l:List AV):Aj S (x::l)=conv S (vd S) 4 x::Aj S l:=rfl
theorem vp (S:List ax) (a b:List AV):Aj S (a++b)=Aj S a++Aj S b:=bg
theorem dT {all:Array Oper}{o:Oper}{l:List Oper}{fop:Operand}{args:Array Operand}{tys:Array TypeId}{f:FuncId}{first cap A:List AV}{S1:List ax} (sh:List Nat)
  (hg:bH all env o=some true) (ho:o.op=.call ⟨.value fop,args,tys⟩) (hf:bf w0 env fop=.fn (.func f) first cap) (hd:dx N o.dst=true)
  (hS:sh.foldl cE S=S1) (hA:Aj S1 (first++args.toList.map (bf w0 env)++cap)=A)
  (h:ao P w0 f A S1 (bK P w0 n0 N r all l k Q env o.dst)) :
  aX P w0 n0 N r (.it (.ops all (o::l))::k) Q .normal env S:=by
 subst hS hA
 exact CP sh hg ho hf hd h
theorem wm {F:Func}{S0 S1 S2:List ax}{R:df→List ax→Prop}{ms vs:List AV}{v:AV} (h0:env DS=.dfr ms) (h01:dA ms S=some S2) (h1:e_ P env S2 F.results.toList=some vs) (h2:eu S0.length S0 S2)
  (h3:conv S2 (fun a=>decide (S0.length≤a)) 4 (cj vs)=v) (h4:v.lt S0.length=true) (h5:S2.take S0.length=S1) (h:R (.ret v) S1):i6 P F S0 R .ret env S:=by
 subst h3 h5
 exact⟨ms,S2,vs,h0,h01,h1,h2,h4,h⟩
theorem Fe {F:Func}{S0 S1 S2:List ax}{R:df→List ax→Prop}{ms vs:List AV}{v:AV} (h0:env DS=.dfr ms) (h01:dA ms S=some S2) (h1:e_ P env S2 F.results.toList=some vs) (h2:eu S0.length S0 S2)
  (h3:conv S2 (fun a=>decide (S0.length≤a)) 4 (cj vs)=v) (h4:v.lt S0.length=true) (h5:S2.take S0.length=S1) (h:R (.ret v) S1):i6 P F S0 R .normal env S:=wm h0 h01 h1 h2 h3 h4 h5 h
theorem BO {F:Func}{S0 S1 S2:List ax}{R:df→List ax→Prop}{ms:List AV}{v v':AV} (h0:env DS=.dfr ms) (h01:dA ms S=some S2) (h2:eu S0.length S0 S2)
  (h3:conv S2 (fun a=>decide (S0.length≤a)) 4 v=v') (h4:v'.lt S0.length=true) (h5:S2.take S0.length=S1) (h:R (.panic v') S1):i6 P F S0 R (.panic v) env S:=by
 subst h3 h5
 exact⟨ms,S2,h0,h01,h2,h4,h⟩
end
theorem xM (b:Bool):(b==true)=b:=by cases b<;>rfl
theorem vw (b:Bool):(b==false) = !b:=by cases b<;>rfl
theorem xh (n:Nat) (cs:List AV) (ty:Option TypeId):(ax.cells cs ty).ltB n=ltL n cs:=rfl
theorem we (n:Nat) (e:TypeId) (a b c:Nat) (els:List AV):(ax.arr e a b c els).ltB n=ltL n els:=rfl
theorem Bw (n:Nat) (o:Obj):(ax.obj o).ltB n=true:=rfl
theorem zf (n:Nat) (st:LoopState) (pend:Option Code) (N:Nat) (tm:List (Nat × AV)) (ps:Array Tmp) (asg body:Code):(ax.loop st pend N tm ps asg body).ltB n=tm.all (fun p=>p.2.lt n):=rfl
theorem DK (n:Nat) (fz:Bool) (es:List (AV × AV)):(ax.mp fz es).ltB n=lh n es:=rfl
theorem ze (n:Nat) (es:List (AV × AV)):(ax.mit none es).ltB n=(lh n es&&true):=rfl
theorem zd (n:Nat) (e:AV × AV) (es:List (AV × AV)):(ax.mit (some e) es).ltB n=(lh n es&&(e.1.lt n&&e.2.lt n)):=rfl
theorem zg (n:Nat):ax.dead.ltB n=true:=rfl
theorem nL (S0 L:List ax):eu S0.length S0 (S0++L)=True:=eq_true (f_ S0 L)
theorem pS (S0:List ax):eu S0.length S0 S0=True:=eq_true (rt S0)
attribute [go_sem] uY wL aF aY u_ va List.contains_cons List.contains_nil Bool.or_true Bool.true_or eI uq xh we Bw zf DK ze zd zg xM vw nL pS
theorem oU (n:Nat) (a b:List AV):ltL n (a++b)=(ltL n a&&ltL n b):=by
 induction a with
 | nil=>simp [ltL]
 | cons x a ih=>simp [ltL,ih,CN]
theorem pP (a b:List AV):plainL (a++b)=(plainL a&&plainL b):=by
 induction a with
 | nil=>simp [plainL]
 | cons x a ih=>simp [plainL,ih,CN]
attribute [go_sem] BU zK vp oU pP List.all_append dA DS dc ez bf gK n_ mr wk dW iv dp jb pW oW kI ml em h_ rg tq o9 jB nl Option.orElse_some Option.orElse_none ji List.find?_nil ed fc putA bH dx qh sZ jX rR kz rP rI lL qY j9 B3 k_ nX qZ BR xY ny mt FG pp xm fh BD mD kH eV sb kZ
 oa oD cC iZ jH qU gN AV.cells AV.leaf AV.isJunk Ai lG cW e_ uJ cj conv AV.plain plainL AV.lt ltL bK cE vd
 wj zq vV yD ng BA yy wN DL BE DJ Bv Bu yn wI cS bne_iff_ne beq_self_eq_true bne_self_eq_false
 List.getElem?_cons_zero List.getElem?_cons_succ Ci List.set_cons_succ aI aU cz cU aE
 fN List.drop_succ_cons co cy List.take_nil List.drop_nil List.head?_cons aA aC lg List.all_nil ee List.foldl_nil
 cu pF nR Option.getD_none List.getElem?_nil
 Bool.and_true lX Bool.false_and Bool.and_false x9 CM kf di bx and_self and_true true_and true_or or_true false_or or_false false_and and_false
 ite_true ite_false if_true if_false eq_self bt ec decide_true decide_false bJ Option.isSome_some Option.isSome_none List.isEmpty_cons List.isEmpty_nil
end Go.Fen
namespace Go.Fen
open Go.RowKit
def sr:AV→List Nat
 | .own a _=>[a]
 | .oel a _ _ _=>[a]
 | .sown a _ _=>[a]
 | .mown a=>[a]
 | _=>[]
def j8 (ρ:Operand→AV):Op→List Nat
 | .load _ a=>sr (ρ a)
 | .convert _ _ x=>sr (ρ x)
 | .indexAddr _ x _=>sr (ρ x)
 | .lookup _ x _ _=>sr (ρ x)
 | .entry x=>sr (ρ x)
 | .call c=>c.args.toList.flatMap fun x=>sr (ρ x)
 | _=>[]
theorem vr {P:Program}{S S':List ax}{s d:TypeId}{x:AV} (h:∀ a∈sr x,S'[a]? = S[a]?):pp P S' s d x=pp P S s d x:=by
 unfold pp
 cases hs:P.underlying s with
 | none=>rfl
 | some a =>
  cases hd:P.underlying d with
  | none=>cases a<;>rfl
  | some b =>
   cases x with
   | sown u g n =>
    have e:=h u (by simp [sr])
    cases b<;>first | rfl | (cases a<;>first | rfl | (simp only [e]))
   | own u o =>
    have e:=h u (by simp [sr])
    cases o<;>cases a<;>first | rfl | (cases b<;>first | rfl | (simp only [e]))
   | _=>cases b<;>first | rfl | (cases a<;>rfl)
theorem tw {P:Program}{S S':List ax}{t:TypeId}{x i:AV} (h:∀ a g n,x=.sown a g n→S'[a]? = S[a]?):lL P S' t x i=lL P S t x i:=by
 unfold lL
 cases hs:P.underlying t with
 | none=>rfl
 | some a =>
  cases x with
  | sown u g n =>
   have e:=h u g n rfl
   cases a<;>first | rfl | (cases i<;>first | rfl | (simp only [e]))
  | _=>cases a<;>first | rfl | (cases i<;>rfl)
theorem rF {P:Program}{S S':List ax}{t:TypeId}{x i:AV}{ok:Bool} (h:∀ a,x=.mown a→S'[a]? = S[a]?):gK P S' t x i ok=gK P S t x i ok:=by
 have:kI S' x=kI S x:=by
  cases x<;>simp only [kI]
  rw [h _ rfl]
 unfold gK
 rw [this]
theorem uM {P:Program}{S S':List ax}{ρ:Operand→AV}{op:Op} (h:∀ a∈j8 ρ op,S'[a]? = S[a]?):ez P S' ρ op=ez P S ρ op:=by
 cases op with
 | load t a =>
  simp only [ez,qh]
  simp only [j8] at h
  cases hx:ρ a<;>simp only [hx,sr,aZ,forall_eq] at h<;>simp only [sZ]
  ·rw [h]
  ·rw [h]
 | convert s d x =>
  simp only [ez]
  exact vr fun a ha=>h a (by simpa [j8] using ha)
 | indexAddr t x i =>
  simp only [ez]
  exact tw fun a g n e=>h a (by simp [j8,e,sr])
 | lookup t x i ok =>
  simp only [ez]
  exact rF fun a e=>h a (by simp [j8,e,sr])
 | entry x =>
  simp only [ez]
  simp only [j8] at h
  cases hx:ρ x<;>simp only [o9]
  next a o =>
   cases o
   ·have:=h a (by simp [hx,sr])
    simp only [this]
   ·rfl
 | call c =>
  obtain⟨callee,args,ts⟩:=c
  cases callee with
  | builtin b =>
   simp only [ez,mD]
   split
   ·next a g n hargs =>
    have hx:∃ y∈args.toList,ρ y=.sown a g n:=by
     have:(AV.sown a g n)∈args.toList.map ρ:=by rw [hargs];simp
     simpa using aH.1 this
    obtain⟨y,hy,hya⟩:=hx
    have:=h a (by simp only [j8,List.mem_flatMap];exact⟨y,hy,by rw [hya];simp [sr]⟩)
    simp only [this]
   ·rfl
   ·next x t hargs hts =>
    have hl:tq S' P t x=tq S P t x:=by
     unfold tq
     cases P.underlying t with
     | none=>rfl
     | some d =>
      cases x with
      | mown a =>
       have hx:∃ y∈args.toList,ρ y=.mown a:=by
        have:(AV.mown a)∈args.toList.map ρ:=by rw [hargs];simp
        simpa using aH.1 this
       obtain⟨y,hy,hya⟩:=hx
       have:=h a (by simp only [j8,List.mem_flatMap];exact⟨y,hy,by rw [hya];simp [sr]⟩)
       cases d<;>first | rfl | simp only [this]
      | _=>cases d<;>rfl
    rw [hl]
   all_goals first | rfl | (simp_all)
  | _=>rfl
 | _=>rfl
def iw:Op→Bool
 | .alloc _ | .box _ _ | .buildSlice _ _ _ | .store _ _ _ | .makeSlice _ _ _ | .makeMap _ _ | .mapUpdate _ _ _ _ | .insert _ _ _ _ | .range _ _=>false
 | .call c=>match c.callee with
  | .builtin .len | .builtin .min | .builtin .max | .builtin .unsafeSliceData=>true
  | _=>false
 | _=>true
theorem l9 {P:Program}{S:List ax}{ρ:Operand→AV}{op:Op} (h:iw op=true):dc P S ρ op=(ez P S ρ op).map (fun v=>(v,S)):=by
 cases op<;>first | rfl | simp [iw] at h | skip
 rename_i c
 obtain⟨callee,args,ts⟩:=c
 cases callee with
 | builtin b=>cases b<;>first | rfl | simp [iw] at h
 | _=>simp [iw] at h
theorem k9 {ρ ρ':Operand→AV}{x:Option Operand} (h:∀ y,x=some y→ρ' y=ρ y):x.map ρ'=x.map ρ:=by
 cases x with
 | none=>rfl
 | some y=>simp [h y rfl]
theorem gA {ρ ρ':Operand→AV}{x:List Operand} (h:∀ y∈x,ρ' y=ρ y):x.map ρ'=x.map ρ:=List.map_congr_left h
theorem np {ρ ρ':Operand→AV}{x:List (Nat × Operand)} (h:∀ y∈x.map (·.2),ρ' y=ρ y):x.map (fun p=>(p.1,ρ' p.2))=x.map (fun p=>(p.1,ρ p.2)) :=
 List.map_congr_left fun p hp=>by rw [h _ (b_ hp)]
theorem nk {P:Program}{S:List ax}{ρ ρ':Operand→AV}{op:Op} (h:∀ x∈op.operands,ρ' x=ρ x):ez P S ρ' op=ez P S ρ op:=by
 cases op with
 | build t parts=>simp only [ez];rw [np fun y hy=>h y (by simpa [bc] using hy)]
 | makeFunc fn first cap =>
  simp only [ez]
  rw [gA (x:=first.toList) fun y hy=>h y (by simp [bc];exact .inl (by simpa using hy)),gA (x:=cap.toList) fun y hy=>h y (by simp [bc];exact .inr (by simpa using hy))]
 | slice t x lo hi mx =>
  simp only [ez]
  rw [h x (by simp [bc]),k9 (x:=lo) fun y hy=>h y (by simp [bc,hy]),k9 (x:=hi) fun y hy=>h y (by simp [bc,hy]),k9 (x:=mx) fun y hy=>h y (by simp [bc,hy])]
 | call c =>
  obtain⟨callee,args,ts⟩:=c
  simp only [ez]
  rw [gA (x:=args.toList) fun y hy=>h y (by simp [bc,Call.operands];exact .inr (by simpa using hy))]
 | _=>simp [bc] at h<;>simp [ez,h]
theorem iR {P:Program}{S:List ax}{ρ ρ':Operand→AV}{op:Op} (h:∀ x∈op.operands,ρ' x=ρ x):dc P S ρ' op=dc P S ρ op:=by
 cases op with
 | buildSlice t len parts=>simp only [dc];rw [np fun y hy=>h y (by simpa [bc] using hy)]
 | call c =>
  have hp:=nk (P:=P) (S:=S) h
  obtain⟨callee,args,ts⟩:=c
  have ha:∀ y∈args.toList,ρ' y=ρ y:=fun y hy=>h y (by simp [bc,Call.operands];exact .inr (by simpa using hy))
  simp only [dc,hp]
  split
  ·next s x t tx hs hx =>
   rw [ha s (by rw [hs];simp),ha x (by rw [hs];simp)]
  ·next s x t tx hs hx =>
   rw [ha s (by rw [hs];simp),ha x (by rw [hs];simp)]
  ·rfl
 | alloc t=>rfl
 | box t x=>simp only [dc];rw [h x (by simp [bc])]
 | makeSlice t l c=>simp only [dc];rw [h l (by simp [bc]),h c (by simp [bc])]
 | store t a v=>simp only [dc];rw [h a (by simp [bc]),h v (by simp [bc])]
 | insert t m k v=>simp only [dc];rw [h m (by simp [bc]),h k (by simp [bc]),h v (by simp [bc])]
 | mapUpdate t m k v=>simp only [dc];rw [h m (by simp [bc]),h k (by simp [bc]),h v (by simp [bc])]
 | makeMap t r=>simp only [dc];rw [k9 (x:=r) fun y hy=>h y (by simp [bc,hy])]
 | range t x=>simp only [dc];rw [h x (by simp [bc])]
 | _=>simp only [dc];rw [nk h]
theorem ve {ρ ρ':Operand→AV}{op:Op} (h:∀ x∈op.operands,ρ' x=ρ x):j8 ρ' op=j8 ρ op:=by
 cases op with
 | call c =>
  obtain⟨callee,args,ts⟩:=c
  simp only [j8]
  have:∀ l:List Operand,(∀ y∈l,ρ' y=ρ y)→l.flatMap (fun x=>sr (ρ' x))=l.flatMap (fun x=>sr (ρ x)):=by
   intro l
   induction l with
   | nil=>intro _;rfl
   | cons y l ih=>intro hl;rw [kW,kW,hl y (by simp),ih fun z hz=>hl z (by simp [hz])]
  exact this _ fun y hy=>h y (by simp [bc,Call.operands];exact .inr (by simpa using hy))
 | _=>first | rfl | (simp [bc] at h;simp [j8,h])
end Go.Fen
namespace Go.Fen
open Go.RowKit
section
variable {P:Program}{w0:World}{n0 N:Nat}{r:Option Nat}{ops:Array Oper}{Q:bN}{k:List TI}{env:cF}{S:List ax}
theorem uI (k:List TI) (v:AV):aX P w0 n0 N r k Q (.panic v) env S=Q (.panic v) env S:=by
 induction k with
 | nil=>rfl
 | cons x k ih=>cases x<;>exact ih
def nF (P:Program) (w0:World) (N:Nat) (ops:Array Oper) (Q:bN) (i:Nat) (K:cF→List ax→Prop) (env:cF) (S:List ax):Prop :=
  ∃ o,ops[i]? = some o∧dx N o.dst=true ∧
    ((bH ops env o=some false∧K (putA env o.dst (.tup [])) S) ∨
     (bH ops env o=some true∧∃ v S',dc P S (bf w0 env) o.op=some (v,S')∧K (putA env o.dst v) S') ∨
     (bH ops env o=some true∧∃ (fop:Operand) (args:Array Operand) (tys:Array TypeId) (f:FuncId) (first cap:List AV) (sh:List Nat),o.op=.call ⟨.value fop,args,tys⟩∧bf w0 env fop=.fn (.func f) first cap ∧
       ao P w0 f ((first++args.toList.map (bf w0 env)++cap).map (conv (sh.foldl cE S) (vd (sh.foldl cE S)) 4)) (sh.foldl cE S)
         (fun out S'=>match out with
           | .ret v=>K (putA env o.dst v) S'
           | .panic v=>Q (.panic v) env S')))
theorem nF.mono {i:Nat}{K K':cF→List ax→Prop} (h:nF P w0 N ops Q i K env S) (hk:∀ env S,K env S→K' env S):nF P w0 N ops Q i K' env S:=by
 obtain⟨o,h1,h2,h3⟩:=h
 refine⟨o,h1,h2, ?_⟩
 rcases h3 with⟨a,b⟩ | ⟨a,v,S',b,c⟩ | ⟨a,fop,args,tys,f,first,cap,sh,b,c,d⟩
 ·exact .inl ⟨a,hk _ _ b⟩
 ·exact .inr (.inl ⟨a,v,S',b,hk _ _ c⟩)
 ·refine .inr (.inr ⟨a,fop,args,tys,f,first,cap,sh,b,c,d.mono fun out S' h=>?_⟩)
  cases out with
  | ret v=>exact hk _ _ h
  | panic v=>exact h
def kx (ops:Array Oper) (j p:Nat):Bool :=
 match ops[j]? with
 | some oj=>!(oj.after.any fun e=>dm .any e&&e.on==p)
 | none=>true
def dt (ops:Array Oper) (j:Nat):List (Nat × List Nat)→List ax→List ax→Prop
 | [],_,_=>True
 | p::ps,S,S'=>(kx ops j p.1=true→∀ a∈p.2,S'[a]? = S[a]?)∧dt ops j ps S S'
def er (P:Program) (w0:World) (n0 N:Nat) (r:Option Nat) (ops:Array Oper) (k:List TI) (Q:bN):Nat→Array Bool→List (Nat × List Nat)→cF→List ax→Prop
 | 0,listed,_,env,S=>bM .any ops listed=[]∧aX P w0 n0 N r k Q .normal env S
 | f+1,listed,prot,env,S=>(bM .any ops listed=[]→aX P w0 n0 N r k Q .normal env S) ∧
   ∀ i∈bM .any ops listed,nF P w0 N ops Q i (fun env' S'=>dt ops i prot S S'∧er P w0 n0 N r ops k Q f (listed.setIfInBounds i true) prot env' S') env S
theorem uV {F:Fence}{i:Nat}{K K':Act→World→Prop}{Q Q':Exit→Act→World→Prop}{a:Act}{w:World} (hk:∀ a w,K a w→K' a w) (hq:∀ e a w,Q e a w→Q' e a w) (h:wpOpIn F 0 P ops Q i K a w):wpOpIn F 0 P ops Q' i K' a w:=by
 unfold wpOpIn at *
 split
 ·next ho=>simp only [ho] at h;exact hk _ _ h
 ·next o ho =>
  simp only [ho] at h
  split
  ·next hw=>simp only [hw,if_true] at h;exact⟨h.1,p6 hk hq _ h.2⟩
  ·next hw=>simp only [hw] at h;exact⟨h.1,hk _ _ h.2⟩
theorem nC {F:Fence}{Q Q':Exit→Act→World→Prop} (hq:∀ e a w,Q e a w→Q' e a w):∀ (f:Nat) (listed:Array Bool) (a:Act) (w:World),wpAnyIn F 0 P .any ops Q f listed a w→wpAnyIn F 0 P .any ops Q' f listed a w
 | 0,_,_,_,h=>⟨h.1,hq _ _ _ h.2⟩
 | f+1,_,_,_,h=>⟨fun e=>hq _ _ _ (h.1 e),fun i hi=>uV (nC hq f _) hq (h.2 i hi)⟩
theorem xL {o:Oper}{fop:Operand}{args:Array Operand}{tys:Array TypeId}{f:FuncId}{first cap:List AV}{R:df→List ax→Prop}{ι:List Pl}{ψ:cX}{a:Act}{w:World} (sh:List Nat)
  (ho:o.op=.call ⟨.value fop,args,tys⟩) (hf:bf w0 env fop=.fn (.func f) first cap)
  (h:ao P w0 f ((first++args.toList.map (bf w0 env)++cap).map (conv (sh.foldl cE S) (vd (sh.foldl cE S)) 4)) (sh.foldl cE S) R)
  (hR:b7 w0 ι ψ S w) (hE:eA ι ψ N env a) (K:Act→World→Prop) (QQ:Exit→Act→World→Prop)
  (hk:∀ ι' ψ' w' v cv S',cN ι ψ ι' ψ'→b7 w0 ι' ψ' S' w'→VR ι' ψ' v cv→R (.ret v) S'→K (a.put o.dst cv) w')
  (hq:∀ ι' ψ' w' v ch S',cN ι ψ ι' ψ'→b7 w0 ι' ψ' S' w'→XR ι' ψ' (.panic v) (.panic ch)→R (.panic v) S'→QQ (.panic ch) a w') :
  o.uponIn (FR r) 0 P a K QQ ((execOp a.eval o).run P w):=by
 obtain⟨ψ1,hle,hR1⟩:=gJ (w0:=w0) sh S ψ hR
 have hE1:eA ι ψ1 N env a:=hE.mono ⟨(cN.refl ι ψ).pl,hle⟩
 have hfr:=iX hR1
 have hvf:=hE1.eval hR1 fop
 rw [hf] at hvf
 generalize hcf:a.eval fop=cf at hvf
 cases hvf with
 | fn _ _ _ vf vc hl1 hl2 h1 h2 =>
  have hres:(execOp a.eval o).run P w=.ok (.enter f (vf++args.map a.eval++vc)) w:=by
   simp [execOp,ho,resolve,hcf,Deferred.ofValue,invoke,h.1]
  rw [hres]
  refine⟨fun h=>ph r h,lQ (r:=r) ?_⟩
  refine(h.2 ι ψ1 w (vf++args.map a.eval++vc) hR1 (by simp [hl1,hl2]) ?_).mono ?_
  ·intro j x c hx hc
   rw [aF,aJ] at hx
   obtain⟨y,hy,rfl⟩:=hx
   refine gF hR1 (cX.le_refl _) hfr 4 y c ?_
   have hc':(vf.toList++args.toList.map a.eval++vc.toList)[j]? = some c:=by
    rw [← a7] at hc
    simpa using hc
   by_cases hj1:j<first.length
   ·rw [aK,ap hj1] at hy
    rw [aK,ap (by simp;omega)] at hc'
    exact h1 j y c hy (by simpa using hc')
   ·by_cases hj2:j<first.length+args.size
    ·rw [aK,aw (by omega),ap (by simp;omega)] at hy
     rw [aK,aw (by simp;omega),ap (by simp;omega)] at hc'
     simp only [c_,← hl1,aF,aJ] at hy hc'
     obtain⟨z,hz,rfl⟩:=hy
     obtain⟨z',hz',rfl⟩:=hc'
     rw [hz] at hz';cases hz'
     exact hE1.eval hR1 z
    ·rw [aw (by simp;omega)] at hy
     rw [aw (by simp;omega)] at hc'
     simp only [ah,aY,c_,← hl1] at hy hc'
     exact h2 _ y c hy (by simpa using hc')
  ·rintro e w' ⟨ι',ψ',out,S',e1,e2,e3,e4⟩
   have hx:cN ι ψ ι' ψ':=(show cN ι ψ ι ψ1 from ⟨(cN.refl ι ψ).pl,hle⟩).trans e1
   cases out with
   | ret v =>
    cases e<;>simp only [kP] at e3
    exact hk ι' ψ' w' v _ S' hx e2 e3 e4
   | panic v =>
    cases e<;>simp only [kP] at e3
    exact hq ι' ψ' w' v _ S' hx e2 e3 e4
theorem xb {i:Nat}{K:cF→List ax→Prop} (h:nF P w0 N ops Q i K env S){ι:List Pl}{ψ:cX}{a:Act}{w:World} (hR:b7 w0 ι ψ S w) (hE:eA ι ψ N env a) :
  wpOpIn (FR r) 0 P ops (ju w0 n0 N ι ψ (aX P w0 n0 N r k Q)) i (fun a' w'=>∃ ι' ψ' env' S',cN ι ψ ι' ψ'∧b7 w0 ι' ψ' S' w'∧eA ι' ψ' N env' a'∧K env' S') a w:=by
 obtain⟨o,ho,hd,h⟩:=h
 unfold wpOpIn
 simp only [ho]
 rcases h with⟨hg,hk⟩ | ⟨hg,v,S',hs,hk⟩ | ⟨hg,fop,args,tys,f,first,cap,sh,hop,hf,hcall⟩
 ·have hw:=ce hE hg
  simp only [hw,bJ,if_false]
  exact⟨fun _ _=>trivial,ι,ψ,_,_,cN.refl _ _,hR,hE.putA (.tup _ _ rfl (by simp)) hd,hk⟩
 ·have hw:=ce hE hg
  simp only [hw,if_true]
  refine⟨fun _ _=>trivial, ?_⟩
  rw [Oper.semAt_eq _ _ _ (fun c hc=>by rw [hc] at hs;simp [dc,ez] at hs)]
  obtain⟨ι',ψ',w',nx,cv,h1,h2,h3,h4,h5⟩:=kq hR (fun x=>hE.eval hR x) hs
  rw [h1]
  have:∃ ι' ψ' env' S',cN ι ψ ι' ψ'∧b7 w0 ι' ψ' S' w'∧eA ι' ψ' N env' (a.put o.dst cv)∧K env' S':=⟨ι',ψ',_,S',h3,h4,(hE.mono h3).putA h5 hd,hk⟩
  rcases h2 with rfl | ⟨rfl,rfl⟩
  ·exact this
  ·exact this
 ·-- the call goes through the rule for lists
  have hw:=ce hE hg
  simp only [hw,if_true]
  refine⟨fun _ _=>trivial, ?_⟩
  rw [Oper.semAt_eq _ _ _ (fun c hc=>by rw [hc] at hop;cases hop)]
  exact xL (r:=r) sh hop hf hcall hR hE _ _ (fun ι' ψ' w' v cv S' e1 e2 e3 e4=>⟨ι',ψ',_,S',e1,e2,(hE.mono e1).putA e3 hd,e4⟩)
   (fun ι' ψ' w' v ch S' e1 e2 e3 e4=>⟨ι',ψ',.panic v,env,S',e1.take n0,e2,hE.mono e1,e3,by rw [uI];exact e4⟩)
theorem vC:∀ (f:Nat) (listed:Array Bool) (prot:List (Nat × List Nat)) (env:cF) (S:List ax),er P w0 n0 N r ops k Q f listed prot env S→∀ (ι:List Pl) (ψ:cX) (a:Act) (w:World),b7 w0 ι ψ S w→eA ι ψ N env a →
  wpAnyIn (FR r) 0 P .any ops (ju w0 n0 N ι ψ (aX P w0 n0 N r k Q)) f listed a w:=by
 intro f
 induction f with
 | zero=>intro listed prot env S h ι ψ a w hR hE;exact⟨h.1,ju.here hR hE (x:=.normal) trivial h.2⟩
 | succ f ih =>
  intro listed prot env S h ι ψ a w hR hE
  refine⟨fun e=>ju.here hR hE (x:=.normal) trivial (h.1 e),fun i hi=>?_⟩
  refine wpOpIn_mono (fun a' w' hk=>?_) (xb (n0:=n0) (r:=r) (k:=k) (h.2 i hi) hR hE)
  obtain⟨ι',ψ',env',S',e1,e2,e3,_,e4⟩:=hk
  exact nC (fun e a2 w2 hp=>hp.chain (e1.take n0)) f _ _ _ (ih _ prot env' S' e4 ι' ψ' a' w' e2 e3)
theorem CO {id:Nat} (hm:P.follows .mixedOrders=true) (h:er P w0 n0 N r ops k Q ops.size (bI ops.size false) [] env S):aX P w0 n0 N r (.it (.code (.region id ops true))::k) Q .normal env S :=
 fun ι ψ w a hR hE=>wpIn_region_any hm (vC _ _ _ _ _ h ι ψ a _ (hR.same_heap rfl rfl rfl rfl) hE)
theorem rj {j:Nat}{p:Nat × List Nat}{ps:List (Nat × List Nat)}{S S':List ax} (h:dt ops j (p::ps) S S'):dt ops j ps S S':=h.2
theorem ei {j:Nat}:∀ {ps:List (Nat × List Nat)}{S:List ax},dt ops j ps S S
 | [],_=>trivial
 | _::_,_=>⟨fun _ _ _=>rfl,ei⟩
theorem eb {p:Nat × List Nat}{ps:List (Nat × List Nat)}:∀ (f:Nat) (listed:Array Bool) (env:cF) (S:List ax),er P w0 n0 N r ops k Q f listed (p::ps) env S→er P w0 n0 N r ops k Q f listed ps env S
 | 0,_,_,_,h=>h
 | f+1,_,_,_,h=>⟨h.1,fun i hi=>(h.2 i hi).mono fun _ _ ⟨a,b⟩=>⟨rj a,eb f _ _ _ b⟩⟩
theorem xy {d:Option Nat}{v:AV}{x:Operand} (h:∀ t,d=some t→x≠.tmp t):bf w0 (putA env d v) x=bf w0 env x:=by
 cases d with
 | none=>rfl
 | some t =>
  cases x with
  | tmp s =>
   have:s≠t:=fun e=>h t rfl (by rw [e])
   simp [bf,putA,eg,this]
  | _=>rfl
theorem jE {o:Oper}{d:Option Nat}{v:AV} (h:∀ t,d=some t→t∉o.looksAt ops):∀ x∈o.op.operands,bf w0 (putA env d v) x=bf w0 env x:=fun x hx =>
 xy fun t ht e=>h t ht (by
  subst e
  unfold Oper.looksAt
  refine fM _ (Cj.2 ⟨.tmp t,by simpa using hx,rfl⟩))
theorem jK {o:Oper}{d:Option Nat}{v:AV} (h:∀ t,d=some t→t∉o.looksAt ops):bH ops (putA env d v) o=bH ops env o:=by
 unfold bH
 cases hg:o.guard with
 | none=>rfl
 | some p =>
  obtain⟨g,want⟩:=p
  cases ho:ops[g]? with
  | none=>simp [ho]
  | some og =>
   cases hd:og.dst with
   | none=>simp [ho,hd]
   | some s =>
    have:putA env d v s=env s:=by
     cases d with
     | none=>rfl
     | some t =>
      have hne:s≠t:=fun e=>h t rfl (by
       subst e
       unfold Oper.looksAt
       exact b9 _ (by simp [hg,ho,hd]))
      simp [putA,eg,hne]
    simp [ho,hd,this]
theorem qd {d e:Option Nat}{v u:AV} (h:∀ t,d=some t→e≠some t):putA (putA env d v) e u=putA (putA env e u) d v:=by
 cases d with
 | none=>rfl
 | some t =>
  cases e with
  | none=>rfl
  | some s =>
   have hne:s≠t:=fun e=>h t rfl (by rw [e])
   funext x
   simp only [putA,eg]
   by_cases h1:x=s
   ·subst h1;simp [hne]
   ·simp [h1]
def mI (w0:World) (P:Program) (ops:Array Oper) (o:Oper) (v:AV) (fp:List Nat) (env:cF) (S:List ax):Prop :=
 (bH ops env o=some false∧v=.tup [])∨(bH ops env o=some true∧iw o.op=true∧j8 (bf w0 env) o.op=fp∧dc P S (bf w0 env) o.op=some (v,S))
theorem mI.later {o oj:Oper}{v u:AV}{fp:List Nat}{S':List ax} (h:mI w0 P ops o v fp env S) (hap:∀ t,oj.dst=some t→t∉o.looksAt ops) (hS:∀ a∈fp,S'[a]? = S[a]?):mI w0 P ops o v fp (putA env oj.dst u) S':=by
 rcases h with⟨h1,h2⟩ | ⟨h1,h2,h3,h4⟩
 ·exact .inl ⟨by rw [jK hap];exact h1,h2⟩
 ·have hop:=jE (w0:=w0) (env:=env) (v:=u) hap
  refine .inr ⟨by rw [jK hap];exact h1,h2,by rw [ve hop];exact h3, ?_⟩
  rw [iR hop,l9 h2]
  rw [l9 h2] at h4
  rw [uM (S:=S) (S':=S') (by rw [h3];exact hS)]
  cases hp:ez P S (bf w0 env) o.op with
  | none=>rw [hp] at h4;cases h4
  | some x=>rw [hp] at h4;simp at h4 ⊢;exact h4
theorem A3 {d:Option Nat}{v:AV} (hd:dx N d=true) (hN:N≤DS):putA env d v DS=env DS:=by
 cases d with
 | none=>rfl
 | some t =>
  have:t<N:=by simpa [dx] using hd
  simp only [putA,eg]
  rw [if_neg (by omega)]
theorem qF {i:Nat}{oi:Oper}{v:AV}{fp:List Nat} (hi:ops[i]? = some oi) (hd:dx N oi.dst=true) (hN:N≤DS) (hQ:∀ v env env' S,env' DS=env DS→Q (.panic v) env S→Q (.panic v) env' S) :
  ∀ (f:Nat) (listed:Array Bool) (prot:List (Nat × List Nat)) (env:cF) (S:List ax),
   (∀ j oj,ops[j]? = some oj→j≠i→listed.getD j true=false→(∀ e∈oj.after,dm .any e=true→e.on≠i)→oi.apart ops oj=true) →
   i∈bM .any ops listed→mI w0 P ops oi v fp env S→er P w0 n0 N r ops k Q f (listed.setIfInBounds i true) ((i,fp)::prot) (putA env oi.dst v) S→er P w0 n0 N r ops k Q (f+1) listed prot env S:=by
 intro f
 induction f with
 | zero =>
  intro listed prot env S hfree hr hrd h
  refine⟨fun e=>(by rw [e] at hr;cases hr),fun j hj=>?_⟩
  by_cases hji:j=i
  ·subst hji
   refine⟨oi,hi,hd, ?_⟩
   rcases hrd with⟨h1,h2⟩ | ⟨h1,h2,h3,h4⟩
   ·subst h2
    exact .inl ⟨h1,ei,eb _ _ _ _ h⟩
   ·exact .inr (.inl ⟨h1,v,S,h4,ei,eb _ _ _ _ h⟩)
  ·have:=ready_mono hj hji
   rw [h.1] at this;cases this
 | succ f ih =>
  intro listed prot env S hfree hr hrd h
  refine⟨fun e=>(by rw [e] at hr;cases hr),fun j hj=>?_⟩
  by_cases hji:j=i
  ·subst hji
   refine⟨oi,hi,hd, ?_⟩
   rcases hrd with⟨h1,h2⟩ | ⟨h1,h2,h3,h4⟩
   ·subst h2
    exact .inl ⟨h1,ei,eb _ _ _ _ h⟩
   ·exact .inr (.inl ⟨h1,v,S,h4,ei,eb _ _ _ _ h⟩)
  ·obtain⟨hun,oj,hoj,hall⟩:=mem_ready.1 hj
   have hiu:listed.getD i false=false:=by
    have:=(mem_ready.1 hr).1
    simp only [ay] at this ⊢
    cases e:listed[i]? with
    | none=>rfl
    | some b=>rw [e] at this;simpa using this
   have hno:∀ e∈oj.after,dm .any e=true→e.on≠i:=fun e he hb heq=>by
    have:=hall e he hb
    rw [heq,hiu] at this;cases this
   have hap:=hfree j oj hoj hji hun hno
   obtain⟨a1,a2,a3⟩:=Oper.apart_spec hap
   have hrel:kx ops j i=true:=by
    unfold kx
    simp only [hoj]
    simp only [az,wE]
    intro e he
    by_cases hb:dm .any e=true
    ·simp [hb,hno e he hb]
    ·simp [hb]
   obtain⟨o,ho,hdj,hcase⟩:=h.2 j (ready_mono hj hji)
   rw [hoj] at ho;cases ho
   have hcomm:(listed.setIfInBounds i true).setIfInBounds j true=(listed.setIfInBounds j true).setIfInBounds i true:=by
    apply jg
    intro m
    simp only [bF]
    by_cases h1:i=m<;>by_cases h2:j=m<;>simp_all
   have hop:=jE (w0:=w0) (env:=env) (v:=v) a1
   have hgd:=jK (env:=env) (v:=v) a1
   have next:∀ (u:AV) (S':List ax),(dt ops j ((i,fp)::prot) S S'∧er P w0 n0 N r ops k Q f ((listed.setIfInBounds i true).setIfInBounds j true) ((i,fp)::prot) (putA (putA env oi.dst v) oj.dst u) S') →
     dt ops j prot S S'∧er P w0 n0 N r ops k Q (f+1) (listed.setIfInBounds j true) prot (putA env oj.dst u) S':=by
    rintro u S' ⟨hp,hk⟩
    refine⟨hp.2,ih _ prot _ S' ?_ (ready_mono hr (fun e=>hji e.symm)) (hrd.later a3 (hp.1 hrel)) ?_⟩
    ·intro m om hom hmi hmu hmno
     refine hfree m om hom hmi ?_ hmno
     by_cases hmj:m=j
     ·subst hmj
      simp only [ay,bF] at hmu ⊢
      by_cases hlt:m<listed.size
      ·simp [hlt] at hmu
      ·simp [hlt] at hmu
     ·rw [getD_set_ne true (fun e=>hmj e.symm)] at hmu;exact hmu
    ·rw [← hcomm,← qd a2];exact hk
   refine⟨oj,hoj,hdj, ?_⟩
   rcases hcase with⟨b1,b2⟩ | ⟨b1,u,S',b2,b3⟩ | ⟨b1,fop,args,tys,fn,first,cap,sh,b2,b3,b4⟩
   ·exact .inl ⟨by rw [← hgd];exact b1,next _ _ b2⟩
   ·exact .inr (.inl ⟨by rw [← hgd];exact b1,u,S',by rw [← iR hop];exact b2,next _ _ b3⟩)
   ·have hargs:args.toList.map (bf w0 (putA env oi.dst v))=args.toList.map (bf w0 env):=gA fun y hy=>hop y (by rw [b2];simp [bc,Call.operands];exact .inr (by simpa using hy))
    have hfop:bf w0 (putA env oi.dst v) fop=bf w0 env fop:=hop fop (by rw [b2];simp [bc,Call.operands])
    refine .inr (.inr ⟨by rw [← hgd];exact b1,fop,args,tys,fn,first,cap,sh,b2,by rw [← hfop];exact b3, ?_⟩)
    rw [hargs] at b4
    refine b4.mono fun out S' hk=>?_
    cases out with
    | ret u=>exact next u S' hk
    | panic u=>exact hQ u _ _ _ (A3 hd hN).symm hk
end
end Go.Fen
namespace Go.Fen
open Go.RowKit
def nq (ops:Array Oper) (listed:Array Bool):Option Nat :=
 (bM .any ops listed).find? fun i=>(match ops[i]? with
  | some o=>iw o.op
  | none=>false)&&Region.free .any ops listed i
theorem lH {ops:Array Oper}{listed:Array Bool}{i:Nat} (h:nq ops listed=some i):i∈bM .any ops listed∧(∀ o,ops[i]? = some o→iw o.op=true)∧Region.free .any ops listed i=true:=by
 have h1:=gw h
 have h2:=List.find?_some h
 simp only [aj] at h2
 exact⟨h1,fun o ho=>by rw [ho] at h2;exact h2.1,h2.2⟩
def Ei (Q:bN):Prop:=∀ v env env' S,env' DS=env DS→Q (.panic v) env S→Q (.panic v) env' S
theorem ii {P:Program}{F:Func}{S0:List ax}{R:df→List ax→Prop}:Ei (i6 P F S0 R):=by
 intro v env env' S he h
 obtain⟨ms,S1,h1,h2⟩:=h
 exact⟨ms,S1,he.trans h1,h2⟩
section
variable {P:Program}{w0:World}{n0 N:Nat}{r:Option Nat}{ops:Array Oper}{Q:bN}{k:List TI}{env:cF}{S:List ax}{f:Nat}{listed:Array Bool}{prot:List (Nat × List Nat)}
theorem eY {id n:Nat} (hm:P.follows .mixedOrders=true) (hn:ops.size=n) (h:er P w0 n0 N r ops k Q n (bI n false) [] env S):aX P w0 n0 N r (.it (.code (.region id ops true))::k) Q .normal env S :=
 CO hm (by rw [hn];exact h)
theorem vn (hr:bM .any ops listed=[]) (h:aX P w0 n0 N r k Q .normal env S):er P w0 n0 N r ops k Q f listed prot env S:=by
 cases f with
 | zero=>exact⟨hr,h⟩
 | succ f=>exact⟨fun _=>h,fun i hi=>by rw [hr] at hi;cases hi⟩
theorem D5 (i:Nat){oi:Oper}{v:AV}{fp:List Nat} (hn:nq ops listed=some i) (hQ:Ei Q) (hN:decide (N≤DS)=true) (hi:ops[i]? = some oi) (hg:bH ops env oi=some true) (hs:dc P S (bf w0 env) oi.op=some (v,S))
  (hd:dx N oi.dst=true) (hfp:j8 (bf w0 env) oi.op=fp) (h:er P w0 n0 N r ops k Q f (listed.setIfInBounds i true) ((i,fp)::prot) (putA env oi.dst v) S):er P w0 n0 N r ops k Q (f+1) listed prot env S:=by
 obtain⟨h1,h2,h3⟩:=lH hn
 exact qF hi hd (by simpa using hN) hQ f listed prot env S (nG hi h3) h1 (.inr ⟨hg,h2 _ hi,hfp,hs⟩) h
theorem Fg (i:Nat){oi:Oper} (hn:nq ops listed=some i) (hQ:Ei Q) (hN:decide (N≤DS)=true) (hi:ops[i]? = some oi) (hg:bH ops env oi=some false)
  (hd:dx N oi.dst=true) (h:er P w0 n0 N r ops k Q f (listed.setIfInBounds i true) ((i,[])::prot) (putA env oi.dst (.tup [])) S):er P w0 n0 N r ops k Q (f+1) listed prot env S:=by
 obtain⟨h1,h2,h3⟩:=lH hn
 exact qF hi hd (by simpa using hN) hQ f listed prot env S (nG hi h3) h1 (.inl ⟨hg,rfl⟩) h
theorem Fh (i:Nat) (hr:bM .any ops listed=[i]) (h:nF P w0 N ops Q i (fun env' S'=>dt ops i prot S S'∧er P w0 n0 N r ops k Q f (listed.setIfInBounds i true) prot env' S') env S):er P w0 n0 N r ops k Q (f+1) listed prot env S :=
 ⟨fun e=>(by rw [e] at hr;cases hr),fun j hj=>(by
  rw [hr] at hj
  obtain rfl:j=i:=by simpa using hj
  exact h)⟩
variable {i:Nat}{o:Oper}{K:cF→List ax→Prop}
theorem ry {v:AV}{S':List ax} (hi:ops[i]? = some o) (hg:bH ops env o=some true) (hs:dc P S (bf w0 env) o.op=some (v,S')) (hd:dx N o.dst=true) (h:K (putA env o.dst v) S'):nF P w0 N ops Q i K env S :=
 ⟨o,hi,hd,.inr (.inl ⟨hg,v,S',hs,h⟩)⟩
theorem y4 (hi:ops[i]? = some o) (hg:bH ops env o=some false) (hd:dx N o.dst=true) (h:K (putA env o.dst (.tup [])) S):nF P w0 N ops Q i K env S :=
 ⟨o,hi,hd,.inl ⟨hg,h⟩⟩
def fD (Q:bN) (K:cF→List ax→Prop) (env:cF) (dst:Option Nat):df→List ax→Prop
 | .ret v,S'=>K (putA env dst v) S'
 | .panic v,S'=>Q (.panic v) env S'
theorem uW {fop:Operand}{args:Array Operand}{tys:Array TypeId}{g:FuncId}{first cap A:List AV}{S1:List ax} (sh:List Nat) (hi:ops[i]? = some o) (hg:bH ops env o=some true)
  (ho:o.op=.call ⟨.value fop,args,tys⟩) (hf:bf w0 env fop=.fn (.func g) first cap) (hd:dx N o.dst=true)
  (hS:sh.foldl cE S=S1) (hA:Aj S1 (first++args.toList.map (bf w0 env)++cap)=A) (h:ao P w0 g A S1 (fD Q K env o.dst)):nF P w0 N ops Q i K env S:=by
 subst hS hA
 refine⟨o,hi,hd,.inr (.inr ⟨hg,fop,args,tys,g,first,cap,sh,ho,hf,h.mono fun out S' hk=>?_⟩)⟩
 cases out<;>exact hk
theorem uO {S S':List ax} (h:K env S'):dt ops i [] S S'∧K env S':=⟨trivial,h⟩
theorem rl {B:Prop} (h:B):dt ops i prot S S∧B:=⟨ei,h⟩
theorem yT {S S':List ax}{B:Prop} (h1:dt ops i prot S S') (h:B):dt ops i prot S S'∧B:=⟨h1,h⟩
theorem aB {S S':List ax}:dt ops i [] S S':=trivial
theorem fY {p:Nat}{S S':List ax} (h:dt ops i prot S S'):dt ops i ((p,[])::prot) S S':=⟨fun _ _ ha=>(by cases ha),h⟩
theorem mi {p:Nat × List Nat}{S S':List ax} (hp:kx ops i p.1=false) (h:dt ops i prot S S'):dt ops i (p::prot) S S':=⟨fun e=>(by rw [e] at hp;cases hp),h⟩
theorem ro {p a:Nat}{S S':List ax} (ha:S'[a]? = S[a]?) (h:dt ops i prot S S'):dt ops i ((p,[a])::prot) S S':=⟨fun _ b hb=>(by
 obtain rfl:b=a:=by simpa using hb
 exact ha),h⟩
end
theorem b7.thawCell {w0 w:World}{ι:List Pl}{ψ:cX}{S:List ax} (h:b7 w0 ι ψ S w){a j:Nat}{cs:List AV}{ty:Option TypeId} (e:TypeId) (sz:Nat) (ha:S[a]? = some (.cells cs ty)) (hj:cs[j]? = some .snil) (hpos:0<sz) :
  b7 w0 (ι++[⟨0,0,.slice none 0 0,sz⟩]) ψ ((S++[ax.arr e sz 0 0 []]).set a (.cells (cs.set j (.sown S.length 0 0)) ty)) w:=by
 have hth:=h.thaw e sz hpos
 have hlt:a<S.length:=(ab.1 ha).1
 have ha':(S++[ax.arr e sz 0 0 []])[a]? = some (.cells cs ty):=by rw [ap hlt];exact ha
 obtain⟨pl,hpl,hB⟩:=hth.get ha'
 have hset:(ι++[(⟨0,0,.slice none 0 0,sz⟩:Pl)]).set a pl=ι++[⟨0,0,.slice none 0 0,sz⟩]:=eK hpl
 have key:=hth.update (w':=w) (ψ':=ψ) (B':=.cells (cs.set j (.sown S.length 0 0)) ty) (pl':=pl) ha' hpl (lq _ _) (fun _ _ _=>rfl) (by rw [hset];exact cN.refl _ _) ?_ (fun k hk=>.inl hk) (fun b o v ev=>.inl ⟨ev,fun hk=>?_⟩) rfl
 ·rw [hset] at key;exact key
 ·rw [hset]
  obtain⟨h0,⟨c,T,h1,h2,h3⟩,h4,h5⟩:=hB
  refine⟨h0,⟨c,T,h1,by simpa using h2,fun m x ex=>?_⟩,h4,h5⟩
  by_cases hm:m=j
  ·subst hm
   have hml:m<cs.length:=(ab.1 hj).1
   simp [hml] at ex
   subst ex
   obtain⟨_,v,hv,hr⟩:=h3 m _ hj
   cases hr
   exact⟨rfl,_,hv,.sown _ _ _ _ _ ⟨0,0,.slice none 0 0,sz⟩ (by rw [← h.len];simp) (aP _) (fun _=>rfl)⟩
  ·rw [bl (fun e=>hm e.symm)] at ex
   exact h3 m x ex
 ·simp [ax.at] at hk
  obtain⟨_,_,h4,_⟩:=hB
  rw [← hk,h4 o] at ev;cases ev
theorem l5 {P:Program}{w0:World}{n0 N:Nat}{r:Option Nat}{Q:bN}{k:List TI}{env:cF}{S:List ax}{i:KI}{a j:Nat}{cs:List AV}{ty:Option TypeId} (e:TypeId) (sz:Nat) (ha:S[a]? = some (.cells cs ty)) (hj:cs[j]? = some .snil) (hpos:0<sz)
  (h:aX P w0 n0 N r (.it i::k) Q .normal env ((S++[ax.arr e sz 0 0 []]).set a (.cells (cs.set j (.sown S.length 0 0)) ty))):aX P w0 n0 N r (.it i::k) Q .normal env S:=by
 intro ι ψ w ac hR hE
 have hx:=cN.push ι ψ ⟨0,0,.slice none 0 0,sz⟩
 exact KI.mono (h _ _ w ac (hR.thawCell e sz ha hj hpos) (hE.mono hx)) fun e a2 w2 hp=>hp.chain (hx.take n0)
attribute [go_sem] j8 sr fD
end Go.Fen
namespace Go.Fen
open Go.RowKit
variable {P:Program}{w0 w w':World}{ι:List Pl}{ψ:cX}{S:List ax}
def pX (tm:List (Nat × AV)):cF:=tm.foldr (fun p e=>eg e p.1 p.2) (fun t=>if t=DS then .dfr [] else .junk)
theorem DY {N:Nat}{tm:List (Nat × AV)}{vs:Array Value} (hs:vs.size=N) (hN:N≤DS) (hlt:∀ p∈tm,p.1<N) (h:∀ p∈tm,VR ι ψ p.2 (vs.getD p.1 undef)):eA ι ψ N (pX tm) { tmps:=vs,defers:=[] }:=by
 induction tm with
 | nil =>
  refine⟨hs,hN,⟨[],[],by simp [pX],rfl,by simp,rfl⟩,fun t=>?_⟩
  simp only [pX,CI]
  split
  ·next ht =>
   have:vs.getD t undef=undef:=by
    rw [ay,bS (by omega)];rfl
   rw [this];exact .dfr [] [] rfl (by simp)
  ·exact .junk _
 | cons p tm ih =>
  have hE:=ih (fun q hq=>hlt q (by simp [hq])) (fun q hq=>h q (by simp [hq]))
  have hp:=hlt p (by simp)
  refine⟨hs,hN, ?_,fun t=>?_⟩
  ·obtain⟨l,ws,h1,h2⟩:=hE.defers
   exact⟨l,ws,by simp only [pX,pL,eg];rw [if_neg (by omega)];exact h1,h2⟩
  ·simp only [pX,pL,eg]
   split
   ·next ht=>subst ht;exact h p (by simp)
   ·exact hE.tmp t
def sQ (env:cF):List (Nat × AV)→cF
 | []=>env
 | p::l=>sQ (eg env p.1 p.2) l
theorem C8 {N:Nat}:∀ (ps:List Tmp) (xs:List AV) (cs:List Value) (env:cF) (vs:Array Value),eA ι ψ N env { tmps:=vs,defers:=[] }→ps.length=xs.length→xs.length=cs.length→(∀ p∈ps,p<N) →
  (∀ (j:Nat) (x:AV) (c:Value),xs[j]? = some x→cs[j]? = some c→VR ι ψ x c)→eA ι ψ N (sQ env (ps.zip xs)) { tmps:=(ps.zip cs).foldl (fun tmps p=>tmps.setIfInBounds p.1 p.2) vs,defers:=[] }:=by
 intro ps
 induction ps with
 | nil=>intro xs cs env vs hE _ _ _ _;simpa [sQ] using hE
 | cons p ps ih =>
  intro xs cs env vs hE h1 h2 hlt hv
  cases xs with
  | nil=>simp at h1
  | cons x xs =>
   cases cs with
   | nil=>simp at h2
   | cons c cs =>
    simp only [x7,sQ,ee]
    have:=hE.put (d:=p) (hv 0 x c rfl rfl) (hlt p (by simp))
    exact ih xs cs _ _ this (by simpa using h1) (by simpa using h2) (fun q hq=>hlt q (by simp [hq])) (fun j x c hx hc=>hv (j+1) x c (by simpa using hx) (by simpa using hc))
def qI (a:Nat) (R:df→List ax→Prop):bN
 | .normal,_,S=>∃ st pend N tm ps asg body,S[a]? = some (.loop st pend N tm ps asg body)∧R (.ret (.bool true)) (S.set a (.loop .ready none N tm ps asg body))
 | .ret,_,S=>∃ st pend N tm ps asg body,S[a]? = some (.loop st pend N tm ps asg body)∧R (.ret (.bool false)) (S.set a (.loop .done (some .ret) N tm ps asg body))
 | .exit id,_,S=>∃ st pend N tm ps asg body,S[a]? = some (.loop st pend N tm ps asg body)∧R (.ret (.bool false)) (S.set a (.loop .done (some (.exit id)) N tm ps asg body))
 | _,_,_=>False
def YA (P:Program) (w0:World) (a:Nat) (args:List AV) (S:List ax) (R:df→List ax→Prop):Prop :=
 ∃ pend N tm ps asg body,S[a]? = some (.loop .ready pend N tm ps asg body)∧ps.size=args.length∧N≤DS∧(∀ p∈tm,p.1<N)∧(∀ p∈ps.toList,p<N) ∧
  ∀ rb:Nat,aX P w0 S.length N (some rb) [.it (.code asg)] (fun x env1 S1=>x=.normal∧∃ pend',S1[a]? = some (.loop .ready pend' N tm ps asg body) ∧
   aX P w0 S.length N (some rb) [.it (.code body)] (qI a R) .normal env1 (S1.set a (.loop .busy pend' N tm ps asg body))) .normal (sQ (pX tm) (ps.toList.zip args)) S
theorem YA.mono {a:Nat}{args:List AV}{R R':df→List ax→Prop} (h:YA P w0 a args S R) (hr:∀ o S,R o S→R' o S)
  (hm:∀ {n0 N:Nat}{r:Option Nat}{c:Code}{Q Q':bN}{env:cF}{S:List ax},(∀ x e S,Q x e S→Q' x e S)→aX P w0 n0 N r [.it (.code c)] Q .normal env S→aX P w0 n0 N r [.it (.code c)] Q' .normal env S):YA P w0 a args S R':=by
 obtain⟨pend,N,tm,ps,asg,body,h1,h2,h3,h4,h5,h6⟩:=h
 refine⟨pend,N,tm,ps,asg,body,h1,h2,h3,h4,h5,fun rb=>hm ?_ (h6 rb)⟩
 rintro x e S ⟨rfl,pend',k1,k2⟩
 refine⟨rfl,pend',k1,hm (fun x e S hq=>?_) k2⟩
 cases x with
 | normal=>obtain⟨st,pend,N,tm,ps,asg,body,q1,q2⟩:=hq;exact⟨st,pend,N,tm,ps,asg,body,q1,hr _ _ q2⟩
 | ret=>obtain⟨st,pend,N,tm,ps,asg,body,q1,q2⟩:=hq;exact⟨st,pend,N,tm,ps,asg,body,q1,hr _ _ q2⟩
 | exit id=>obtain⟨st,pend,N,tm,ps,asg,body,q1,q2⟩:=hq;exact⟨st,pend,N,tm,ps,asg,body,q1,hr _ _ q2⟩
 | goto l=>exact hq
 | panic v=>exact hq
theorem yP {n0 N:Nat}{r:Option Nat}{c:Code}{Q Q':bN}{env:cF} (hq:∀ x e S,Q x e S→Q' x e S) (h:aX P w0 n0 N r [.it (.code c)] Q .normal env S):aX P w0 n0 N r [.it (.code c)] Q' .normal env S :=
 fun ι ψ w a hR hE=>KI.mono (it:=.code c) (h ι ψ w a hR hE) fun _ _ _ ⟨ι',ψ',x,env',S',h1,h2,h3,h4,h5⟩=>⟨ι',ψ',x,env',S',h1,h2,h3,h4,hq x env' S' h5⟩
theorem sT {a:Nat}{R:df→List ax→Prop}{n0 N:Nat}{pl:Pl} (hpl:ι[a]? = some pl) (ha:a<n0){e:Exit}{ac:Act}{w1:World}
  (hp:ju w0 n0 N ι ψ (qI a R) e ac w1):roundPost P pl.blk (fun e2 w2=>∃ ι' ψ' out S',cN (ι.take n0) ψ ι' ψ'∧b7 w0 ι' ψ' S' w2∧kP ι' ψ' out e2∧R out S') e ac w1:=by
 obtain⟨ι',ψ',x,env',S',h1,h2,h3,h4,h5⟩:=hp
 obtain⟨p',hp',hb,_⟩:=h1.pl a pl (by rw [aV,if_pos ha];exact hpl)
 have fin:∀ (jump:Option Code) (st:LoopState) (pend:Option Code) (N:Nat) (tm:List (Nat × AV)) (ps:Array Tmp) (asg body:Code),S'[a]? = some (.loop st pend N tm ps asg body) →
   R (.ret (.bool jump.isNone)) (S'.set a (.loop (if jump.isNone then .ready else .done) jump N tm ps asg body)) →
   ∃ v w2,(Instr.endRound pl.blk jump).run P w1=.ok v w2∧∃ ι'' ψ'' out S'',cN (ι.take n0) ψ ι'' ψ''∧b7 w0 ι'' ψ'' S'' w2∧kP ι'' ψ'' out (.returned v)∧R out S'':=by
  intro jump st pend N tm ps asg body hS hR
  obtain⟨q0,⟨fn,vs,d,q1,q2,q3⟩,q4,q5⟩:=h2.blk a _ p' hS hp'
  rw [← hb]
  refine⟨_,_,run_endRound jump q1,ι',ψ',.ret (.bool jump.isNone),_,h1, ?_,.bool _,hR⟩
  refine h2.putBlk hS hp' rfl rfl q4 (by intro es e;cases e) ?_
  exact⟨q0,⟨fn,vs,d,dK (du q1),q2,q3⟩,q4,q5⟩
 cases x with
 | normal =>
  cases e<;>simp only [XR] at h4
  obtain⟨st,pend,N,tm,ps,asg,body,k1,k2⟩:=h5
  exact fin none st pend N tm ps asg body k1 k2
 | ret =>
  cases e<;>simp only [XR] at h4
  obtain⟨st,pend,N,tm,ps,asg,body,k1,k2⟩:=h5
  exact fin (some .ret) st pend N tm ps asg body k1 k2
 | exit id =>
  cases e<;>simp only [XR] at h4
  subst h4
  obtain⟨st,pend,N,tm,ps,asg,body,k1,k2⟩:=h5
  exact fin (some (.exit id)) st pend N tm ps asg body k1 k2
 | goto l=>exact h5.elim
 | panic v=>exact h5.elim
section
variable {n0 N:Nat}{r:Option Nat}{Q:bN}{k:List TI}{env:cF}
theorem ye {all:Array Oper}{o:Oper}{l:List Oper}{fop:Operand}{args:Array Operand}{tys:Array TypeId}{a:Nat}
  (hg:bH all env o=some true) (ho:o.op=.call ⟨.value fop,args,tys⟩) (hf:bf w0 env fop=.yld a) (hd:dx N o.dst=true)
  (h:YA P w0 a (args.toList.map (bf w0 env)) S (bK P w0 n0 N r all l k Q env o.dst)) :
  aX P w0 n0 N r (.it (.ops all (o::l))::k) Q .normal env S:=by
 intro ι ψ w ac hR hE
 have hw:=ce hE hg
 refine d9 hw (fun c hc=>by rw [hc] at ho;cases ho) ?_
 obtain⟨pend,N',tm,ps,asg,body,h1,h2,h3,h4,h5,h6⟩:=h
 have hvf:=hE.eval hR fop
 rw [hf] at hvf
 generalize hcf:ac.eval fop=cf at hvf
 cases hvf with
 | yld _ pl hpl =>
  obtain⟨q0,⟨fn,vs,d,q1,q2,q3⟩,q4,q5⟩:=hR.blk a _ pl h1 hpl
  have hsz:(args.map ac.eval).size=ps.size:=by rw [h2];simp
  have hres:(execOp ac.eval o).run P w=.ok (.round pl.blk fn ((ps.zip (args.map ac.eval)).foldl (fun tmps (t,a)=>tmps.setIfInBounds t a) vs) asg body) w:=by
   have hy:=run_yield (P:=P) (args:=args.map ac.eval) q1 hsz
   simp only [execOp,ho,resolve,hcf,Deferred.ofValue,invoke,bu,eD,bB,Array.empty_append]
   first
   | exact hy
   | simpa using hy
  rw [hres]
  refine⟨fun h=>ph r h, ?_⟩
  have ha:a<S.length:=(ab.1 h1).1
  have hE0:eA ι ψ N' (sQ (pX tm) (ps.toList.zip (args.toList.map (bf w0 env)))) { tmps:=(ps.zip (args.map ac.eval)).foldl (fun tmps (t,a)=>tmps.setIfInBounds t a) vs,defers:=[] }:=by
   have:=C8 (ι:=ι) (ψ:=ψ) ps.toList (args.toList.map (bf w0 env)) (args.map ac.eval).toList (pX tm) vs (DY q2 h3 h4 q3) (by simpa using h2) (by simp) h5 (fun j x c hx hc=>by
    simp only [aF,aJ,Array.toList_map] at hx hc
    obtain⟨y,hy,rfl⟩:=hx
    obtain⟨z,hz,rfl⟩:=hc
    rw [hy] at hz;cases hz
    exact hE.eval hR y)
   rw [← Array.foldl_toList,Array.toList_zip]
   exact this
  have key:RoundIn (FR r) (0 - 1) P pl.blk fn ((ps.zip (args.map ac.eval)).foldl (fun tmps (t,a)=>tmps.setIfInBounds t a) vs) asg body w
    (fun e2 w2=>∃ ι' ψ' out S',cN (ι.take S.length) ψ ι' ψ'∧b7 w0 ι' ψ' S' w2∧kP ι' ψ' out e2∧bK P w0 n0 N r all l k Q env o.dst out S'):=by
   refine roundIn_of_wpIn trivial ?_
   have hF:(FR r).inRound pl.blk=FR (some pl.blk):=rfl
   rw [hF]
   refine wpIn_mono ((h6 pl.blk) ι ψ w _ hR hE0) fun e a1 w1 hp=>?_
   obtain⟨ι1,ψ1,x1,env1,S1,e1,e2,e3,e4,rfl,pend',e5,e6⟩:=hp
   cases e<;>simp only [XR] at e4
   obtain⟨p1,hp1,hb1,_⟩:=e1.pl a pl (by rw [aV,if_pos ha];exact hpl)
   obtain⟨r0,⟨fn',vs',d',r1,r2,r3⟩,r4,r5⟩:=e2.blk a _ p1 e5 hp1
   rw [← hb1]
   refine⟨_,run_beginRound r1 rfl, ?_⟩
   have hR2:b7 w0 ι1 ψ1 (S1.set a (.loop .busy pend' N' tm ps asg body)) (w1.putObj p1.blk (.loop { state:=.busy,pending:=pend',fn:=fn',tmps:=vs',params:=ps,assign:=asg,body,defers:=d' })) :=
    e2.putBlk e5 hp1 rfl rfl r4 (by intro es e;cases e) ⟨r0,⟨fn',vs',d',dK (du r1),r2,r3⟩,r4,r5⟩
   have hrun:=e6 ι1 ψ1 _ a1 hR2 e3
   rw [hb1] at hrun ⊢
   refine wpIn_mono hrun fun ex a2 w2 hp2=>?_
   have:=sT (P:=P) hp1 ha hp2
   rw [hb1] at this
   cases ex with
   | normal=>obtain⟨v,w3,s1,ι3,ψ3,out,S3,s2,s3⟩:=this;exact⟨v,w3,s1,ι3,ψ3,out,S3,e1.chain s2,s3⟩
   | ret=>obtain⟨v,w3,s1,ι3,ψ3,out,S3,s2,s3⟩:=this;exact⟨v,w3,s1,ι3,ψ3,out,S3,e1.chain s2,s3⟩
   | exit id=>obtain⟨v,w3,s1,ι3,ψ3,out,S3,s2,s3⟩:=this;exact⟨v,w3,s1,ι3,ψ3,out,S3,e1.chain s2,s3⟩
   | goto l=>obtain⟨v,w3,s1,ι3,ψ3,out,S3,s2,s3⟩:=this;exact⟨v,w3,s1,ι3,ψ3,out,S3,e1.chain s2,s3⟩
   | panic ch=>exact this
   | outgrown=>exact this
  refine key.mono ?_
  rintro e w' ⟨ι',ψ',out,S',e1,e2,e3,e4⟩
  have hx:cN ι ψ ι' ψ':=by rw [← hR.len,bk] at e1;exact e1
  cases out with
  | ret v =>
   cases e<;>simp only [kP] at e3
   exact KI.mono (it:=.ops all l) (e4 ι' ψ' w' _ e2 ((hE.mono hx).putA e3 hd)) fun e a2 w2 hp=>hp.chain (hx.take n0)
  | panic v =>
   cases e<;>simp only [kP] at e3
   exact⟨ι',ψ',.panic v,env,S',hx.take n0,e2,hE.mono hx,e3,e4⟩
def lS (P:Program) (w0:World) (n0 N:Nat) (m:Nat) (k:List TI) (Q:bN) (env:cF):df→List ax→Prop
  | .ret _,S=>∃ st pend N' tm ps asg body,S[m]? = some (.loop st pend N' tm ps asg body)∧(st==.busy)=false ∧
      (match pend with
       | none=>aX P w0 n0 N none k Q .normal env (S.set m (.loop .exhausted pend N' tm ps asg body))
       | some c=>aX P w0 n0 N none (.it (.code c)::k) Q .normal env (S.set m (.loop .exhausted pend N' tm ps asg body)))
  | .panic v,S=>aX P w0 n0 N none k Q (.panic v) env S
theorem sw {g:Operand}{ps:Array Tmp}{asg body:Code}{f:FuncId}{first cap ds:List AV} (keep:List Nat) (hf:bf w0 env g=.fn (.func f) first cap) (hds:env DS=.dfr ds)
  (hk:keep.all (fun t=>decide (t<N))=true)
  (h:ao P w0 f (first++[.yld (S.length+1)]++cap) (S++[.obj (.deferred (some [])),.loop .ready none N (keep.map fun t=>(t,env t)) ps asg body])
   (lS P w0 n0 N (S.length+1) k Q (eg env DS (.dfr (.own S.length 0::ds))))) :
  aX P w0 n0 N none (.it (.code (.rangeFunc g ps asg body))::k) Q .normal env S:=by
 intro ι ψ w a hR hE
 refine wpIn_rangeFunc fun fn _=>?_
 let B:=w.heap.size
 have hlen:=hR.len
 obtain⟨ds',dvs,d1,d2,d3,d4⟩:=hE.defers
 rw [hds] at d1;cases d1
 have hR1:b7 w0 (ι++[⟨B,0,undef,0⟩]) ψ (S++[.obj (.deferred (some []))]) (w.alloc (.deferred (some []))) :=
  hR.newBlk _ _ (fun _=>rfl) ⟨hR.n0,ic w _,(fun e=>by cases e),fun k=>hR.psi_new (aP _) k,hR.psim_new (aP _)⟩
 have hB1:(w.alloc (.deferred (some []))).heap.size=B+1:=by simp [B]
 have hx1:=cN.push ι ψ ⟨B,0,undef,0⟩
 have qq:=cN.push (ι++[⟨B,0,undef,0⟩]) ψ ⟨B+1,0,undef,0⟩
 have hR2:b7 w0 (ι++[⟨B,0,undef,0⟩]++[⟨B+1,0,undef,0⟩]) ψ (S++[.obj (.deferred (some []))]++[.loop .ready none N (keep.map fun t=>(t,env t)) ps asg body])
   ((w.alloc (.deferred (some []))).alloc (.loop { state:=.ready,pending:=none,fn,tmps:=a.tmps,params:=ps,assign:=asg,body,defers:=B })):=by
  have:=hR1.newBlk (.loop { state:=.ready,pending:=none,fn,tmps:=a.tmps,params:=ps,assign:=asg,body,defers:=B }) (.loop .ready none N (keep.map fun t=>(t,env t)) ps asg body) (fun _=>rfl)
   ⟨hR1.n0,⟨fn,a.tmps,B,ic _ _,hE.size,fun p hp=>by
    obtain⟨t,_,rfl⟩:=aH.1 hp
    exact((hE.tmp t).mono hx1).mono (by rw [← hB1] at qq;exact qq)⟩,fun k=>hR1.psi_new (aP _) k,hR1.psim_new (aP _)⟩
  rw [hB1] at this
  exact this
 have hx12:=hx1.trans qq
 have hSS:S++[.obj (.deferred (some []))]++[.loop .ready none N (keep.map fun t=>(t,env t)) ps asg body]=S++[.obj (.deferred (some [])),.loop .ready none N (keep.map fun t=>(t,env t)) ps asg body]:=by simp
 rw [hSS] at hR2
 have hvf:=hE.eval hR g
 rw [hf] at hvf
 generalize hcf:a.eval g=cf at hvf
 cases hvf with
 | fn _ _ _ vf vc hl1 hl2 h1 h2 =>
  refine⟨B+1,[{ target:=.collected B,args:=#[] }],_,{ target:=.fn (.func f) vc,args:=vf++#[.func (.yield (B+1)) #[] #[]] },((w.alloc (.deferred (some []))).alloc (.loop { state:=.ready,pending:=none,fn,tmps:=a.tmps,params:=ps,assign:=asg,body,defers:=B })),f,vf++#[.func (.yield (B+1)) #[] #[]]++vc,((w.alloc (.deferred (some []))).alloc (.loop { state:=.ready,pending:=none,fn,tmps:=a.tmps,params:=ps,assign:=asg,body,defers:=B })),run_enterLoop_outer fn a.tmps ps asg body, ?_,fun _ _=>trivial, ?_,fun h=>by simp [FR,Fence.wide] at h, ?_⟩
  ·have hargs:(#[Operand.const (.func (.yield (B+1)) #[] #[])]:Array Operand).map a.eval=#[.func (.yield (B+1)) #[] #[]]:=by simp [Act.eval]
   simp only [resolve,hcf,hargs,Deferred.ofValue,eD]
   rfl
  ·simp only [invoke];exact h.1 _ _
  ·have hcall:=h.2 _ ψ _ (vf++#[.func (.yield (B+1)) #[] #[]]++vc) hR2 (by simp [hl1,hl2];omega) (fun j x c hx hc=>by
    have hc':(vf.toList++[Value.func (.yield (B+1)) #[] #[]]++vc.toList)[j]? = some c:=by
     rw [← a7] at hc
     simpa using hc
    by_cases hj1:j<first.length
    ·rw [aK,ap hj1] at hx
     rw [aK,ap (by simp;omega)] at hc'
     exact(h1 j x c hx (by simpa using hc')).mono hx12
    ·by_cases hj2:j=first.length
     ·subst hj2
      simp at hx
      rw [hl1] at hc'
      simp at hc'
      subst hx;subst hc'
      exact .yld _ ⟨B+1,0,undef,0⟩ (by rw [← hlen];simp)
     ·rw [aw (by simp;omega)] at hx
      rw [aw (by simp;omega)] at hc'
      simp only [ah,aI,aU,c_,← hl1] at hx hc'
      exact(h2 _ x c hx (by simpa using hc')).mono hx12)
   refine lQ (r:=none) (hcall.mono ?_)
   rintro e w3 ⟨ι',ψ',out,S',e1,e2,e3,e4⟩
   have hxx:=hx12.trans e1
   have hE':eA ι' ψ' N (eg env DS (.dfr (.own S.length 0::ds))) { a with defers:=[{ target:=.collected B,args:=#[] }]++a.defers }:=by
    obtain⟨p',hp',hb',_⟩:=e1.pl S.length ⟨B,0,undef,0⟩ (by rw [← hlen];simp)
    refine⟨hE.size,hE.bound,⟨.own S.length 0::ds,.pointer (some ⟨B,0,none⟩)::dvs,by simp [eg],by simp [d2],fun j x v hx hv=>?_, ?_⟩,fun t=>?_⟩
    ·cases j with
     | zero =>
      simp at hx hv;subst hx;subst hv
      have:B=p'.blk:=hb'.symm
      rw [this]
      exact .own _ _ p' hp'
     | succ j=>exact(d3 j x v (by simpa using hx) (by simpa using hv)).mono hxx
    ·simp [d4,sI]
    ·simp only [eg]
     split
     ·next ht =>
      have:a.tmps.getD t undef=undef:=by
       rw [ay,bS (by rw [hE.size,ht];exact hE.bound)];rfl
      show VR _ _ _ (a.tmps.getD t undef)
      rw [this]
      refine .dfr _ (.pointer (some ⟨B,0,none⟩)::dvs) (by simp [d2]) fun j x v hx hv=>?_
      cases j with
      | zero =>
       simp at hx hv;subst hx;subst hv
       have:B=p'.blk:=hb'.symm
       rw [this]
       exact .own _ _ p' hp'
      | succ j=>exact(d3 j x v (by simpa using hx) (by simpa using hv)).mono hxx
     ·exact(hE.tmp t).mono hxx
   cases out with
   | ret v =>
    cases e<;>simp only [kP] at e3
    obtain⟨st,pend,N',tm,ps',asg',body',k1,k2,k3⟩:=e4
    obtain⟨p',hp',hb',_⟩:=e1.pl (S.length+1) ⟨B+1,0,undef,0⟩ (by rw [← hlen];simp)
    obtain⟨q0,⟨fn',vs',d',q1,q2,q3⟩,q4,q5⟩:=e2.blk _ _ p' k1 hp'
    have hbl:p'.blk=B+1:=hb'
    have hne:st≠.busy:=fun e=>by subst e;exact absurd k2 (by decide)
    have hend:=run_endLoop (P:=P) q1 hne
    rw [hbl] at hend
    refine⟨pend,_,hend, ?_⟩
    have hR3:b7 w0 ι' ψ' (S'.set (S.length+1) (.loop .exhausted pend N' tm ps' asg' body')) (w3.putObj p'.blk (.loop { state:=.exhausted,pending:=pend,fn:=fn',tmps:=vs',params:=ps',assign:=asg',body:=body',defers:=d' })) :=
     e2.putBlk k1 hp' rfl rfl q4 (by intro es e;cases e) ⟨q0,⟨fn',vs',d',dK (du q1),q2,q3⟩,q4,q5⟩
    rw [hbl] at hR3
    cases pend with
    | none=>exact⟨ι',ψ',.normal,_,_,hxx.take n0,hR3,hE',trivial,k3⟩
    | some c=>exact wpIn_mono (k3 ι' ψ' _ _ hR3 hE') fun e a2 w2 hp=>hp.chain (hxx.take n0)
   | panic v =>
    cases e<;>simp only [kP] at e3
    exact⟨ι',ψ',.panic v,_,S',hxx.take n0,e2,hE',e3,e4⟩
end
end Go.Fen
namespace Go.Fen
open Go.RowKit
variable {P:Program}{w0 w w':World}{ι:List Pl}{ψ:cX}{S:List ax}
theorem qt {α β:Type} [BEq β] [LawfulBEq β] (f:α→β):∀ (l:List α) (j:Nat) (x:α),(l.map f).Nodup→l[j]? = some x→l.filter (fun y=>!(f y==f x))=l.eraseIdx j
 | [],j,x,_,h=>by simp at h
 | y::l,0,x,hn,h=>by
  simp at h;subst h
  rw [aA,iL] at hn
  simp only [Aq,beq_self_eq_true,x9,bJ,if_false,List.eraseIdx_cons_zero]
  rw [List.filter_eq_self]
  intro z hz
  have:f z≠f y:=fun e=>hn.1 (e▸b_ hz)
  simpa using this
 | y::l,j+1,x,hn,h=>by
  rw [aA,iL] at hn
  have hx:l[j]? = some x:=by simpa using h
  have hne:f y≠f x:=fun e=>hn.1 (e▸b_ (ar hx))
  have hne':(f y==f x)=false:=by simpa using hne
  simp only [Aq,hne',CM,if_true,uo]
  rw [qt f l j x hn.2 hx]
theorem oL {α:Type}:∀ (l:List α) (j:Nat) (x:α),l[j]? = some x→l.Perm (x::l.eraseIdx j)
 | [],j,x,h=>by simp at h
 | y::l,0,x,h=>by simp at h;subst h;simp
 | y::l,j+1,x,h=>by
  have:=oL l j x (by simpa using h)
  rw [uo]
  exact(this.cons y).trans (List.Perm.swap x y _)
theorem qs:∀ (l:List MapEntry) (m:MapEntry),(l.map (·.born)).Nodup→m∈l→l.find? (fun e=>e.born==m.born)=some m
 | [],m,_,h=>by simp at h
 | x::l,m,hn,h=>by
  rw [aA,iL] at hn
  rcases bA.1 h with rfl | h
  ·simp
  ·have hne:x.born≠m.born:=fun e=>hn.1 (e▸b_ h)
   rw [List.find?_cons_of_neg (by simpa using hne)]
   exact qs l m hn.2 h
theorem tX (n:Nat) (hn:0<n) (w:World):∃ j w1,j<n∧(w1=w∨w1=w.drew)∧(choose (.mapNext n)).run P w=.ok j w1:=by
 rw [run_choose_drew]
 by_cases h:n≤1
 ·exact⟨0,w,hn,.inl rfl,by simp [Question.forced,h]⟩
 ·exact⟨(w.tape w.drawn (.mapNext n)) % n,w.drew,gj _ hn,.inr rfl,by simp [Question.forced,h,Question.cut]⟩
section
variable {n0 N:Nat}{r:Option Nat}{Q:bN}{k:List TI}{env:cF}
theorem nU {all:Array Oper}{o:Oper}{l:List Oper}{it:Operand}{a:Nat}{cur:Option (AV × AV)}{rest:List (AV × AV)} (hg:bH all env o=some true) (ho:o.op=.next it false) (hit:bf w0 env it=.own a 0)
  (hS:S[a]? = some (.mit cur rest)) (hd:dx N o.dst=true)
  (h0:rest=[]→aX P w0 n0 N r (.it (.ops all l)::k) Q .normal (putA env o.dst (.tup [.bool false])) S)
  (h1:∀ e rest',rest.Perm (e::rest')→aX P w0 n0 N r (.it (.ops all l)::k) Q .normal (putA env o.dst (.tup [.bool true,e.1,e.2])) (S.set a (.mit (some e) rest'))) :
  aX P w0 n0 N r (.it (.ops all (o::l))::k) Q .normal env S:=by
 intro ι ψ w ac hR hE
 have hw:=ce hE hg
 refine d9 hw (fun c hc=>by rw [hc] at ho;cases ho) ?_
 have hv:=hE.eval hR it
 rw [hit] at hv
 generalize hc:ac.eval it=c at hv
 have hres:(execOp ac.eval o).run P w=(do pure (.value (← iM c false o.type)):Sem Next).run P w:=by
  obtain⟨dst,op,ty,pos,after,guard⟩:=o
  simp only at ho
  subst ho
  simp [execOp,hc]
 rw [hres]
 cases hv with
 | own _ _ pl hpl =>
  obtain⟨q0,q1,q3,q4⟩:=hR.blk a _ pl hS hpl
  have over:(iM (.pointer (some ⟨pl.blk,0,none⟩)) false o.type).run P w=.ok (.tuple #[.bool false]) w→rest=[] →
    o.uponIn (FR r) 0 P ac (wpListIn (FR r) 0 P all (ju w0 n0 N ι ψ (aX P w0 n0 N r k Q)) l) (ju w0 n0 N ι ψ (aX P w0 n0 N r k Q)) ((do pure (.value (← iM (.pointer (some ⟨pl.blk,0,none⟩)) false o.type)):Sem Next).run P w):=by
   intro hn hr
   simp only [bu,hn,bB,eD]
   exact(h0 hr) ι ψ w _ hR (hE.putA (.tup _ _ rfl fun j x v hx hv=>by
    match j with
    | 0=>simp at hx hv;subst hx;subst hv;exact .bool _
    | j+1=>simp at hx) hd)
  rcases q1 with⟨k1,k2,k3⟩ | ⟨mb,ck,me,seen,lst,k1,k2,k4,k5,k6⟩
  ·exact over (by simp [iM,getObj,kg,k1]) k2
  ·obtain⟨hm,hok⟩:=hR.psim mb me ck k2
   have hb:=hok.1
   have hall:∀ e∈me.toList,e.born<ck:=hb
   let left:=me.filter fun e=>!seen.contains e.born
   have hleftL:left.toList=me.toList.filter (fun e=>!seen.contains e.born):=by simp [left]
   have hold:left.filter (fun e=>decide (e.born<ck))=left:=by
    apply Cp.1
    rw [wD,List.filter_eq_self]
    intro e he
    rw [hleftL] at he
    simpa using hall e (sn.1 he).1
   have hnew:left.filter (fun e=>decide (e.born≥ck))=#[]:=by
    apply Cp.1
    rw [wD,List.filter_eq_nil_iff]
    intro e he
    rw [hleftL] at he
    have:=hall e (sn.1 he).1
    simp;omega
   have hun:(!seen.isEmpty&&!me.isEmpty&&me.all (fun e=>decide (e.born≥ck)))=false:=by
    cases hme:me.isEmpty with
    | true=>simp
    | false =>
     have:me.all (fun e=>decide (e.born≥ck))=false:=by
      rw [p5] at hme
      rw [← Array.all_toList,List.all_eq_false]
      have hpos:0<me.size:=xU.2 hme
      refine⟨me[0],by simp, ?_⟩
      have:=hall me[0] (by simp)
      simp;omega
     simp [this]
   have hlen:lst.length=left.size:=by rw [k5.1,← hleftL];simp
   have hrun:(iM (.pointer (some ⟨pl.blk,0,none⟩)) false o.type).run P w=(do
     match ((if left.isEmpty then #[none] else #[])++(left++#[]).map some)[← choose (.mapNext ((if left.isEmpty then #[none] else #[])++(left++#[]).map some).size)]? with
     | some (some e) =>
      setObj pl.blk (.mapIter (some mb) ck (seen.push e.born) ck)
      pure (.tuple #[.bool true,e.key,e.val])
     | some none=>pure (.tuple #[.bool false])
     | none=>stuck "Next: no such candidate" : Sem Value).run P w:=by
    have hg1:(getObj pl.blk).run P w=.ok (.mapIter (some mb) ck seen ck) w:=by simp [getObj,kg,k1]
    have hg2:(getObj mb).run P w=.ok (.map me ck) w:=by simp [getObj,kg,hm]
    simp only [iM,bu,hg1,hg2,bB,hun,bJ,if_false,eD]
    rw [show (me.filter fun e=>!seen.contains e.born)=left from rfl,hold,hnew]
    rfl
   by_cases hle:left=#[]
   ·have hl0:rest=[]:=by
     have:lst=[]:=bo (by rw [hlen,hle];rfl)
     rw [this] at k4;exact List.Perm.eq_nil k4.symm
    refine over ?_ hl0
    rw [hrun,hle]
    simp [run_choose_drew,Question.forced]
   ·have hpos:0<left.size:=xU.2 hle
    have hemp:left.isEmpty=false:=by rw [p5];exact hle
    have hcand:((if left.isEmpty then #[none] else #[])++(left++#[]).map some:Array (Option MapEntry))=left.map some:=by simp [hemp]
    rw [hcand,Array.size_map] at hrun
    obtain⟨j,w1,hj,hw1,hch⟩:=tX (P:=P) left.size hpos w
    have hmj:left[j]? = some left[j]:=a_ hj
    have hw1h:w1.heap=w.heap:=by rcases hw1 with rfl | rfl<;>rfl
    have hR1:b7 w0 ι ψ S w1:=by
     rcases hw1 with rfl | rfl
     ·exact hR
     ·exact hR.drew
    have k1':w1.heap[pl.blk]? = some (.mapIter (some mb) ck seen ck):=by rw [hw1h];exact k1
    have hset:(setObj pl.blk (.mapIter (some mb) ck (seen.push left[j].born) ck)).run P w1=.ok () (w1.putObj pl.blk (.mapIter (some mb) ck (seen.push left[j].born) ck)):=by simp [setObj,kg,k1',World.putObj]
    have hrun2:(iM (.pointer (some ⟨pl.blk,0,none⟩)) false o.type).run P w=.ok (.tuple #[.bool true,left[j].key,left[j].val]) (w1.putObj pl.blk (.mapIter (some mb) ck (seen.push left[j].born) ck)):=by
     rw [hrun]
     simp only [bu,hch,bB,je,hmj,cu,hset,eD]
    have hjl:j<lst.length:=by rw [hlen];exact hj
    have hlj:lst[j]? = some lst[j]:=al hjl
    have hLj:(me.toList.filter fun e=>!seen.contains e.born)[j]? = some left[j]:=by rw [← hleftL];simpa using hmj
    have hv:=k5.2 j lst[j] left[j] hlj hLj
    have hmem:left[j]∈me.toList:=(sn.1 (ar hLj)).1
    have hnd:((me.toList.filter fun e=>!seen.contains e.born).map (·.born)).Nodup:=hok.2.sublist (List.filter_sublist.map _)
    have hR2:b7 w0 ι ψ (S.set a (.mit (some lst[j]) (lst.eraseIdx j))) (w1.putObj pl.blk (.mapIter (some mb) ck (seen.push left[j].born) ck)):=by
     refine hR1.putBlk hS hpl rfl rfl q3 (by intro es e;cases e) ⟨q0,.inr ⟨mb,ck,me,seen.push left[j].born,lst.eraseIdx j,dK (du k1'),k2,.refl _, ?_, ?_⟩,q3,q4⟩
     ·have hf:me.toList.filter (fun e=>!(seen.push left[j].born).contains e.born)=(me.toList.filter fun e=>!seen.contains e.born).eraseIdx j:=by
       rw [← qt (·.born) _ j left[j] hnd hLj,List.filter_filter]
       congr 1
       funext e
       simp only [Array.contains_push,Bool.not_or,Bool.and_comm]
      rw [hf]
      refine⟨by rw [qL hjl,qL (by rw [← k5.1];exact hjl),k5.1],fun i e m he hm=>?_⟩
      rw [List.getElem?_eraseIdx] at he hm
      split at he
      ·next hij=>rw [if_pos hij] at hm;exact k5.2 i e m he hm
      ·next hij=>rw [if_neg hij] at hm;exact k5.2 (i+1) e m he hm
     ·intro e he
      cases he
      refine⟨left[j].born,left[j],by simp, ?_,hv.1,hv.2⟩
      rw [← Array.find?_toList]
      exact qs me.toList left[j] hok.2 hmem
    simp only [bu,hrun2,bB,eD]
    have hp:rest.Perm (lst[j]::lst.eraseIdx j):=k4.symm.trans (oL lst j _ hlj)
    exact(h1 lst[j] (lst.eraseIdx j) hp) ι ψ _ _ hR2 (hE.putA (.tup _ _ rfl fun i x v hx hv'=>by
     match i with
     | 0=>simp at hx hv';subst hx;subst hv';exact .bool _
     | 1=>simp at hx hv';subst hx;subst hv';exact hv.1
     | 2=>simp at hx hv';subst hx;subst hv';exact hv.2
     | i+3=>simp at hx) hd)
end
end Go.Fen
namespace Go.Fen
open Go.RowKit
variable {P:Program}{w0 w w':World}{ι:List Pl}{ψ:cX}{S:List ax}
section
variable {n0 N:Nat}{r:Option Nat}{Q:bN}{k:List TI}{env:cF}
theorem Av {all:Array Oper}{o:Oper}{l:List Oper}{fop x:Operand}{tys:Array TypeId}{f:FuncId}{v:AV} (hg:bH all env o=some true) (ho:o.op=.call ⟨.value fop,#[x],tys⟩) (hf:bf w0 env fop=.fn (.func f) [] [])
  (hext:∀ (c:Value) (w:World),(callFunc f #[c]).run P w=.ok (.value c) w) (hd:dx N o.dst=true) (hx:bf w0 env x=v)
  (h:aX P w0 n0 N r (.it (.ops all l)::k) Q .normal (putA env o.dst v) S):aX P w0 n0 N r (.it (.ops all (o::l))::k) Q .normal env S:=by
 subst hx
 intro ι ψ w a hR hE
 have hw:=ce hE hg
 refine d9 hw (fun c hc=>by rw [hc] at ho;cases ho) ?_
 have hvf:=hE.eval hR fop
 rw [hf] at hvf
 generalize hcf:a.eval fop=cf at hvf
 cases hvf with
 | fn _ _ _ vf vc hl1 hl2 h1 h2 =>
  obtain rfl:vf=#[]:=nT hl1.symm
  obtain rfl:vc=#[]:=nT hl2.symm
  have hres:(execOp a.eval o).run P w=.ok (.value (a.eval x)) w:=by
   simp [execOp,ho,resolve,hcf,Deferred.ofValue,invoke,hext]
  rw [hres]
  exact h ι ψ w _ hR (hE.putA (hE.eval hR x) hd)
theorem ew {i:KI} (a:Nat){S1:List ax} (hS:cE S a=S1) (h:aX P w0 n0 N r (.it i::k) Q .normal env S1):aX P w0 n0 N r (.it i::k) Q .normal env S:=by
 subst hS
 intro ι ψ w ac hR hE
 obtain⟨ψ1,hle,hR1⟩:=ip hR a
 have hx:cN ι ψ ι ψ1:=⟨(cN.refl ι ψ).pl,hle⟩
 exact KI.mono (h ι ψ1 w ac hR1 (hE.mono hx)) fun e a2 w2 hp=>hp.chain (hx.take n0)
end
def zL:AV→Option Value
 | .int k n=>some (.int k n)
 | .bool b=>some (.bool b)
 | .str s=>some (.string ⟨s.toArray⟩)
 | _=>none
theorem lb {x:AV}{c v:Value} (hx:VR ι ψ x c) (h:zL x=some v):c=v:=by
 cases x<;>simp [zL] at h<;>subst h
 ·exact hx.int_inv
 ·exact hx.bool_inv
 ·exact hx.str_inv
theorem ao.lib {f:FuncId}{args:List AV}{vs:List Value}{v:AV}{c:Value}{R:df→List ax→Prop} (he:∀ (a:Array Value) (w:World),(callFunc f a).run P w=.ok (.enter f a) w) (ha:args.map zL=vs.map some)
  (hv:zL v=some c) (h:∀ w,Below w0.heap.size w0 w→Calls P f vs.toArray w fun e w'=>e=.returned c∧Below w.heap.size w w') (hR:R (.ret v) S):ao P w0 f args S R:=by
 refine⟨he,fun ι ψ w cargs hRel hl hargs=>?_⟩
 have hlen:args.length=vs.length:=by simpa using congrArg dM ha
 have:cargs=vs.toArray:=by
  apply jg
  intro j
  by_cases hj:j<args.length
  ·have h1:args[j]? = some args[j]:=al hj
   have h2:cargs[j]? = some cargs[j]:=a_ (by omega)
   have h3:vs[j]? = some vs[j]:=al (by omega)
   have h4:=hargs j _ _ h1 h2
   have h5:(args.map zL)[j]? = (vs.map some)[j]?:=by rw [ha]
   simp only [aF,h1,h3,cu,a8] at h5
   rw [h2]
   simp only [cS,h3]
   rw [lb h4 h5]
  ·rw [bS (by omega),cS,bz (by omega)]
 subst this
 refine(h w hRel.below).mono ?_
 rintro e w' ⟨rfl,hb⟩
 have hb0:Below w0.heap.size w w':=hb.mono hRel.n0
 refine⟨ι,ψ,.ret v,S,cN.refl _ _,hRel.grow hb0 (fun k hk=>hb.block k hk) (cX.le_refl _) (fun _ _ _ e=>.inl e) (fun _ _ _ e=>.inl e), ?_,hR⟩
 cases v<;>simp [zL] at hv<;>subst hv
 ·exact .int _ _
 ·exact .bool _
 ·exact .str' _
def mX (P:Program) (w0:World) (all:Array Oper) (N:Nat):List Oper→cF→List ax→Option (cF × List ax)
 | [],env,S=>some (env,S)
 | o::l,env,S=>match bH all env o,dc P S (bf w0 env) o.op,dx N o.dst with
  | some true,some (v,S'),true=>mX P w0 all N l (putA env o.dst v) S'
  | _,_,_=>none
def sk (P:Program) (w0:World) (g:FuncId) (args:List AV) (rv:AV) (S:List ax) (K:List ax→Prop):Prop :=
 ∃ (G:Func) (id:Nat) (o0:Oper) (l:List Oper) (rest:Code) (ty:TypeId) (d:Nat) (env1:cF) (S1:List ax),P.funcs[g]? = some G∧(G.name == "runtime.NumGoroutine")=false∧G.body=some (.seq (.region id (o0::l).toArray false) rest) ∧
  o0.op=.call ⟨.builtin .recover,#[],#[]⟩∧o0.guard=none∧o0.type=ty∧o0.dst=some d∧d<G.ntmps∧args.length≤G.ntmps∧G.ntmps≤DS∧G.results=#[] ∧
  mX P w0 (o0::l).toArray G.ntmps l (eg (cW args) d rv) S=some (env1,S1) ∧
  aX P w0 S.length G.ntmps none [.it (.code rest)] (fun x env S'=>(x=.normal∨x=.ret)∧env DS=.dfr []∧eu S.length S S'∧K (S'.take S.length)) .normal env1 S1
theorem ra {all:Array Oper}{N:Nat}{QQ:Exit→Act→List Frame→World→Prop}{cs:List Frame}:∀ (l:List Oper) (j:Nat) (env env':cF) (S S':List ax) (ι:List Pl) (ψ:cX) (a:Act) (w:World),
  all.toList.drop j=l→mX P w0 all N l env S=some (env',S')→b7 w0 ι ψ S w→eA ι ψ N env a →
  (∀ ι' ψ' a' w',cN ι ψ ι' ψ'→b7 w0 ι' ψ' S' w'→eA ι' ψ' N env' a'→QQ .normal a' cs w')→wpOpsSIn (FR none) 0 P all QQ (un j l.length) a cs w:=by
 intro l
 induction l with
 | nil =>
  intro j env env' S S' ι ψ a w _ h hR hE hk
  simp [mX] at h
  obtain⟨rfl,rfl⟩:=h
  exact hk ι ψ a w (cN.refl _ _) hR hE
 | cons o l ih =>
  intro j env env' S S' ι ψ a w hd h hR hE hk
  have ho:all[j]? = some o:=by
   have:(all.toList.drop j)[0]? = some o:=by rw [hd];rfl
   simpa using this
  have hd':all.toList.drop (j+1)=l:=by
   have:=congrArg (List.drop 1) hd
   simpa [List.drop_drop,Nat.add_comm] using this
  simp only [mX] at h
  split at h
  ·next v S1 hg hs hds =>
   simp only [aI,List.range'_succ,wpOpsSIn,ho]
   refine⟨fun _ _=>trivial, ?_⟩
   rw [if_pos (ce hE hg)]
   obtain⟨ι',ψ',w',nx,cv,h1,h2,h3,h4,h5⟩:=kq (P:=P) hR (fun x=>hE.eval hR x) hs
   rw [h1]
   have key:wpOpsSIn (FR none) 0 P all QQ (un (j+1) l.length) (a.put o.dst cv) cs w' :=
    ih (j+1) _ env' S1 S' ι' ψ' _ w' hd' h h4 ((hE.mono h3).putA h5 hds) fun ι2 ψ2 a2 w2 e1 e2 e3=>hk ι2 ψ2 a2 w2 (h3.trans e1) e2 e3
   rcases h2 with rfl | ⟨rfl,rfl⟩
   ·exact key
   ·exact key
  ·cases h
inductive MR (ι:List Pl) (ψ:cX):AV→FrameMode→FrameMode→Prop
 | ret:MR ι ψ .inil .returning .returning
 | pan (rv:AV) (c:Value) (h:VR ι ψ rv c):MR ι ψ rv (.panicking [{ v:=c,recovered:=false }]) (.panicking [{ v:=c,recovered:=true }])
theorem vm {g:FuncId}{args:List AV}{rv:AV}{K:List ax→Prop} (h:sk P w0 g args rv S K) (hR:b7 w0 ι ψ S w){u u':FrameMode} (hm:MR ι ψ rv u u'){cargs:Array Value} (hl:args.length=cargs.size)
  (hv:∀ (j:Nat) (x:AV) (c:Value),args[j]? = some x→cargs[j]? = some c→VR ι ψ x c) :
  (∀ (a:Array Value) (w:World),(callFunc g a).run P w=.ok (.enter g a) w) ∧
  CallsDIn (FR none) 0 P g cargs u w fun e u2 w'=>e=.returned (.tuple #[])∧u2=u'∧∃ ι' ψ' S',cN ι ψ ι' ψ'∧b7 w0 ι' ψ' S' w'∧K S':=by
 obtain⟨G,id,o0,l,rest,ty,d,env1,S1,h1,h2,h3,h4,h5,h6,h7,h8,h9,h10,h11,h12,h13⟩:=h
 refine⟨fun a w=>by simp only [callFunc,bu,run_program,bB,h1,h2,h3];rfl, ?_⟩
 refine callsDIn_of_wpSIn h1 h3 trivial fun c₀ cs hu=>?_
 have hE:eA ι ψ G.ntmps (cW args) { tmps:=cargs++bI (G.ntmps - cargs.size) undef,defers:=[] }:=by
  refine⟨by simp;omega,h10,⟨[],[],by simp [cW],rfl,by simp,rfl⟩,fun t=>?_⟩
  simp only [cW]
  split
  ·next ht =>
   have:(cargs++bI (G.ntmps - cargs.size) undef).getD t undef=undef:=by
    rw [ay,bS (by simp;omega)];rfl
   rw [this]
   exact .dfr [] [] rfl (by simp)
  ·by_cases ht:t<args.length
   ·have e1:args[t]? = some args[t]:=al ht
    have ht':t<cargs.size:=by omega
    have e2:cargs[t]? = some cargs[t]:=a_ ht'
    rw [e1,ay,fq ht',e2]
    exact hv t _ _ e1 e2
   ·rw [bz (by omega)]
    exact .junk _
 have hfin:∀ (cs':List Frame) (rc:Value),VR ι ψ rv rc→cs'={ c₀ with mode:=u' }::cs →
   wpOpsSIn (FR none) 0 P (o0::l).toArray (Exit.thenS (rest.wpSIn (FR none) 0 P (bodyPostS P G c₀ cs fun e u2 w'=>e=.returned (.tuple #[])∧u2=u'∧∃ ι' ψ' S',cN ι ψ ι' ψ'∧b7 w0 ι' ψ' S' w'∧K S')) (bodyPostS P G c₀ cs fun e u2 w'=>e=.returned (.tuple #[])∧u2=u'∧∃ ι' ψ' S',cN ι ψ ι' ψ'∧b7 w0 ι' ψ' S' w'∧K S'))
    (un 1 l.length) (Act.put { tmps:=cargs++bI (G.ntmps - cargs.size) undef,defers:=[] } (some d) rc) cs' w:=by
  intro cs' rc hrc hcs
  subst hcs
  refine ra l 1 _ env1 S S1 ι ψ _ w (by simp) h12 hR (hE.put hrc h8) fun ι1 ψ1 a1 w1 e1 e2 e3=>?_
  refine wpSIn_of_wpIn rfl (wpIn_mono (h13 ι1 ψ1 w1 a1 e2 e3) fun e a2 w2 hp=>?_)
  obtain⟨ι2,ψ2,x,env2,S2,f1,f2,f3,f4,f5,f6,f7,f8⟩:=hp
  obtain⟨ds,dvs,d1,d2,d3,d4⟩:=f3.defers
  rw [f6] at d1;cases d1
  obtain rfl:dvs=[]:=mM.1 d2.symm
  have hx1:cN (ι1.take S.length) ψ1 ι2 ψ2:=f1
  have hx:cN ι ψ ι2 ψ2:=by
   refine⟨fun i p hp=>?_,cX.le_trans e1.psi hx1.psi⟩
   have hi:i<S.length:=by rw [← hR.len];exact(ab.1 hp).1
   obtain⟨p1,k1,kb1,kg1,ke1⟩:=e1.pl i p hp
   obtain⟨p2,k2,kb2,kg2,ke2⟩:=hx1.pl i p1 (by rw [aV,if_pos hi];exact k1)
   refine⟨p2,k2,kb2.trans kb1,dB kg1 kg2,fun e=>?_⟩
   have:p.gen=p1.gen:=by omega
   have:p1.gen=p2.gen:=by omega
   rw [ke2 (by omega),ke1 (by omega)]
  obtain⟨ψ3,k1,k2,k3⟩:=f2.leave S.length (fun j B hj hB=>by
   have:B.ltB S.length=true:=(f7 j B hj hB).elim (fun e=>hR.ltB e) (fun e=>e)
   cases B<;>first | exact this | (exact oQ this) | trivial)
  have hfinal:∃ ι' ψ' S',cN ι ψ ι' ψ'∧b7 w0 ι' ψ' S' w2∧K S':=by
   refine⟨ι2.take S.length,ψ3,_,⟨fun i p hp=>?_,cX.le_trans hx.psi k1⟩,k3,f8⟩
   obtain⟨p',e1,e2⟩:=hx.pl i p hp
   have:i<S.length:=by rw [← hR.len];exact(ab.1 hp).1
   exact⟨p',by rw [aV,if_pos this];exact e1,e2⟩
  have hres:(results G a2.tmps).run P w2=.ok (.tuple #[]) w2:=by
   simp [results,h11]
  have hdef:a2.defers=[]:=by rw [d4];rfl
  rcases f5 with rfl | rfl
  ·cases e<;>simp only [XR] at f4
   exact⟨hdef,u',rfl,_,hres,rfl,rfl,hfinal⟩
  ·cases e<;>simp only [XR] at f4
   exact⟨hdef,u',rfl,_,hres,rfl,rfl,hfinal⟩
 refine wpSIn_seq (wpSIn_region ?_)
 rw [show bC (o0::l).toArray.size=0::un 1 l.length by
  rw [List.range_eq_range'];simp [List.range'_succ]]
 simp only [wpOpsSIn]
 rw [show ((o0::l).toArray)[0]? = some o0 by simp]
 refine⟨fun _ _=>trivial, ?_⟩
 rw [if_pos (by simp [jh,h5])]
 have hex:∀ σ:Operand→Value,(execOp σ o0).run P w=.ok .recover w:=by
  intro σ
  simp [execOp,h4,resolve,invoke,builtin]
 rw [hex,h7]
 simp only [recoverD,hu]
 cases hm with
 | ret=>exact hfin _ _ .inil (by rw [← hu])
 | pan _ c hc=>exact hfin _ _ hc rfl
def qH (P:Program) (F:Func) (S0:List ax) (env:cF) (R:df→List ax→Prop) (S:List ax):Prop :=
 ∃ vs,e_ P env S F.results.toList=some vs∧eu S0.length S0 S∧(conv S (fun a=>decide (S0.length≤a)) 4 (cj vs)).lt S0.length=true∧R (.ret (conv S (fun a=>decide (S0.length≤a)) 4 (cj vs))) (S.take S0.length)
def lV (P:Program) (w0:World) (F:Func) (S0:List ax) (R:df→List ax→Prop):bN
 | .normal,env,S | .ret,env,S=>∃ g first cap,env DS=.dfr [.fn (.func g) first cap]∧sk P w0 g (first++cap) .inil S (qH P F S0 env R)
 | .panic v,env,S=>∃ g first cap,env DS=.dfr [.fn (.func g) first cap]∧sk P w0 g (first++cap) v S (qH P F S0 env R)
 | _,_,_=>False
theorem zB {f:FuncId}{F:Func}{c:Code}{args:List AV}{R:df→List ax→Prop} (hf:P.funcs[f]? = some F) (hb:F.body=some c) (hname:(F.name == "runtime.NumGoroutine")=false) (hargs:args.length≤F.ntmps) (hbd:F.ntmps≤DS)
  (h0:bw S→aX P w0 S.length F.ntmps none [.it (.code c)] (lV P w0 F S R) .normal (cW args) S):ao P w0 f args S R:=by
 refine⟨fun a w=>by simp only [callFunc,bu,run_program,bB,hf,hname,hb];rfl,fun ι ψ w cargs hR hl hv=>?_⟩
 have h:=h0 fun j B hB=>hR.ltB hB
 refine(callsIn_wide (n:=0)).1 ?_
 refine callsIn_of_wp_marks (F:=Fence.wide) hf hb trivial ?_
 have hE:eA ι ψ F.ntmps (cW args) { tmps:=cargs++bI (F.ntmps - cargs.size) undef,defers:=[] }:=by
  refine⟨by simp;omega,hbd,⟨[],[],by simp [cW],rfl,by simp,rfl⟩,fun t=>?_⟩
  simp only [cW]
  split
  ·next ht =>
   have:(cargs++bI (F.ntmps - cargs.size) undef).getD t undef=undef:=by
    rw [ay,bS (by simp;omega)];rfl
   rw [this]
   exact .dfr [] [] rfl (by simp)
  ·by_cases ht:t<args.length
   ·have e1:args[t]? = some args[t]:=al ht
    have ht':t<cargs.size:=by omega
    have e2:cargs[t]? = some cargs[t]:=a_ ht'
    rw [e1,ay,fq ht',e2]
    exact hv t _ _ e1 e2
   ·rw [bz (by omega)]
    exact .junk _
 refine wpIn_mono (h ι ψ w _ hR hE) fun e a' w' hp=>?_
 obtain⟨ι',ψ',x,env,S',h1,h2,h3,h4,h5⟩:=hp
 have hext:cN ι ψ ι' ψ':=by rw [← hR.len,bk] at h1;exact h1
 obtain⟨ds,dvs,d1,d2,d3,d4⟩:=h3.defers
 have go:∀ (u u':FrameMode) (rv:AV) (g:FuncId) (first cap:List AV),u≠.run→MR ι' ψ' rv u u'→settle u'=.returning→env DS=.dfr [.fn (.func g) first cap]→sk P w0 g (first++cap) rv S' (qH P F S env R) →
   LeavesInM Fence.wide 0 P F a'.tmps (fun e w'=>∃ ι' ψ' out S',cN ι ψ ι' ψ'∧b7 w0 ι' ψ' S' w'∧kP ι' ψ' out e∧R out S') a'.defers u w':=by
  intro u u' rv g first cap hu hm hset hds hrun
  rw [hds] at d1;cases d1
  obtain⟨dv,rfl⟩:∃ dv,dvs=[dv]:=by
   match dvs,d2 with
   | [dv],_=>exact⟨dv,rfl⟩
  have hdv:=d3 0 _ dv rfl rfl
  cases hdv with
  | fn _ _ _ vf vc hl1 hl2 k1 k2 =>
   rw [d4]
   simp only [aA,aC,sI,LeavesInM]
   obtain⟨q1,q2⟩:=vm (P:=P) hrun h2 hm (cargs:=vf++vc) (by simp [hl1,hl2]) (fun j x c hx hc=>by
    have hc':(vf.toList++vc.toList)[j]? = some c:=by
     rw [← a7] at hc
     simpa using hc
    by_cases hj:j<first.length
    ·rw [ap hj] at hx
     rw [ap (by simp;omega)] at hc'
     exact k1 j x c hx (by simpa using hc')
    ·rw [aw (by omega)] at hx
     rw [aw (by simp;omega)] at hc'
     simp only [c_,← hl1] at hc'
     exact k2 _ x c hx (by simpa using hc'))
   refine⟨hu,.inr ⟨fun h=>by simp [Fence.wide] at h,.func g,vc,g,vf++vc,rfl,by simp only [invoke];exact q1 _ _,fun _ _=>trivial, ?_⟩⟩
   refine CallsDIn.mono q2 ?_
   rintro e2 u2 w2 ⟨rfl,rfl,ι2,ψ2,S2,e1,e2,vs,r1,r2,r3,r4⟩
   show LeavesInM _ _ _ _ _ _ [] (settle u2) w2
   rw [hset]
   have hE2:=h3.mono e1
   obtain⟨cs,q1,q2,q3⟩:=kw (P:=P) e2 hE2 _ vs r1
   have hrun:(results F a'.tmps).run P w2=.ok (if h:cs.toArray.size=1 then cs.toArray[0] else .tuple cs.toArray) w2:=by
    unfold results
    rw [jw]
    simp only [bu,Ce]
    erw [q1]
    rfl
   have hv:VR ι2 ψ2 (cj vs) (if h:cs.toArray.size=1 then cs.toArray[0] else .tuple cs.toArray):=by
    match vs,cs,q2,q3 with
    | [],[],_,_=>exact .tup _ _ rfl (by simp)
    | [v],[c],_,q3=>simpa [cj] using q3 0 v c rfl rfl
    | v1::v2::vs,c1::c2::cs,q2,q3 =>
     simp only [cj,eR,aI]
     rw [dif_neg (by omega)]
     exact .tup _ _ (by simpa using q2) (fun j x c hx hc=>q3 j x c hx (by simpa using hc))
    | [],_::_,q2,_=>simp at q2
    | [_],[],q2,_=>simp at q2
    | [_],_::_::_,q2,_=>simp at q2
    | _::_::_,[],q2,_=>simp at q2
    | _::_::_,[_],q2,_=>simp at q2
   obtain⟨ψ3,k1,k2,k3⟩:=e2.leave S.length (fun j B hj hB=>by
    have:B.ltB S.length=true:=(r2 j B hj hB).elim (fun e=>hR.ltB e) id
    cases B<;>first | exact this | (exact oQ this) | trivial)
   have qq:=hext.trans e1
   refine⟨_,hrun,ι2.take S.length,ψ3,.ret _,_,⟨fun i p hp=>?_,cX.le_trans qq.psi k1⟩,k3,(gF e2 k1 k2 4 _ _ hv).take r3,r4⟩
   obtain⟨p',e1,e2⟩:=qq.pl i p hp
   have:i<S.length:=by rw [← hR.len];exact(ab.1 hp).1
   exact⟨p',by rw [aV,if_pos this];exact e1,e2⟩
 cases x with
 | normal =>
  cases e<;>simp only [XR] at h4
  obtain⟨g,first,cap,hds,hrun⟩:=h5
  exact go .returning .returning .inil g first cap (by simp) .ret rfl hds hrun
 | ret =>
  cases e<;>simp only [XR] at h4
  obtain⟨g,first,cap,hds,hrun⟩:=h5
  exact go .returning .returning .inil g first cap (by simp) .ret rfl hds hrun
 | exit id=>exact h5.elim
 | goto l=>exact h5.elim
 | panic v =>
  cases e<;>simp only [XR] at h4
  obtain⟨c,rfl,hv⟩:=h4
  obtain⟨g,first,cap,hds,hrun⟩:=h5
  exact go (.panicking [{ v:=c,recovered:=false }]) (.panicking [{ v:=c,recovered:=true }]) v g first cap (by simp) (.pan v c hv) rfl hds hrun
section
variable {n0 N:Nat}{Q:bN}{k:List TI}{env:cF}
theorem nV {all:Array Oper}{o:Oper}{l:List Oper}{fop:Operand}{tys:Array TypeId}{g:FuncId}{first cap ds:List AV} (hg:bH all env o=some true) (ho:o.op=.defer ⟨.value fop,#[],tys⟩)
  (hf:bf w0 env fop=.fn (.func g) first cap) (hds:env DS=.dfr ds) (hd:dx N o.dst=true)
  (h:aX P w0 n0 N none (.it (.ops all l)::k) Q .normal (putA (eg env DS (.dfr (.fn (.func g) first cap::ds))) o.dst (.tup [])) S):aX P w0 n0 N none (.it (.ops all (o::l))::k) Q .normal env S:=by
 intro ι ψ w a hR hE
 have hw:=ce hE hg
 obtain⟨ds',dvs,d1,d2,d3,d4⟩:=hE.defers
 rw [hds] at d1;cases d1
 have hvf:=hE.eval hR fop
 rw [hf] at hvf
 generalize hcf:a.eval fop=cf at hvf
 have hvf0:=hvf
 cases hvf with
 | fn _ _ _ vf vc hl1 hl2 h1 h2 =>
  have hres:(o.semAt (FR none).round a.eval).run P w=.ok (.defer { target:=.fn (.func g) vc,args:=vf }) w:=by
   have hr:(FR none).round=none:=rfl
   rw [hr,Oper.semAt_none]
   simp [execOp,ho,resolve,hcf,Deferred.ofValue]
  show wpListIn (FR none) 0 P all _ (o::l) a w
  unfold wpListIn
  rw [if_pos hw]
  refine⟨fun _ _=>trivial, ?_⟩
  show Oper.uponIn _ _ _ _ _ _ _ _
  rw [hres]
  have hdf:∀ v,v=AV.dfr (.fn (.func g) first cap::ds)→VR ι ψ v undef:=by
   rintro v rfl
   refine .dfr _ (.func (.func g) vf vc::dvs) (by simp [d2]) fun j x v hx hv=>?_
   cases j with
   | zero=>simp at hx hv;subst hx;subst hv;exact hvf0
   | succ j=>exact d3 j x v (by simpa using hx) (by simpa using hv)
  have hE':eA ι ψ N (eg env DS (.dfr (.fn (.func g) first cap::ds))) { a with defers:={ target:=.fn (.func g) vc,args:=vf }::a.defers }:=by
   refine⟨hE.size,hE.bound,⟨.fn (.func g) first cap::ds,.func (.func g) vf vc::dvs,by simp [eg],by simp [d2],fun j x v hx hv=>?_,by simp [d4,sI]⟩,fun t=>?_⟩
   ·cases j with
    | zero=>simp at hx hv;subst hx;subst hv;exact hvf0
    | succ j=>exact d3 j x v (by simpa using hx) (by simpa using hv)
   ·simp only [eg]
    split
    ·next ht =>
     have:a.tmps.getD t undef=undef:=by
      rw [ay,bS (by rw [hE.size,ht];exact hE.bound)];rfl
     show VR _ _ _ (a.tmps.getD t undef)
     rw [this]
     exact hdf _ rfl
    ·exact hE.tmp t
  exact h ι ψ w _ hR (hE'.putA (.tup _ _ rfl (by simp)) hd)
end
end Go.Fen
namespace Go.Fen
open Go.RowKit
variable {P:Program}{w0 w w':World}{ι:List Pl}{ψ:cX}{S:List ax}
theorem bw.app {S0 L:List ax} (h:bw S0) (hL:L.all (fun B=>B.ltB (S0.length+L.length))=true):bw (S0++L):=by
 intro j B hB
 rw [ah]
 by_cases hj:j<S0.length
 ·rw [ap hj] at hB
  exact ax.ltB_mono (by omega) (h j B hB)
 ·rw [aw (by omega)] at hB
  exact aq.1 hL B (ar hB)
theorem bw.set {S0:List ax}{a:Nat}{B:ax} (h:bw S0) (hB:B.ltB S0.length=true):bw (S0.set a B):=by
 intro j C hC
 rw [List.length_set]
 by_cases hj:j=a
 ·subst hj
  by_cases hl:j<S0.length
  ·simp [hl] at hC;subst hC;exact hB
  ·rw [bz (by simp;omega)] at hC;cases hC
 ·rw [bl (fun e=>hj e.symm)] at hC
  exact h j C hC
theorem lF {S0 S2 L:List ax} (hO:bw S2) (hl:S2.length=S0.length):eu S0.length S0 (S2++L):=by
 intro j B hj hB
 rw [ap (by omega)] at hB
 have:=hO j B hB
 rw [hl] at this
 exact .inr this
theorem zx {F:Func}{S0 S S2 L:List ax}{R:df→List ax→Prop}{ms vs:List AV}{env:cF}{v:AV} (h0:env DS=.dfr ms) (h01:dA ms S=some (S2++L)) (hl:S2.length=S0.length) (hO:bw S2) (h1:e_ P env (S2++L) F.results.toList=some vs)
  (h3:conv (S2++L) (fun a=>decide (S2.length≤a)) 4 (cj vs)=v) (h4:v.lt S2.length=true) (h:R (.ret v) S2):i6 P F S0 R .ret env S:=by
 subst h3
 refine⟨ms,S2++L,vs,h0,h01,h1,lF hO hl, ?_, ?_⟩
 ·rw [← hl];exact h4
 ·rw [← hl,kU];exact h
theorem DW {F:Func}{S0 S S2 L:List ax}{R:df→List ax→Prop}{ms vs:List AV}{env:cF}{v:AV} (h0:env DS=.dfr ms) (h01:dA ms S=some (S2++L)) (hl:S2.length=S0.length) (hO:bw S2) (h1:e_ P env (S2++L) F.results.toList=some vs)
  (h3:conv (S2++L) (fun a=>decide (S2.length≤a)) 4 (cj vs)=v) (h4:v.lt S2.length=true) (h:R (.ret v) S2):i6 P F S0 R .normal env S:=zx (F:=F) h0 h01 hl hO h1 h3 h4 h
theorem qO {n0 N:Nat}{r:Option Nat}{Q:bN}{k:List TI}{env:cF}{i:KI}{S0 L:List ax} (hO:bw S0) (m:Nat) (sl:List Nat) (hn:n0=S0.length) (hds:(env DS).lt (S0.length+m)=true) (hsl:sl.all (fun t=>(env t).lt (S0.length+m))=true) (hL:(L.take m).all (fun B=>B.ltB (S0.length+m))=true)
  (h:aX P w0 n0 N r (.it i::k) Q .normal (gg sl env) (S0++L.take m)):aX P w0 n0 N r (.it i::k) Q .normal env (S0++L):=fT hO m sl hn hds hsl hL h
theorem vO {n0 N:Nat}{r:Option Nat}{Q:bN}{k:List TI}{env:cF}{all:Array Oper}{o:Oper}{l:List Oper}{fop:Operand}{args:Array Operand}{tys:Array TypeId}{a:Nat}{A:List AV}
  (hg:bH all env o=some true) (ho:o.op=.call ⟨.value fop,args,tys⟩) (hf:bf w0 env fop=.yld a) (hd:dx N o.dst=true) (hA:args.toList.map (bf w0 env)=A)
  (h:YA P w0 a A S (bK P w0 n0 N r all l k Q env o.dst)) :
  aX P w0 n0 N r (.it (.ops all (o::l))::k) Q .normal env S:=by
 subst hA
 exact ye hg ho hf hd h
theorem rq (n:Nat) (S:List ax):eu n S S=True:=eq_true fun _ _ _ h=>.inl h
theorem BK {S L:List ax}{a:Nat} (h:a<S.length):(S++L)[a]? = S[a]?:=ap h
theorem AB {S L:List ax}{a:Nat}{B:ax} (h:a<S.length):(S++L).set a B=S.set a B++L:=Af _ _ h
theorem BJ (S:List ax) (a:Nat) (B:ax):(S.set a B)[a]? = (S[a]?).map (fun _=>B):=by
 by_cases h:a<S.length
 ·simp [h]
 ·rw [bz (by simp;omega),bz (by omega)];rfl
theorem set_set (S:List ax) (a:Nat) (B C:ax):(S.set a B).set a C=S.set a C:=List.set_set ..
theorem Bz (S:List ax) (a:Nat) (B:ax):(S.set a B).length=S.length:=List.length_set ..
theorem zw {F:Func}{S0 S S2:List ax}{R:df→List ax→Prop}{ms vs:List AV}{env:cF}{v:AV} (h0:env DS=.dfr ms) (h01:dA ms S=some S2) (h1:e_ P env S2 F.results.toList=some vs)
  (h3:conv S2 (fun a=>decide (S0.length≤a)) 4 (cj vs)=v) (h4:v.lt S0.length=true) (hO:bw S2) (hl:S2.length=S0.length) (h:R (.ret v) S2):i6 P F S0 R .ret env S:=by
 subst h3
 refine⟨ms,S2,vs,h0,h01,h1, ?_,h4, ?_⟩
 ·have:=lF (L:=[]) hO hl
  simpa using this
 ·have e:S2.take S0.length=S2:=by rw [← hl];exact bk
  rw [e];exact h
theorem DV {F:Func}{S0 S S2:List ax}{R:df→List ax→Prop}{ms vs:List AV}{env:cF}{v:AV} (h0:env DS=.dfr ms) (h01:dA ms S=some S2) (h1:e_ P env S2 F.results.toList=some vs)
  (h3:conv S2 (fun a=>decide (S0.length≤a)) 4 (cj vs)=v) (h4:v.lt S0.length=true) (hO:bw S2) (hl:S2.length=S0.length) (h:R (.ret v) S2):i6 P F S0 R .normal env S:=zw (F:=F) h0 h01 h1 h3 h4 hO hl h
theorem BC (S:List ax) (a b:Nat):S.length+a+b=S.length+(a+b):=qK _ _ _
def YB (P:Program) (w0:World) (a n N rb:Nat) (LB BB:ax) (R:df→List ax→Prop) (body:Code):bN :=
 fun x env1 S1=>x=.normal∧S1[a]? = some LB∧aX P w0 n N (some rb) [.it (.code body)] (qI a R) .normal env1 (S1.set a BB)
theorem yd {LB:ax}{a N:Nat}{tm:List (Nat × AV)}{ps:Array Tmp}{asg body:Code}{args:List AV}{E:cF}{R:df→List ax→Prop} (hLB:LB=.loop .ready none N tm ps asg body) (hS:S[a]? = some LB) (hps:ps.size=args.length) (hN:decide (N≤DS)=true)
  (htm:tm.all (fun p=>decide (p.1<N))=true) (hpp:ps.toList.all (fun p=>decide (p<N))=true) (hE:sQ (pX tm) (ps.toList.zip args)=E)
  (h:∀ rb BB,BB=.loop .busy none N tm ps asg body→aX P w0 S.length N (some rb) [.it (.code asg)] (YB P w0 a S.length N rb LB BB R body) .normal E S):YA P w0 a args S R:=by
 subst hLB hE
 refine⟨none,N,tm,ps,asg,body,hS,hps,by simpa using hN,fun p hp=>by simpa using aq.1 htm p hp,fun p hp=>by simpa using aq.1 hpp p hp,fun rb=>yP ?_ (h rb _ rfl)⟩
 rintro x e S1 ⟨rfl,h1,h2⟩
 exact⟨rfl,none,h1,h2⟩
theorem yc {a n N rb:Nat}{LB BB:ax}{R:df→List ax→Prop}{body:Code}{env:cF}{S2:List ax} (h1:S[a]? = some LB) (h2:S.set a BB=S2) (h:aX P w0 n N (some rb) [.it (.code body)] (qI a R) .normal env S2):YB P w0 a n N rb LB BB R body .normal env S:=by
 subst h2;exact⟨rfl,h1,h⟩
theorem F2 {a N:Nat}{R:df→List ax→Prop}{env:cF}{LB BB:ax}{tm:List (Nat × AV)}{ps:Array Tmp}{asg body:Code}{S1:List ax} (hLB:LB=.loop .ready none N tm ps asg body) (hBB:BB=.loop .busy none N tm ps asg body) (h:S[a]? = some BB) (h1:S.set a LB=S1) (h2:R (.ret (.bool true)) S1):qI a R .normal env S:=by
 subst h1 hLB hBB;exact⟨_,_,N,tm,ps,asg,body,h,h2⟩
theorem ig {a:Nat}{R:df→List ax→Prop}:Ei (qI a R):=fun _ _ _ _ _ h=>h
theorem mY {a n N rb:Nat}{LB BB:ax}{R:df→List ax→Prop}{body:Code}:Ei (YB P w0 a n N rb LB BB R body):=fun _ _ _ _ _ h=>absurd h.1 (by simp)
theorem yg {n0 N:Nat}{Q:bN}{k:List TI}{env:cF}{g:Operand}{ps:Array Tmp}{asg body:Code}{f:FuncId}{first cap ds A:List AV}{tm:List (Nat × AV)} (keep:List Nat) (hf:bf w0 env g=.fn (.func f) first cap) (hds:env DS=.dfr ds)
  (hk:keep.all (fun t=>decide (t<N))=true) (hA:first++[.yld (S.length+1)]++cap=A) (hT:(keep.map fun t=>(t,env t))=tm)
  (h:∀ LB,LB=ax.loop .ready none N tm ps asg body→ao P w0 f A (S++[.obj (.deferred (some [])),LB]) (lS P w0 n0 N (S.length+1) k Q (eg env DS (.dfr (.own S.length 0::ds))))) :
  aX P w0 n0 N none (.it (.code (.rangeFunc g ps asg body))::k) Q .normal env S:=by
 subst hA hT
 exact sw keep hf hds hk (h _ rfl)
theorem B6 {n0 N m:Nat}{k:List TI}{Q:bN}{env:cF}{v:AV}{LB XB:ax}{N':Nat}{tm:List (Nat × AV)}{ps:Array Tmp}{asg body:Code}{S1:List ax} (hLB:LB=.loop .ready none N' tm ps asg body) (hXB:XB=.loop .exhausted none N' tm ps asg body) (hS:S[m]? = some LB) (h1:S.set m XB=S1)
  (h:aX P w0 n0 N none k Q .normal env S1):lS P w0 n0 N m k Q env (.ret v) S:=by
 subst hLB hXB h1;exact⟨.ready,none,N',tm,ps,asg,body,hS,rfl,h⟩
attribute [go_sem] rq BK AB BJ set_set Bz BC sQ pX pL CI x7 List.zip_nil_left List.zip_nil_right
end Go.Fen
namespace Go.Fen
open Go.RowKit
variable {P:Program}{w0 w w':World}{ι:List Pl}{ψ:cX}{S:List ax}
theorem b7.mperm (h:b7 w0 ι ψ S w){a:Nat}{fz:Bool}{es es':List (AV × AV)} (hS:S[a]? = some (.mp fz es)) (hp:es.Perm es'):b7 w0 ι ψ (S.set a (.mp fz es')) w:=by
 have hal:a<S.length:=(ab.1 hS).1
 have back:∀ (i:Nat) (B:ax),(S.set a (.mp fz es'))[i]? = some B→∃ B0,S[i]? = some B0∧∀ p,B0.at p=B.at p:=by
  intro i B hB
  by_cases hi:i=a
  ·subst hi
   simp [hal] at hB
   subst hB
   exact⟨_,hS,fun _=>rfl⟩
  ·rw [bl (by omega)] at hB
   exact⟨B,hB,fun _=>rfl⟩
 refine⟨h.below,h.psi,h.psim,by simp [h.len],fun i B q hB hq=>?_,h.old,fun i j B C p q k hB hC hp hq hk1 hk2=>?_⟩
 ·by_cases hi:i=a
  ·subst hi
   simp [hal] at hB
   subst hB
   obtain⟨h0,hn,⟨me,c,l,h1,h2,h3,h4,h5⟩,h6⟩:=h.blk i _ q hS hq
   exact⟨h0,(hp.map bZ).nodup_iff.1 hn,⟨me,c,l,h1,h2,h3.trans hp,h4,h5⟩,h6⟩
  ·rw [bl (by omega)] at hB
   exact h.blk i B q hB hq
 ·obtain⟨B0,e1,e2⟩:=back i B hB
  obtain⟨C0,e3,e4⟩:=back j C hC
  exact h.inj i j B0 C0 p q k e1 e3 hp hq (by rw [e2];exact hk1) (by rw [e4];exact hk2)
section
variable {n0 N:Nat}{r:Option Nat}{Q:bN}{k:List TI}{env:cF}
theorem l6 {i:KI} (a:Nat){fz:Bool}{es es':List (AV × AV)}{S1:List ax} (hS:S[a]? = some (.mp fz es)) (hp:es.Perm es') (h1:S.set a (.mp fz es')=S1) (h:aX P w0 n0 N r (.it i::k) Q .normal env S1):aX P w0 n0 N r (.it i::k) Q .normal env S:=by
 subst h1
 intro ι ψ w ac hR hE
 exact h ι ψ w ac (hR.mperm hS hp) hE
theorem Cq {all:Array Oper}{o:Oper}{l:List Oper}{t kt et:TypeId}{m x y:Operand}{a:Nat}{es:List (AV × AV)}{K V:AV}{S1:List ax} (hg:bH all env o=some true) (ho:o.op=.mapUpdate t m x y) (hu:P.underlying t=some (.map kt et)) (hm:bf w0 env m=.mown a) (hx:bf w0 env x=K) (hy:bf w0 env y=V)
  (hS:S[a]? = some (.mp false es)) (hk:dW P kt K=true) (hall:es.all (fun e=>dW P kt e.1)=true) (hf:es.any (fun e=>jb K e.1)=false) (hd:dx N o.dst=true) (h1:S.set a (.mp false (es++[(K,V)]))=S1)
  (h:aX P w0 n0 N r (.it (.ops all l)::k) Q .normal (putA env o.dst (.tup [])) S1):aX P w0 n0 N r (.it (.ops all (o::l))::k) Q .normal env S:=by
 subst h1
 refine dF hg ?_ hd h
 rw [ho]
 simp only [dc,em,hu,hm,hS,hx,hy,hk,hall,h_,hf,x_,if_true,bJ,if_false]
end
theorem jI {kt:TypeId}{es:List (AV × AV)}{K:AV} (hk:dW P kt K=true) (hall:∀ e∈es,dW P kt e.1=true) (hn:K∉es.map bZ):es.any (fun e=>jb K e.1)=false:=by
 rw [List.any_eq_false]
 intro e he hq
 have:=(gL hk (hall e he)).1 hq
 exact hn (this▸b_ he)
end Go.Fen
namespace Go.Fen
open Go.RowKit
section
variable {P:Program}{w0:World}{n0 N:Nat}{r:Option Nat}{ops:Array Oper}{Q:bN}{k:List TI}{env:cF}{S:List ax}
theorem vB {i:Nat}{oi:Oper}{v:AV}{fp:List Nat} (hi:ops[i]? = some oi) (hd:dx N oi.dst=true) (hQ:∀ u env S,Q (.panic u) (putA env oi.dst v) S→Q (.panic u) env S) :
  ∀ (f:Nat) (listed:Array Bool) (prot:List (Nat × List Nat)) (env:cF) (S:List ax),
   (∀ j oj,ops[j]? = some oj→j≠i→listed.getD j true=false→(∀ e∈oj.after,dm .any e=true→e.on≠i)→oi.apart ops oj=true) →
   i∈bM .any ops listed→mI w0 P ops oi v fp env S→er P w0 n0 N r ops k Q f (listed.setIfInBounds i true) ((i,fp)::prot) (putA env oi.dst v) S→er P w0 n0 N r ops k Q (f+1) listed prot env S:=by
 intro f
 induction f with
 | zero =>
  intro listed prot env S hfree hr hrd h
  refine⟨fun e=>(by rw [e] at hr;cases hr),fun j hj=>?_⟩
  by_cases hji:j=i
  ·subst hji
   refine⟨oi,hi,hd, ?_⟩
   rcases hrd with⟨h1,h2⟩ | ⟨h1,h2,h3,h4⟩
   ·subst h2
    exact .inl ⟨h1,ei,eb _ _ _ _ h⟩
   ·exact .inr (.inl ⟨h1,v,S,h4,ei,eb _ _ _ _ h⟩)
  ·have:=ready_mono hj hji
   rw [h.1] at this;cases this
 | succ f ih =>
  intro listed prot env S hfree hr hrd h
  refine⟨fun e=>(by rw [e] at hr;cases hr),fun j hj=>?_⟩
  by_cases hji:j=i
  ·subst hji
   refine⟨oi,hi,hd, ?_⟩
   rcases hrd with⟨h1,h2⟩ | ⟨h1,h2,h3,h4⟩
   ·subst h2
    exact .inl ⟨h1,ei,eb _ _ _ _ h⟩
   ·exact .inr (.inl ⟨h1,v,S,h4,ei,eb _ _ _ _ h⟩)
  ·obtain⟨hun,oj,hoj,hall⟩:=mem_ready.1 hj
   have hiu:listed.getD i false=false:=by
    have:=(mem_ready.1 hr).1
    simp only [ay] at this ⊢
    cases e:listed[i]? with
    | none=>rfl
    | some b=>rw [e] at this;simpa using this
   have hno:∀ e∈oj.after,dm .any e=true→e.on≠i:=fun e he hb heq=>by
    have:=hall e he hb
    rw [heq,hiu] at this;cases this
   have hap:=hfree j oj hoj hji hun hno
   obtain⟨a1,a2,a3⟩:=Oper.apart_spec hap
   have hrel:kx ops j i=true:=by
    unfold kx
    simp only [hoj]
    simp only [az,wE]
    intro e he
    by_cases hb:dm .any e=true
    ·simp [hb,hno e he hb]
    ·simp [hb]
   obtain⟨o,ho,hdj,hcase⟩:=h.2 j (ready_mono hj hji)
   rw [hoj] at ho;cases ho
   have hcomm:(listed.setIfInBounds i true).setIfInBounds j true=(listed.setIfInBounds j true).setIfInBounds i true:=by
    apply jg
    intro m
    simp only [bF]
    by_cases h1:i=m<;>by_cases h2:j=m<;>simp_all
   have hop:=jE (w0:=w0) (env:=env) (v:=v) a1
   have hgd:=jK (env:=env) (v:=v) a1
   have next:∀ (u:AV) (S':List ax),(dt ops j ((i,fp)::prot) S S'∧er P w0 n0 N r ops k Q f ((listed.setIfInBounds i true).setIfInBounds j true) ((i,fp)::prot) (putA (putA env oi.dst v) oj.dst u) S') →
     dt ops j prot S S'∧er P w0 n0 N r ops k Q (f+1) (listed.setIfInBounds j true) prot (putA env oj.dst u) S':=by
    rintro u S' ⟨hp,hk⟩
    refine⟨hp.2,ih _ prot _ S' ?_ (ready_mono hr (fun e=>hji e.symm)) (hrd.later a3 (hp.1 hrel)) ?_⟩
    ·intro m om hom hmi hmu hmno
     refine hfree m om hom hmi ?_ hmno
     by_cases hmj:m=j
     ·subst hmj
      simp only [ay,bF] at hmu ⊢
      by_cases hlt:m<listed.size
      ·simp [hlt] at hmu
      ·simp [hlt] at hmu
     ·rw [getD_set_ne true (fun e=>hmj e.symm)] at hmu;exact hmu
    ·rw [← hcomm,← qd a2];exact hk
   refine⟨oj,hoj,hdj, ?_⟩
   rcases hcase with⟨b1,b2⟩ | ⟨b1,u,S',b2,b3⟩ | ⟨b1,fop,args,tys,fn,first,cap,sh,b2,b3,b4⟩
   ·exact .inl ⟨by rw [← hgd];exact b1,next _ _ b2⟩
   ·exact .inr (.inl ⟨by rw [← hgd];exact b1,u,S',by rw [← iR hop];exact b2,next _ _ b3⟩)
   ·have hargs:args.toList.map (bf w0 (putA env oi.dst v))=args.toList.map (bf w0 env):=gA fun y hy=>hop y (by rw [b2];simp [bc,Call.operands];exact .inr (by simpa using hy))
    have hfop:bf w0 (putA env oi.dst v) fop=bf w0 env fop:=hop fop (by rw [b2];simp [bc,Call.operands])
    refine .inr (.inr ⟨by rw [← hgd];exact b1,fop,args,tys,fn,first,cap,sh,b2,by rw [← hfop];exact b3, ?_⟩)
    rw [hargs] at b4
    refine b4.mono fun out S' hk=>?_
    cases out with
    | ret u=>exact next u S' hk
    | panic u=>exact hQ u _ _ hk
def re:ResultVar→Nat
 | .tmp t=>t
 | .cell t _=>t
theorem wX {d:Nat}{x:AV}:∀ {l:List ResultVar},(l.all fun y=>!(re y==d))=true→e_ P (eg env d x) S l=e_ P env S l:=by
 intro l
 induction l with
 | nil=>intro _;rfl
 | cons y l ih =>
  intro h
  simp only [lg,aj] at h
  have hy:re y≠d:=by have:=h.1;simpa using this
  have h1:uJ P (eg env d x) S y=uJ P env S y:=by
   cases y<;>simp only [re] at hy<;>simp only [uJ,eg,if_neg hy]
  simp only [e_,h1,ih h.2]
def n7 (F:Func) (d:Option Nat):Bool:=match d with
 | none=>true
 | some d=>(F.results.toList.all fun y=>!(re y==d))&&!(d==DS)
theorem JX {F:Func}{S0:List ax}{R:df→List ax→Prop}{d:Option Nat}{v:AV} (hd:n7 F d=true):∀ u env S,lV P w0 F S0 R (.panic u) (putA env d v) S→lV P w0 F S0 R (.panic u) env S:=by
 intro u env S h
 cases d with
 | none=>exact h
 | some d =>
  simp only [n7,aj] at hd
  have hds:DS≠d:=by have:=hd.2;simp at this;exact fun e=>this e.symm
  obtain⟨g,first,cap,h1,h2⟩:=h
  refine⟨g,first,cap, ?_, ?_⟩
  ·rw [← h1];simp only [putA,eg,if_neg hds]
  ·have:qH P F S0 (putA env (some d) v) R=qH P F S0 env R:=by
    funext S'
    simp only [qH,putA,wX hd.1]
   rwa [this] at h2
theorem BT (i:Nat){F:Func}{S0:List ax}{R:df→List ax→Prop}{f:Nat}{listed:Array Bool}{prot:List (Nat × List Nat)}{oi:Oper}{v:AV}{fp:List Nat} (hn:nq ops listed=some i) (hi:ops[i]? = some oi) (hg:bH ops env oi=some true) (hs:dc P S (bf w0 env) oi.op=some (v,S))
  (hd:dx N oi.dst=true) (hf:n7 F oi.dst=true) (hfp:j8 (bf w0 env) oi.op=fp) (h:er P w0 n0 N r ops k (lV P w0 F S0 R) f (listed.setIfInBounds i true) ((i,fp)::prot) (putA env oi.dst v) S):er P w0 n0 N r ops k (lV P w0 F S0 R) (f+1) listed prot env S:=by
 obtain⟨h1,h2,h3⟩:=lH hn
 exact vB hi hd (JX hf) f listed prot env S (nG hi h3) h1 (.inr ⟨hg,h2 _ hi,hfp,hs⟩) h
theorem fu {i p:Nat}{q:List Nat}{prot:List (Nat × List Nat)}{S S':List ax} (hp:kx ops i p=false) (h:dt ops i prot S S'):dt ops i ((p,q)::prot) S S':=mi hp h
end
end Go.Fen
namespace Go.Fen
open Go.RowKit
section
variable {P:Program}{w0 w:World}{ι:List Pl}{ψ:cX}{n0 N:Nat}{r:Option Nat}{Q:bN}{k:List TI}{env:cF}{S:List ax}
def gG (b:UInt8):AV:=.int .u8 (b.toNat:Int)
theorem b7.bytes (h:b7 w0 ι ψ S w) (e:TypeId) (s:ByteArray) :
  ∃ ψ',ψ.le ψ'∧b7 w0 ι ψ' S (Lib.bytesWorld w e s)∧∀ cap,s.size≤cap→VR ι ψ' (.sval false (s.data.toList.map gG)) (.slice (some ⟨w.heap.size,0,none⟩) s.size cap):=by
 let ψ':cX:=⟨fun b o=>if b=w.heap.size then (if o<s.size then some (.int .u8 ((s.data.toList.getD o 0).toNat:Int)) else none) else ψ.c b o,ψ.m⟩
 have hfresh:∀ o v,ψ.c w.heap.size o=some v→False:=fun o v e=>by
  have:=eO w _ (h.psi _ _ _ e)
  simp at this
 have hle:ψ.le ψ':=⟨fun b o v e=>by
  by_cases hb:b=w.heap.size
  ·subst hb;exact absurd e (fun e=>hfresh _ _ e)
  ·simp only [ψ',if_neg hb];exact e,fun b es e=>e⟩
 refine⟨ψ',hle,h.grow ((Lib.bytesWorld_below w e s).mono h.n0) (fun j hj=>Lib.bytesWorld_at_old w e s j hj) hle (fun b o v e'=>?_) (fun b es c e'=>.inl e'),fun cap hcap=>?_⟩
 ·simp only [ψ'] at e'
  split at e'
  ·next hb =>
   subst hb
   split at e'
   ·next ho =>
    cases e'
    exact .inr ⟨aP _,Lib.bytesWorld_cell w e s o ho⟩
   ·cases e'
  ·exact .inl e'
 ·have hl:(s.data.toList.map gG).length=s.size:=by rw [aY,c_];rfl
  have key:=VR.sval (ι:=ι) (ψ:=ψ') 1 false (s.data.toList.map gG) w.heap.size 0 cap (fun i _=>.int .u8 ((s.data.toList.getD i 0).toNat:Int)) ?_ (by omega) (by simp) ?_ ?_
  ·rw [hl] at key;exact key
  ·intro i x hx
   obtain⟨y,_,rfl⟩:=aH.1 (ar hx)
   rfl
  ·intro i x j y hx hy
   have hi:i<s.size:=by have:=(ab.1 hx).1;omega
   obtain⟨z,_,rfl⟩:=aH.1 (ar hx)
   cases j with
   | zero=>cases hy;exact⟨rfl,by simp [ψ',hi]⟩
   | succ j=>simp [gG,AV.cells] at hy
  ·intro i x j y hx hy
   rw [aF] at hx
   cases hz:s.data.toList[i]? with
   | none=>rw [hz] at hx;cases hx
   | some z =>
    rw [hz] at hx
    cases hx
    cases j with
    | zero =>
     cases hy
     simp only [List.getD,hz,nR]
     exact .int _ _
    | succ j=>simp [gG,AV.cells] at hy
theorem l8 {all:Array Oper}{o:Oper}{l:List Oper}{src dst e:TypeId}{u:TypeDesc}{x:Operand}{s:List UInt8} (hg:bH all env o=some true) (ho:o.op=.convert src dst x) (hs:P.underlying src=some u) (hd:P.underlying dst=some (.slice e)) (he:P.underlying e=some (.int .u8))
  (hx:bf w0 env x=.str s) (hds:dx N o.dst=true) (h:aX P w0 n0 N r (.it (.ops all l)::k) Q .normal (putA env o.dst (.sval false (s.map gG))) S):aX P w0 n0 N r (.it (.ops all (o::l))::k) Q .normal env S:=by
 intro ι ψ w a hR hE
 have hw:=ce hE hg
 refine d9 hw (fun c hc=>by rw [hc] at ho;cases ho) ?_
 have hv:=hE.eval hR x
 rw [hx] at hv
 generalize hcx:a.eval x=cx at hv
 cases hv with
 | str _ b hb =>
  subst hb
  have hres:(execOp a.eval o).run P w=.ok (.value (.slice (some ⟨w.heap.size,0,none⟩) b.size (grownCap w b.size 0 e))) (Lib.bytesWorld w e b):=by
   have:=Lib.run_convert_string_bytes (P:=P) w src dst e b hs hd he
   simp [execOp,ho,hcx,this,Cf]
  rw [hres]
  obtain⟨ψ',hle,hR',hv'⟩:=hR.bytes e b
  have hx':cN ι ψ ι ψ':=⟨(cN.refl ι ψ).pl,hle⟩
  exact KI.mono (h ι ψ' _ _ hR' ((hE.mono hx').putA (hv' _ (grownCap_ge _ _ _ _)) hds)) fun e a2 w2 hp=>hp.chain (hx'.take n0)
def FK:AV→Option Value
 | .ifc t x=>(zL x).map (.iface t)
 | x=>zL x
theorem xF {x:AV}{c v:Value} (hx:VR ι ψ x c) (h:FK x=some v):c=v:=by
 cases x<;>try exact lb hx h
 next t y =>
 cases hx with
 | ifc _ _ u hu =>
  simp only [FK] at h
  cases hy:zL y with
  | none=>rw [hy] at h;cases h
  | some z =>
   rw [hy] at h
   cases h
   rw [lb hu hy]
theorem ao.libR {f:FuncId}{args:List AV}{vs:List Value}{R:df→List ax→Prop} (he:∀ (a:Array Value) (w:World),(callFunc f a).run P w=.ok (.enter f a) w) (ha:args.map FK=vs.map some)
  (h:∀ w,ka w0.heap.size w0 w→Calls P f vs.toArray w fun e w'=>∃ c,e=.returned c∧ka w.heap.size w w'∧∃ v,(∀ ι ψ,VR ι ψ v c)∧R (.ret v) S):ao P w0 f args S R:=by
 unfold ao
 refine⟨he,fun ι ψ w cargs hRel hl hargs=>?_⟩
 have hlen:args.length=vs.length:=by simpa using congrArg dM ha
 have:cargs=vs.toArray:=by
  apply jg
  intro j
  by_cases hj:j<args.length
  ·have h1:args[j]? = some args[j]:=al hj
   have h2:cargs[j]? = some cargs[j]:=a_ (by omega)
   have h3:vs[j]? = some vs[j]:=al (by omega)
   have h4:=hargs j _ _ h1 h2
   have h5:(args.map FK)[j]? = (vs.map some)[j]?:=by rw [ha]
   simp only [aF,h1,h3,cu,a8] at h5
   rw [h2]
   simp only [cS,h3]
   rw [xF h4 h5]
  ·rw [bS (by omega),cS,bz (by omega)]
 subst this
 refine(h w hRel.below).mono ?_
 rintro e w' ⟨c,rfl,hb,v,hv,hR⟩
 have hb0:ka w0.heap.size w w':=hb.mono hRel.n0
 exact⟨ι,ψ,.ret v,S,cN.refl _ _,hRel.grow hb0 (fun k hk=>hb.block k hk) (cX.le_refl _) (fun _ _ _ e=>.inl e) (fun _ _ _ e=>.inl e),hv _ _,hR⟩
end
end Go.Fen
namespace Go.Fen
def fH:List Nat→cF→cF→Prop
 | [],_,_=>True
 | t::l,e,e'=>e t=e' t∧fH l e e'
theorem nD (e:cF):∀ l,fH l e e
 | []=>trivial
 | _::l=>⟨rfl,nD e l⟩
section
variable {P:Program}{w0:World}{n0 N:Nat}{r:Option Nat}{Q:bN}{k:List TI}{env:cF}{S:List ax}
theorem jV {i:KI} (L:List Nat) (h:∀ env',fH L env' env→aX P w0 n0 N r (.it i::k) Q .normal env' S):aX P w0 n0 N r (.it i::k) Q .normal env S:=h env (nD env L)
theorem share {G:Prop} (K:Prop) (hK:K) (f:K→G):G:=f hK
end
end Go.Fen
namespace Go.Fen
open Go.RowKit
variable {P:Program}{w0:World}{n0 N:Nat}{r:Option Nat}{Q:bN}{k:List TI}{env:cF}{S:List ax}
theorem b7.freezeC {ι:List Pl}{ψ:cX}{w:World} (h:b7 w0 ι ψ S w){a:Nat}{cs:List AV}{ty:Option TypeId} (hS:S[a]? = some (.cells cs ty)) :
  ∃ ψ',ψ.le ψ'∧b7 w0 ι ψ' (S.set a .dead) w∧∀ (o:Nat) (v:Value),VR ι ψ (.own a o) v→VR ι ψ' (.pro (cs.drop o)) v:=by
 obtain⟨pl,hpl,hB⟩:=h.get hS
 have hset:ι.set a pl=ι:=eK hpl
 obtain⟨hn0,⟨c,T,hw,hsz,hc⟩,hno,hty⟩:=hB
 have hcell:∀ j v,c[j]? = some v→w.cell? ⟨pl.blk,j,none⟩=some v:=fun j v hv=>by
  simp [jx,hw,hv]
 have hle:ψ.le (ψ.addRow pl.blk c.toList):=cX.le_addRow fun o v e=>by rw [hno o] at e;cases e
 have hext:cN ι ψ ι (ψ.addRow pl.blk c.toList):=⟨(cN.refl ι ψ).pl,hle⟩
 refine⟨ψ.addRow pl.blk c.toList,hle, ?_, ?_⟩
 ·have key:=h.update (w':=w) (ψ':=ψ.addRow pl.blk c.toList) (B':=.dead) (pl':=pl) hS hpl (lq _ _) (fun _ _ _=>rfl) (by rw [hset];exact hext) ?_ (fun k hk=>by cases hk) ?_ rfl
  ·rw [hset] at key;exact key
  ·trivial
  ·intro b o v ev
   simp only [cX.addRow] at ev
   split at ev
   ·next hb=>subst hb;exact .inr ⟨.inl rfl,hcell o v (by simpa using ev)⟩
   ·next hb=>exact .inl ⟨ev,by simp [ax.at];exact fun e=>hb e.symm⟩
 ·intro o v hv
  cases hv with
  | own _ _ pl' h' =>
   rw [hpl] at h';cases h'
   refine .pro (cs.drop o) pl.blk o (fun j=>(c[o+j]?).getD default) (fun j x ex=>?_) (fun j x ex=>?_)
   ·rw [bQ] at ex
    obtain⟨h1,v,h2,_⟩:=hc (o+j) x ex
    exact⟨h1,by simp [cX.addRow,h2]⟩
   ·rw [bQ] at ex
    obtain⟨h1,v,h2,h3⟩:=hc (o+j) x ex
    rw [h2]
    exact h3.mono hext
theorem l7 {i:KI}{t a o:Nat}{cs:List AV}{ty:Option TypeId} (ht:env t=.own a o) (hS:S[a]? = some (.cells cs ty))
  (h:aX P w0 n0 N r (.it i::k) Q .normal (eg env t (.pro (cs.drop o))) (S.set a .dead)):aX P w0 n0 N r (.it i::k) Q .normal env S:=by
 intro ι ψ w ac hR hE
 obtain⟨ψ1,hle,hR1,hv⟩:=hR.freezeC hS
 have hx:cN ι ψ ι ψ1:=⟨(cN.refl ι ψ).pl,hle⟩
 have hE':eA ι ψ1 N (eg env t (.pro (cs.drop o))) ac:=by
  have htd:t≠DS:=fun e=>by
   obtain⟨l,vs,h1,_⟩:=hE.defers
   rw [e,h1] at ht;cases ht
  refine⟨hE.size,hE.bound, ?_,fun s=>?_⟩
  ·obtain⟨l,vs,h1,h2,h3,h4⟩:=hE.defers
   exact⟨l,vs,by rw [eg,if_neg (Ne.symm htd)];exact h1,h2,fun j x v hx' hv=>(h3 j x v hx' hv).mono hx,h4⟩
  simp only [eg]
  split
  ·next hs =>
   subst hs
   have hvv:=hE.tmp s
   rw [ht] at hvv
   exact hv o _ hvv
  ·exact(hE.tmp s).mono hx
 exact KI.mono (h ι ψ1 w ac hR1 hE') fun e a2 w2 hp=>hp.chain (hx.take n0)
end Go.Fen
namespace Go.Fen
open Go.RowKit
variable {P:Program}{w0:World}{n0 N:Nat}{r:Option Nat}{Q:bN}{k:List TI}{env:cF}{S:List ax}
section
variable {ops:Array Oper}{f:Nat}{listed:Array Bool}{prot:List (Nat × List Nat)}
def mK (P:Program) (w0:World) (n0 N:Nat) (r:Option Nat) (ops:Array Oper) (k:List TI) (Q:bN) (f:Nat) (listed:Array Bool) (prot:List (Nat × List Nat)) (env:cF) (S:List ax) (_i:Nat):Prop:=er P w0 n0 N r ops k Q f listed prot env S
theorem Ak (h:mK P w0 n0 N r ops k Q f listed prot env S 0):er P w0 n0 N r ops k Q f listed prot env S:=h
theorem Ee {i:Nat} (_h0:(match nq ops listed with | some j=>decide (i<j) | none=>false)=true) (h:mK P w0 n0 N r ops k Q f listed prot env S (i+1)):mK P w0 n0 N r ops k Q f listed prot env S i:=h
theorem Gu {i:Nat} (_h0:(match bM .any ops listed with | [j]=>decide (i<j) | _=>false)=true) (h:mK P w0 n0 N r ops k Q f listed prot env S (i+1)):mK P w0 n0 N r ops k Q f listed prot env S i:=h
theorem vE {i:Nat}{oi:Oper}{v:AV}{fp:List Nat} (hn:nq ops listed=some i) (hQ:Ei Q) (hN:decide (N≤DS)=true) (hi:ops[i]? = some oi) (hg:bH ops env oi=some true) (hs:dc P S (bf w0 env) oi.op=some (v,S))
  (hd:dx N oi.dst=true) (hfp:j8 (bf w0 env) oi.op=fp) (h:er P w0 n0 N r ops k Q f (listed.setIfInBounds i true) ((i,fp)::prot) (putA env oi.dst v) S):mK P w0 n0 N r ops k Q (f+1) listed prot env S i :=
 D5 i hn hQ hN hi hg hs hd hfp h
theorem zW {i:Nat}{oi:Oper} (hn:nq ops listed=some i) (hQ:Ei Q) (hN:decide (N≤DS)=true) (hi:ops[i]? = some oi) (hg:bH ops env oi=some false)
  (hd:dx N oi.dst=true) (h:er P w0 n0 N r ops k Q f (listed.setIfInBounds i true) ((i,[])::prot) (putA env oi.dst (.tup [])) S):mK P w0 n0 N r ops k Q (f+1) listed prot env S i :=
 Fg i hn hQ hN hi hg hd h
theorem zX {i:Nat} (hr:bM .any ops listed=[i]) (h:nF P w0 N ops Q i (fun env' S'=>dt ops i prot S S'∧er P w0 n0 N r ops k Q f (listed.setIfInBounds i true) prot env' S') env S):mK P w0 n0 N r ops k Q (f+1) listed prot env S i :=
 Fh i hr h
theorem Ca {i:Nat}{F:Func}{S0:List ax}{R:df→List ax→Prop}{oi:Oper}{v:AV}{fp:List Nat} (hn:nq ops listed=some i) (hi:ops[i]? = some oi) (hg:bH ops env oi=some true) (hs:dc P S (bf w0 env) oi.op=some (v,S))
  (hd:dx N oi.dst=true) (hf:n7 F oi.dst=true) (hfp:j8 (bf w0 env) oi.op=fp) (h:er P w0 n0 N r ops k (lV P w0 F S0 R) f (listed.setIfInBounds i true) ((i,fp)::prot) (putA env oi.dst v) S):mK P w0 n0 N r ops k (lV P w0 F S0 R) (f+1) listed prot env S i :=
 BT i hn hi hg hs hd hf hfp h
end
end Go.Fen
namespace Go.Fen
open Go.RowKit
variable {P:Program}{w0:World}{S:List ax}
def Aa (P:Program) (F:Func) (S0:List ax) (R:df→List ax→Prop):bN
 | .normal,env,S | .ret,env,S=>∃ ms S1 vs,env DS=.dfr ms∧dA ms S=some S1∧e_ P env S1 F.results.toList=some vs∧R (.ret (cj vs)) S1
 | .panic v,env,S=>∃ ms S1,env DS=.dfr ms∧dA ms S=some S1∧R (.panic v) S1
 | _,_,_=>False
theorem DZ {f:FuncId}{F:Func}{c:Code}{args:List AV}{R:df→List ax→Prop} (hf:P.funcs[f]? = some F) (hb:F.body=some c) (hname:(F.name == "runtime.NumGoroutine")=false) (hargs:args.length≤F.ntmps) (hbd:F.ntmps≤DS)
  (h0:bw S→aX P w0 S.length F.ntmps none [.it (.code c)] (Aa P F S R) .normal (cW args) S):ao P w0 f args S R:=by
 refine⟨fun a w=>by simp only [callFunc,bu,run_program,bB,hf,hname,hb];rfl,fun ι ψ w cargs hR hl hv=>?_⟩
 have h:=h0 fun j B hB=>hR.ltB hB
 refine(callsIn_wide (n:=0)).1 ?_
 refine callsIn_of_wp_marks (F:=Fence.wide) hf hb trivial ?_
 have hE:eA ι ψ F.ntmps (cW args) { tmps:=cargs++bI (F.ntmps - cargs.size) undef,defers:=[] }:=by
  refine⟨by simp;omega,hbd,⟨[],[],by simp [cW],rfl,by simp,rfl⟩,fun t=>?_⟩
  simp only [cW]
  split
  ·next ht =>
   have:(cargs++bI (F.ntmps - cargs.size) undef).getD t undef=undef:=by
    rw [ay,bS (by simp;omega)];rfl
   rw [this]
   exact .dfr [] [] rfl (by simp)
  ·by_cases ht:t<args.length
   ·have e1:args[t]? = some args[t]:=al ht
    have ht':t<cargs.size:=by omega
    have e2:cargs[t]? = some cargs[t]:=a_ ht'
    rw [e1,ay,fq ht',e2]
    exact hv t _ _ e1 e2
   ·rw [bz (by omega)]
    exact .junk _
 refine wpIn_mono (h ι ψ w _ hR hE) fun e a' w' hp=>?_
 obtain⟨ι',ψ',x,env,S',h1,h2,h3,h4,h5⟩:=hp
 have hext:cN ι ψ ι' ψ':=by rw [← hR.len,bk] at h1;exact h1
 obtain⟨ds,dvs,d1,d2,d3,d4⟩:=h3.defers
 have ret:∀ (h5:∃ ms S1 vs,env DS=.dfr ms∧dA ms S'=some S1∧e_ P env S1 F.results.toList=some vs∧R (.ret (cj vs)) S1),
   LeavesInM Fence.wide 0 P F a'.tmps (fun e w'=>∃ ι' ψ' out S',cN ι ψ ι' ψ'∧b7 w0 ι' ψ' S' w'∧kP ι' ψ' out e∧R out S') a'.defers .returning w':=by
  rintro⟨ms,S1,vs,q1,q2,r1,r4⟩
  rw [q1] at d1;cases d1
  rw [d4]
  refine iV (by simp) ds dvs S' S1 w' q2 d2 d3 h2 fun w1 hR1=>?_
  obtain⟨cs,q1,q2,q3⟩:=kw (P:=P) hR1 h3 _ vs r1
  have hrun:(results F a'.tmps).run P w1=.ok (if h:cs.toArray.size=1 then cs.toArray[0] else .tuple cs.toArray) w1:=by
   unfold results
   rw [jw]
   simp only [bu,Ce]
   erw [q1]
   rfl
  have hv:VR ι' ψ' (cj vs) (if h:cs.toArray.size=1 then cs.toArray[0] else .tuple cs.toArray):=by
   match vs,cs,q2,q3 with
   | [],[],_,_=>exact .tup _ _ rfl (by simp)
   | [v],[c],_,q3=>simpa [cj] using q3 0 v c rfl rfl
   | v1::v2::vs,c1::c2::cs,q2,q3 =>
    simp only [cj,eR,aI]
    rw [dif_neg (by omega)]
    exact .tup _ _ (by simpa using q2) (fun j x c hx hc=>q3 j x c hx (by simpa using hc))
   | [],_::_,q2,_=>simp at q2
   | [_],[],q2,_=>simp at q2
   | [_],_::_::_,q2,_=>simp at q2
   | _::_::_,[],q2,_=>simp at q2
   | _::_::_,[_],q2,_=>simp at q2
  exact⟨_,hrun,ι',ψ',.ret _,S1,hext,hR1,hv,r4⟩
 cases x with
 | normal=>cases e<;>simp only [XR] at h4;exact ret h5
 | ret=>cases e<;>simp only [XR] at h4;exact ret h5
 | exit id=>exact h5.elim
 | goto l=>exact h5.elim
 | panic v =>
  cases e<;>simp only [XR] at h4
  obtain⟨c,rfl,hv⟩:=h4
  obtain⟨ms,S1,q1,q2,r4⟩:=h5
  rw [q1] at d1;cases d1
  show LeavesInM _ _ _ _ _ _ a'.defers _ _
  rw [d4]
  refine iV (by simp) ds dvs S' S1 w' q2 d2 d3 h2 fun w1 hR1=>?_
  exact⟨ι',ψ',.panic _,S1,hext,hR1,⟨c,rfl,hv⟩,r4⟩
theorem DU {F:Func}{S0 S2:List ax}{env:cF}{R:df→List ax→Prop}{ms vs:List AV}{v:AV} (h0:env DS=.dfr ms) (h01:dA ms S=some S2) (h1:e_ P env S2 F.results.toList=some vs) (h3:cj vs=v) (h:R (.ret v) S2):Aa P F S0 R .ret env S:=by
 subst h3
 exact⟨ms,S2,vs,h0,h01,h1,h⟩
end Go.Fen
namespace Go.Fen
open Go.RowKit
variable {P:Program}{w0:World}{n0 N:Nat}{r:Option Nat}{Q:bN}{k:List TI}{env:cF}{S:List ax}
theorem lI {x:AV} (h:x.leaf=true):x.cells=[x]:=by
 cases x<;>first | rfl | cases h
theorem VR.proPart {ι:List Pl}{ψ:cX}{cs:List AV}{b o l:Nat}{cv:Nat→Value} (h1:∀ j x,cs[j]? = some x→x.leaf=true∧ψ.c b (o+j)=some (cv j)) (h2:∀ j x,cs[j]? = some x→VR ι ψ x (cv j)) :
  VR ι ψ (.sval false (cs.drop l)) (.slice (some ⟨b,o+l,none⟩) (cs.length - l) (cs.length - l)):=by
 have hlen:(cs.drop l).length=cs.length - l:=by simp
 rw [← hlen]
 refine .sval 1 false (cs.drop l) b (o+l) _ (fun i _=>cv (l+i)) (fun i e he=>?_) (aP _) (fun e=>by cases e) (fun i e j x he hj=>?_) (fun i e j x he hj=>?_)
 ·rw [bQ] at he
  rw [lI (h1 _ _ he).1];rfl
 ·rw [bQ] at he
  have hf:=h1 _ _ he
  rw [lI hf.1] at hj
  cases j with
  | zero =>
   cases hj
   refine⟨hf.1, ?_⟩
   rw [← hf.2];congr 1;omega
  | succ j=>simp at hj
 ·rw [bQ] at he
  have hf:=h1 _ _ he
  rw [lI hf.1] at hj
  cases j with
  | zero=>cases hj;exact h2 _ _ he
  | succ j=>simp at hj
theorem yf {all:Array Oper}{o:Oper}{l:List Oper}{t e:TypeId}{m:Nat}{x lo:Operand}{cs:List AV}{i:Nat}{kk:IntKind} (hg:bH all env o=some true) (ho:o.op=.slice t x (some lo) none none) (ht:P.underlying t=some (.array m e)) (he:dG P e=some 1)
  (hx:bf w0 env x=.pro cs) (hlo:bf w0 env lo=.int kk (i:Int)) (hm:cs.length=m) (hi:i≤m) (hds:dx N o.dst=true)
  (h:aX P w0 n0 N r (.it (.ops all l)::k) Q .normal (putA env o.dst (.sval false (cs.drop i))) S):aX P w0 n0 N r (.it (.ops all (o::l))::k) Q .normal env S:=by
 intro ι ψ w a hR hE
 have hwt:=ce hE hg
 refine d9 hwt (fun c hc=>by rw [hc] at ho;cases ho) ?_
 have hv:=hE.eval hR x
 rw [hx] at hv
 have hv2:=hE.eval hR lo
 rw [hlo] at hv2
 generalize hcx:a.eval x=cx at hv
 generalize hcl:a.eval lo=cl at hv2
 cases hv2 with
 | int _ _ =>
 cases hv with
 | pro _ b o' cv h1 h2 =>
  have hsub:(if m=i then (⟨b,o',none⟩:Addr) else (⟨b,o',none⟩:Addr).add (i * 1))=⟨b,o'+(if m=i then 0 else i),none⟩:=by
   split
   ·rfl
   ·simp only [Addr.add_lit,Nat.mul_one]
  have hb:(dD false m m (some (.int kk (i:Int))) none none).run P w=.ok (i,m,m) w:=by
   have hle:(0:Int)≤(i:Int)∧(i:Int)≤(m:Int):=by omega
   simp [dD,Cm,asIntOf,hle]
   intro hh;omega
  have hres:(execOp a.eval o).run P w=.ok (.value (.slice (some ⟨b,o'+(if m=i then 0 else i),none⟩) (m - i) (m - i))) w:=by
   rw [← hsub]
   simp [execOp,ho,hcx,hcl,fe,run_underlying ht,cQ,hb,bP he]
  rw [hres]
  have hvv:VR ι ψ (.sval false (cs.drop i)) (.slice (some ⟨b,o'+(if m=i then 0 else i),none⟩) (m - i) (m - i)):=by
   by_cases hmi:m=i
   ·subst hmi
    have:cs.drop m=[]:=List.drop_eq_nil_of_le (by omega)
    rw [if_pos rfl,this]
    have:=VR.sval (ι:=ι) (ψ:=ψ) 1 false [] b (o'+0) (m - m) (fun _ _=>undef) (by simp) (by simp) (fun e=>by cases e) (by simp) (by simp)
    simpa using this
   ·rw [if_neg hmi,← hm]
    exact VR.proPart h1 h2
  exact KI.mono (h ι ψ _ _ hR (hE.putA hvv hds)) fun e a2 w2 hp=>hp
theorem ot {i:KI}{t a:Nat}{S1:List ax}{v:AV} (htd:(t==DS)=false) (hS:cE S a=S1) (hv:conv S1 (vd S1) 4 (env t)=v)
  (h:aX P w0 n0 N r (.it i::k) Q .normal (eg env t v) S1):aX P w0 n0 N r (.it i::k) Q .normal env S:=by
 subst hS hv
 intro ι ψ w ac hR hE
 obtain⟨ψ1,hle,hR1⟩:=ip (w0:=w0) hR a
 have hx:cN ι ψ ι ψ1:=⟨(cN.refl ι ψ).pl,hle⟩
 have hE1:eA ι ψ1 N env ac:=hE.mono hx
 have hfr:=iX hR1
 have htd':t≠DS:=by simpa using htd
 have hE':eA ι ψ1 N (eg env t (conv (cE S a) (vd (cE S a)) 4 (env t))) ac:=by
  refine⟨hE1.size,hE1.bound, ?_,fun s=>?_⟩
  ·obtain⟨l,vs,h1,h2,h3,h4⟩:=hE1.defers
   exact⟨l,vs,by rw [eg,if_neg (Ne.symm htd')];exact h1,h2,h3,h4⟩
  simp only [eg]
  split
  ·next hs =>
   subst hs
   exact gF hR1 (cX.le_refl _) hfr 4 _ _ (hE1.tmp _)
  ·exact hE1.tmp s
 exact KI.mono (h ι ψ1 w ac hR1 hE') fun e a2 w2 hp=>hp.chain (hx.take n0)
end Go.Fen
namespace Go.Fen
open Go.RowKit
variable {P:Program}{w0:World}{n0 N:Nat}{r:Option Nat}{Q:bN}{k:List TI}{env:cF}{S:List ax}
def gI (c:Array Value) (s:List UInt8):Prop:=∀ (j:Nat) (b:UInt8),s[j]? = some b→c[j]? = some (.int .u8 (b.toNat:Int))
abbrev KE (c:Array Value) (e:TypeId):ax:=.obj (.cells c e (c.size,c.size+1))
theorem gI.size {c:Array Value}{s:List UInt8} (h:gI c s):s.length≤c.size:=by
 cases hs:s.length with
 | zero=>omega
 | succ n =>
  have h1:s[n]? = some s[n]:=al (by omega)
  have:=(bO.1 (h n _ h1)).1
  omega
theorem gI.set {c:Array Value}{s:List UInt8} (h:gI c s) (i:Nat) (b:UInt8):gI (c.setIfInBounds i (.int .u8 (b.toNat:Int))) (s.set i b):=by
 intro j x hx
 have hsz:=h.size
 rw [List.getElem?_set] at hx
 rw [bF]
 by_cases hij:i=j
 ·subst hij
  by_cases hl:i<s.length
  ·simp only [if_true,hl] at hx
   cases hx
   rw [if_pos rfl,if_pos (by omega)]
  ·simp only [if_true,hl,if_false] at hx
   cases hx
 ·rw [if_neg hij] at hx
  rw [if_neg hij]
  exact h j x hx
theorem gI.row {c:Array Value}{s:List UInt8} (h:gI c s):ma c s.length=some s:=by
 unfold ma
 rw [if_pos h.size]
 have key:c.toList.take s.length=s.map fun b=>dn .u8 (b.toNat:Int):=by
  apply List.ext_getElem?
  intro j
  rw [aV,aF]
  by_cases hj:j<s.length
  ·rw [if_pos hj,al hj,a7]
   exact h j _ (al hj)
  ·rw [if_neg hj,bz (by omega)];rfl
 rw [key]
 clear key h
 induction s with
 | nil=>rfl
 | cons b s ih=>simp [Cz,ih]
end Go.Fen
