/- YthdbijpefkapnaaGreatDoorOfCore1: a part of the proof. -/
import Derived.Test.YthdbijpefkapnaaGreatDoorOfCore0
import Derived.Lib.UnsafeStr
import Derived.Deep.AppendSrc
import Derived.RangeFuncRecord
set_option linter.all false
set_option linter.unusedVariables false
set_option linter.unusedSimpArgs false
open Array renaming getD_eq_getD_getElem? → aC, getElem?_append_left → lD, getElem?_map → lc, getElem?_modify → dq, getElem?_setIfInBounds_ne → ka, getElem?_toList → bu, length_toList → fk, mapM_eq_mapM_toList → yJ, size_append → CF, toArray_toList → cB, toList_push → FA
open Bool renaming and_eq_true → aq
open Function renaming comp_def → aY
open Go.ByteArray renaming size_mk' → nq
open Go.Instr renaming build → Ab, buildSlice → l_, checkKey → lB, keyThatStays → IR, makeMap → oM, makeSlice → mC, mapUpdate → nM, range → lf, storeAt → oL, sureAddr → eF
open Go.IntKind renaming i64 → ae
open Go.IntWalk renaming i64_in → ai
open Go.MapKept renaming run_getObj_map → cz
open Go.Result renaming andThen_ok → cA
open Go.RowKit.Below renaming refl → Cx
open Go.Sem renaming run → qH, run_bind → co, run_pure → gp
open Go.Value renaming cells → Cp, oneCell' → zX, ownBlock → cV
open Go.Value.slice renaming injEq → g8
open Go.World renaming alloc_heap_new → j9, cell? → qG, cell?_of_block → Cn, freeze → yz, ownsRow_nil → CB, putObj → nR, putObj_heap_same → ez
open List renaming all_cons → tL, all_eq_true → aD, any_eq_false → Jm, eq_nil_of_length_eq_zero → bW, find?_eq_none → kl, foldl_cons → g9, getElem?_append_left → au, getElem?_append_right → aA, getElem?_drop → cZ, getElem?_eq_getElem → ap, getElem?_eq_none → bR, getElem?_eq_some_iff → af, getElem?_map → aJ, getElem?_of_mem → aV, getElem?_set_ne → be, getElem?_set_self → gV, getElem?_take → bc, getElem?_toArray → gA, length → jI, length_append → ah, length_cons → aB, length_drop → CE, length_map → bi, length_nil → aI, length_pos_iff → pV, length_set → bx, length_take → pU, map_append → aM, map_cons → al, map_map → Fl, mem_append → bV, mem_map → aN, mem_map_of_mem → dc, mem_of_find?_eq_some → oJ, mem_of_getElem? → ax, mem_singleton → a_, nodup_append → ig, range → bh, range' → yC, replicate → a8, replicate_succ → ml, size_toArray → iM, take → rg, take_left → yB
open List.cons renaming injEq → mz
open Nat renaming add_assoc → qI, add_mul → eH, add_zero → l8, div_add_mod' → IM, le_mul_of_pos_right → my, le_refl → ba, le_trans → fc, lt_of_lt_of_le → l7, lt_of_not_le → wC, mod_eq_of_lt → pS, mod_lt → eh, mul_le_mul_right → bK, one_mul → IL, succ_mul → jS, zero_add → bG, zero_le → bf
open Option renaming bind_some → Jl, getD_some → Fs, map_eq_some_iff → aL, map_some → dp
open Option.some renaming injEq → bl
open Prod renaming fst → cP, snd → tD
open Prod.mk renaming injEq → k_
open UInt8 renaming ofNat → az
namespace Go.Fen
open Go.RowKit
variable {P:Program}{w0 w w':World}{ι:List Pl}{ψ:eo}{S:List aH}
def AV.isJunk:AV→Bool
 | .junk=>true
 | _=>false
def mY(place:Nat→Option (Nat × Nat))(cells:List AV):List (Nat × AV)→Option (List AV)
 | []=>some cells
 | (i,v)::rest =>
  match place i with
  | some (off,size)=>if v.cells.length=size∧off+size≤cells.length∧v.isJunk=false then mY place (gI cells off v.cells) rest else none
  | none=>none
def CR(ι:List Pl)(ψ:eo)(cs:List AV)(vs:Array Value):Prop:=cs.length=vs.size∧∀ (j:Nat) (x:AV),cs[j]? = some x→∃ v,vs[j]? = some v∧VR ι ψ x v
theorem BE(off:Nat):∀ (l:List Value) (k:Nat) (cells:Array Value),off+k+l.length≤cells.size →
  ∀ j,(((l.zipIdx k).foldl (fun cs (p:Value × Nat)=>cs.setIfInBounds (off+p.2) p.1) cells)[j]? = if off+k≤j∧j<off+k+l.length then l[j - (off+k)]? else cells[j]?) ∧
   ((l.zipIdx k).foldl (fun cs (p:Value × Nat)=>cs.setIfInBounds (off+p.2) p.1) cells).size=cells.size:=by
 intro l
 induction l with
 | nil=>intro k cells h j;simp;omega
 | cons v l ih =>
  intro k cells h j
  simp only [aB] at h
  obtain⟨h1,h2⟩:=ih (k+1) (cells.setIfInBounds (off+k) v) κ j
  simp only [List.zipIdx_cons,g9]
  refine⟨?_,by rw [h2];simp⟩
  rw [h1]
  by_cases hj:off+k=j
  ·subst hj
   rw [if_neg ω,if_pos χ]
   simp [show off+k<cells.size by omega]
  ·by_cases hin:off+(k+1)≤j∧j<off+(k+1)+l.length
   ·rw [if_pos hin,if_pos κ]
    rw [show j - (off+k)=(j - (off+(k+1)))+1 by omega];simp
   ·rw [if_neg hin,if_neg κ,ka hj]
theorem oz{place:Nat→Option (Nat × Nat)}:∀ (ps:List (Nat × AV)) (vs:List (Nat × Value)) (cells:List AV) (vc:Array Value) (r:List AV),CR ι ψ cells vc →
  ps.length=vs.length→(∀ (j:Nat) (p:Nat × AV) (q:Nat × Value),ps[j]? = some p→vs[j]? = some q→p.1=q.1∧VR ι ψ p.2 q.2)→mY place cells ps=some r →
  ∃ rc,Instr.fill place vc vs=some rc∧CR ι ψ r rc:=by
 intro ps
 induction ps with
 | nil =>
  intro vs cells vc r hc hl _ h
  cases vs with
  | nil=>simp [mY] at h;subst h;exact⟨vc,rfl,hc⟩
  | cons=>simp at hl
 | cons p ps ih =>
  intro vs cells vc r hc hl hv h
  cases vs with
  | nil=>simp at hl
  | cons q vs =>
   obtain⟨h1,h2⟩:=hv 0 p q rfl rfl
   obtain⟨i,x⟩:=p
   obtain⟨i',c⟩:=q
   simp only at h1 h2
   subst h1
   simp only [mY] at h
   split at h
   ·next off size hp =>
    split at h
    ·next hs =>
     obtain⟨hs1,hs2,hs3⟩:=hs
     obtain⟨hcs,hcv⟩:=h2.cells (by intro e;subst e;simp [AV.isJunk] at hs3)
     have hput:=BE off c.cells.toList 0 vc (by have:=hc.1;simp;omega)
     have hfold:c.cells.zipIdx.foldl (fun cs (x:Value × Nat)=>cs.setIfInBounds (off+x.2) x.1) vc=(c.cells.toList.zipIdx 0).foldl (fun cs (p:Value × Nat)=>cs.setIfInBounds (off+p.2) p.1) vc:=by
      rw [← Array.foldl_toList];simp
     have hcr:CR ι ψ (gI cells off x.cells) (c.cells.zipIdx.foldl (fun cs (x:Value × Nat)=>cs.setIfInBounds (off+x.2) x.1) vc):=by
      rw [hfold]
      refine⟨?_,fun j y hy=>?_⟩
      ·rw [(hput 0).2];have:=hc.1;simp [gI];omega
      ·rw [(hput j).1]
       rw [gI,fw cells x.cells off j ω] at hy
       by_cases hj:off≤j∧j<off+x.cells.length
       ·rw [if_pos hj] at hy
        rw [if_pos κ]
        obtain⟨v,hv1,hv2⟩:=hcv _ y hy
        exact⟨v,by simpa using hv1,hv2⟩
       ·rw [if_neg hj] at hy
        rw [if_neg κ]
        exact hc.2 j y hy
     obtain⟨rc,hr1,hr2⟩:=ih vs _ _ r hcr (by simpa using hl) (fun j p q hp hq=>hv (j+1) p q (by simpa using hp) (by simpa using hq)) h
     refine⟨rc, ?_,hr2⟩
     have hle:¬ (c.cells.size≠size∨off+c.cells.size>vc.size):=by have:=hc.1;omega
     simp only [Instr.fill,hp]
     rw [if_neg (by simpa using hle)]
     exact hr1
    ·cases h
   ·cases h
def zeroA(P:Program)(t:TypeId):Option (List AV):=((P.info? t).bind (·.zero)).map (fun z=>(Fm z).cells)
theorem kK{t:TypeId}{z:List AV}(h:zeroA P t=some z):∃ v,(zeroValue t).run P w=.ok v w∧CR ι ψ z v.cells:=by
 unfold zeroA at h
 cases hi:P.info? t with
 | none=>simp [hi] at h
 | some i =>
  cases hz:i.zero with
  | none=>simp [hi,hz] at h
  | some v =>
   simp [hi,hz] at h;subst h
   refine⟨v,by simp [zeroValue,typeInfo,hi,hz], ?_⟩
   have key:Fm v≠.junk→CR ι ψ (Fm v).cells v.cells:=fun hne=>⟨((wx (ι:=ι) (ψ:=ψ) v).cells hne).1.symm,((wx (ι:=ι) (ψ:=ψ) v).cells hne).2⟩
   by_cases hj:Fm v=.junk
   ·have:v.cells=#[v]:=by cases v<;>first|rfl|simp [Fm] at hj
    rw [hj,this]
    refine⟨rfl,fun j x e=>?_⟩
    cases j with
    | zero=>simp [AV.cells] at e;subst e;exact⟨v,χ,.junk _⟩
    | succ n=>simp [AV.cells] at e
   ·exact key hj
def nw(P:Program)(fs:List Field):Option (List (Nat × Nat)) :=
 match fs with
 | []=>some []
 | f::fs=>match ff P f.type,nw P fs with
  | some n,some r=>some ((f.offset,n)::r)
  | _,_=>none
theorem o7:∀ (fs:List Field) (r:List (Nat × Nat)),nw P fs=some r→∀ w,(fs.mapM (m:=Sem) fun f=>do pure (f.offset,← sizeOf f.type)).run P w=.ok r w
 | [],r,h,w=>by simp [nw] at h;subst h;simp
 | f::fs,r,h,w=>by
  simp only [nw] at h
  split at h
  ·next n r' hn hr =>
   simp at h;subst h
   have ih:=o7 fs r' hr w
   simp only [bind_pure_comp] at ih
   simp [List.mapM_cons,cy hn,ih]
  ·cases h
def wr(P:Program)(t:TypeId)(parts:List (Nat × AV)):Option AV :=
 match P.underlying t,zeroA P t with
 | some (.struct fs),some z=>match nw P fs.toList with
  | some pl=>(mY (fun i=>pl[i]?) z parts).map .agg
  | none=>none
 | some (.array _ e),some z=>match ff P e with
  | some n=>(mY (fun i=>some (i * n,n)) z parts).map .agg
  | none=>none
 | _,_=>none
theorem wq{t:TypeId}{ps:List (Nat × AV)}{vs:Array (Nat × Value)}{r:AV}(hl:ps.length=vs.size)
  (hv:∀ (j:Nat) (p:Nat × AV) (q:Nat × Value),ps[j]? = some p→vs[j]? = some q→p.1=q.1∧VR ι ψ p.2 q.2) (h:wr P t ps=some r) :
  ∃ cv,(Ab t vs).run P w=.ok cv w∧VR ι ψ r cv:=by
 unfold wr at h
 split at h
 ·next fs z hu hz =>
  obtain⟨zv,hzr,hzc⟩:=kK (P:=P) (w:=w) (ι:=ι) (ψ:=ψ) hz
  split at h
  ·next pl hpl =>
   cases hf:mY (fun i=>pl[i]?) z ps with
   | none=>simp [hf] at h
   | some cells =>
    simp [hf] at h;subst h
    obtain⟨rc,h1,h2⟩:=oz ps vs.toList z zv.cells cells hzc (by simpa using hl) (fun j p q hp hq=>hv j p q hp (by simpa using hq)) hf
    have hm:=o7 fs.toList pl hpl w
    refine⟨.agg rc, ?_,.agg _ _ h2.1 fun j x v hx hv'=>?_⟩
    ·have hmA:(fs.mapM (m:=Sem) fun f=>do pure (f.offset,← sizeOf f.type)).run P w=.ok pl.toArray w:=by
      rw [yJ]
      simp only [Sem.run_map,hm,cA]
     simp only [Ab,co,hzr,cA,run_underlying hu,hmA]
     simp only [gA,h1,gp]
    ·obtain⟨v',e1,e2⟩:=h2.2 j x hx
     rw [e1] at hv';cases hv';exact e2
  ·cases h
 ·next n e z hu hz =>
  obtain⟨zv,hzr,hzc⟩:=kK (P:=P) (w:=w) (ι:=ι) (ψ:=ψ) hz
  split at h
  ·next sz hsz =>
   cases hf:mY (fun i=>some (i * sz,sz)) z ps with
   | none=>simp [hf] at h
   | some cells =>
    simp [hf] at h;subst h
    obtain⟨rc,h1,h2⟩:=oz ps vs.toList z zv.cells cells hzc (by simpa using hl) (fun j p q hp hq=>hv j p q hp (by simpa using hq)) hf
    refine⟨.agg rc, ?_,.agg _ _ h2.1 fun j x v hx hv'=>?_⟩
    ·simp only [Ab,co,hzr,cA,run_underlying hu,cy hsz,h1,gp]
    ·obtain⟨v',e1,e2⟩:=h2.2 j x hx
     rw [e1] at hv';cases hv';exact e2
  ·cases h
 ·cases h
def pG(P:Program)(S:List aH)(b:Builtin)(args:List AV)(ts:List TypeId):Option AV :=
 match b,args,ts with
 | .unsafeSliceData,[.sown a g n],_=>(match S[a]? with
  | some (.arr _ _ _ g' els)=>if g=g'∧n=els.length∧1≤n then some (.oel a g 0 0) else none
  | _=>none)
 | .unsafeSliceData,[.snil],_=>some .nilp
 | .len,[x],[t]=>(xI S P t x).orElse fun _=>HQ P t x
 | .min,[.int k a,.int _ b],_=>some (.int k (if b<a then b else a))
 | .max,[.int k a,.int _ b],_=>some (.int k (if b>a then b else a))
 | _,_,_=>none
def fZ(P:Program)(S:List aH)(ρ:Operand→AV)(op:Op):Option AV :=
 match op with
 | .move x | .assign x=>some (ρ x)
 | .pick c a b=>match ρ c with
  | .bool t=>some (if t then ρ a else ρ b)
  | _=>none
 | .load t a=>uv P S t (ρ a)
 | .nilCheck x=>match ρ x with
  | .own a o=>some (.own a o)
  | .oel a g i o=>some (.oel a g i o)
  | .pro cs=>some (.pro cs)
  | .fn (.func f) a c=>some (.fn (.func f) a c)
  | _=>none
 | .binOp op t x y _=>Iz P op t x y (ρ x) (ρ y)
 | .unOp op _ x=>Nf op (ρ x)
 | .convert s d x=>tj P S s d (ρ x)
 | .makeInterface t x=>if P.concrete t=true then some (.ifc t (ρ x)) else none
 | .makeFunc fn first cap=>some (.fn fn (first.toList.map ρ) (cap.toList.map ρ))
 | .slice t x lo hi mx=>vm P t (ρ x) (lo.map ρ) (hi.map ρ) (mx.map ρ)
 | .fieldAddr s x f=>wd P s (ρ x) f
 | .field t x f=>wa P t (ρ x) f
 | .indexAddr t x i=>ow P S t (ρ x) (ρ i)
 | .index t x i=>vX P t (ρ x) (ρ i)
 | .lookup t x i ok=>js P S t (ρ x) (ρ i) ok
 | .typeAssert x _ t ok=>rJ P (ρ x) t ok
 | .entry x=>sR S (ρ x)
 | .extract x i=>match ρ x with
  | .tup vs=>vs[i]?
  | _=>none
 | .build t parts=>wr P t (parts.toList.map fun p=>(p.1,ρ p.2))
 | .call c=>match c.callee with
  | .builtin b=>pG P S b (c.args.toList.map ρ) c.argTypes.toList
  | _=>none
 | _=>none
theorem pN{ρ:Operand→AV}{σ:Operand→Value}(h:∀ x,VR ι ψ (ρ x) (σ x))(x:Option Operand):tC ι ψ (x.map ρ) (x.map σ):=by
 cases x with
 | none=>trivial
 | some x=>exact h x
theorem vT{α β:Type}{f:α→β}{l:List α}{x:β}(h:l.map f=[x]):∃ a,l=[a]∧f a=x:=by
 cases l with
 | nil=>simp at h
 | cons a l=>cases l with
  | nil=>simp at h;exact⟨a,rfl,h⟩
  | cons b l=>simp at h
theorem AG{α β:Type}{f:α→β}{l:List α}{x y:β}(h:l.map f=[x,y]):∃ a b,l=[a,b]∧f a=x∧f b=y:=by
 cases l with
 | nil=>simp at h
 | cons a l=>cases l with
  | nil=>simp at h
  | cons b l=>cases l with
   | nil=>simp at h;exact⟨a,b,rfl,h.1,h.2⟩
   | cons c l=>simp at h
theorem xu(h:cO w0 ι ψ S w){ρ:Operand→AV}{σ:Operand→Value}(hρ:∀ x,VR ι ψ (ρ x) (σ x)){o:Oper}{r:AV}(he:fZ P S ρ o.op=some r) :
  ∃ cv,(execOp σ o).run P w=.ok (.value cv) w∧VR ι ψ r cv:=by
 obtain⟨dst,op,ty,pos,after,guard⟩:=o
 simp only at he
 unfold fZ at he
 split at he
 ·next x=>simp at he;subst he;exact⟨_,rfl,hρ x⟩
 ·next x=>simp at he;subst he;exact⟨_,rfl,hρ x⟩
 ·next c a b =>
  split at he
  ·next t ht =>
   have:=hρ c;rw [ht] at this
   have hc:=this.bool_inv
   simp at he;subst he
   refine⟨if t then σ a else σ b,by simp [execOp,hc,asBool], ?_⟩
   cases t<;>simp [hρ]
  ·cases he
 ·next t a =>
  obtain⟨cv,hr,hv⟩:=qW h (hρ a) he
  exact⟨cv,by simp [execOp,hr],hv⟩
 ·next x =>
  have hx:=hρ x
  split at he<;>(try (cases he;done))<;>next heq =>
   rw [heq] at hx
   simp at he;subst he
   refine⟨σ x, ?_,hx⟩
   generalize hc:σ x=c at hx
   cases hx<;>simp [execOp,hc]
 ·next op t x y yt =>
  obtain⟨cv,hr,hv⟩:=zO (P:=P) (w:=w) (hρ x) (hρ y) he
  refine⟨cv, ?_,hv⟩
  simp only [execOp]
  rw [co,hr];rfl
 ·next op t x =>
  obtain⟨cv,hr,hv⟩:=Bg (P:=P) (w:=w) (hρ x) he
  exact⟨cv,by simp [execOp,hr],hv⟩
 ·next s d x =>
  obtain⟨cv,hr,hv⟩:=ye (P:=P) h (hρ x) he
  exact⟨cv,by simp [execOp,hr],hv⟩
 ·next t x =>
  split at he
  ·next hc =>
   simp at he;subst he
   exact⟨.iface t (σ x),by simp [execOp,run_makeInterface w t _ hc],.ifc _ _ _ (hρ x)⟩
  ·cases he
 ·next fn first cap =>
  simp at he;subst he
  refine⟨.func fn (first.map σ) (cap.map σ),by simp [execOp,Instr.makeFunc],.fn _ _ _ _ _ χ χ ?_ ?_⟩
  all_goals
   intro j x v h1 h2
   simp only [aJ,bu,lc,aL] at h1 h2
   obtain⟨y,hy,rfl⟩:=h1
   obtain⟨z,hz,rfl⟩:=h2
   rw [hy] at hz;cases hz
   exact hρ y
 ·next t x lo hi mx =>
  obtain⟨cv,hr,hv⟩:=vl (P:=P) (w:=w) (hρ x) (pN hρ lo) (pN hρ hi) (pN hρ mx) he
  exact⟨cv,by simp [execOp,hr],hv⟩
 ·next s x f =>
  obtain⟨cv,hr,hv⟩:=wb (P:=P) (w:=w) (hρ x) he
  exact⟨cv,by simp [execOp,hr],hv⟩
 ·next t x f =>
  obtain⟨cv,hr,hv⟩:=v_ (P:=P) (w:=w) (hρ x) he
  exact⟨cv,by simp [execOp,hr],hv⟩
 ·next t x i =>
  obtain⟨cv,hr,hv⟩:=vY (P:=P) h (hρ x) (hρ i) he
  exact⟨cv,by simp [execOp,hr],hv⟩
 ·next t x i =>
  obtain⟨cv,hr,hv⟩:=vW (P:=P) (w:=w) (hρ x) (hρ i) he
  exact⟨cv,by simp [execOp,hr],hv⟩
 ·next t x i ok =>
  obtain⟨cv,hr,hv⟩:=tU (P:=P) h (hρ x) (hρ i) he
  exact⟨cv,by simp [execOp,hr],hv⟩
 ·next x xt t ok =>
  obtain⟨cv,hr,hv⟩:=t6 (P:=P) (w:=w) (xt:=xt) (hρ x) he
  exact⟨cv,by simp [execOp,hr],hv⟩
 ·next x =>
  obtain⟨cv,hr,hv⟩:=wi (P:=P) h (hρ x) he
  exact⟨cv,by simp [execOp,hr],hv⟩
 ·next x i =>
  split at he
  ·next vs ht =>
   have:=hρ x;rw [ht] at this
   obtain⟨cs,hc,hl,hv⟩:=this.tup_inv
   obtain⟨v,hv1,hv2⟩:=hv i r he
   exact⟨v,by simp [execOp,hc,Instr.extract,hv1],hv2⟩
  ·cases he
 ·next t parts =>
  obtain⟨cv,hr,hv⟩:=wq (P:=P) (w:=w) (vs:=parts.map fun p=>(p.1,σ p.2)) χ (fun j p q hp hq=>by
   simp only [aJ,bu,lc,aL] at hp hq
   obtain⟨y,hy,rfl⟩:=hp
   obtain⟨z,hz,rfl⟩:=hq
   rw [hy] at hz;cases hz
   exact⟨rfl,hρ _⟩) he
  exact⟨cv,by simp [execOp,hr],hv⟩
 ·next c =>
  obtain⟨callee,args,ts⟩:=c
  simp only at he
  split at he
  ·next b =>
   unfold pG at he
   split at he
   ·next a g n hargs =>
    obtain⟨x,hx,hxa⟩:=vT hargs
    obtain rfl:args=#[x]:=by rw [← cB (xs:=args),hx]
    split at he
    ·next e sz fz g' els hS =>
     split at he
     ·next hc =>
      obtain⟨rfl,rfl,h1⟩:=hc
      simp at he;subst he
      have hv:=hρ x
      rw [hxa] at hv
      generalize hcx:σ x=c at hv
      cases hv with
      | sown _ _ _ ad cap pl hpl hgl hs =>
       obtain⟨⟨hgen,hpsz⟩,_,_,_,⟨xs,hown,hxs⟩,_⟩:=h.blk a _ pl hS hpl
       have hsv:=hs hgen.symm
       rcases hown.2 with⟨hn,hn0⟩|⟨b,cap',cur,hv,hb,hgg,hle,_⟩
       ·omega
       ·rw [hv] at hsv
        cases hsv
        refine⟨.pointer (some ⟨b,0,none⟩), ?_,.oel a g 0 0 _ pl hpl hgl fun _=>⟨b,by rw [hv];rfl,χ⟩⟩
        have:=Lib.run_unsafeSliceData_row (P:=P) (w:=w) ts ty ⟨b,0,none⟩ els.length cap ω
        simp [execOp,resolve,invoke,builtin,hcx,this]
     ·cases he
    ·cases he
   ·next hargs =>
    obtain⟨x,hx,hxa⟩:=vT hargs
    obtain rfl:args=#[x]:=by rw [← cB (xs:=args),hx]
    simp only [bl] at he;subst he
    have hv:=hρ x
    rw [hxa] at hv
    generalize hcx:σ x=c at hv
    cases hv with
    | snil =>
     have hsd:(Builtin.unsafeSliceData_ ts ty #[.slice none 0 0]).run P w=.ok (.pointer none) w:=rfl
     exact⟨.pointer none,by simp [execOp,resolve,invoke,builtin,hcx,hsd],.nilp⟩
   ·next x t hargs hts =>
    obtain⟨a,ha,rfl⟩:=vT hargs
    obtain rfl:args=#[a]:=by rw [← cB (xs:=args),ha]
    obtain rfl:ts=#[t]:=by rw [← cB (xs:=ts),hts]
    have key:∃ cv,(Builtin.len_ #[t] ty #[σ a]).run P w=.ok cv w∧VR ι ψ r cv:=by
     cases hm:xI S P t (ρ a) with
     | some v=>rw [hm] at he;simp at he;subst he;exact zm (P:=P) (ty:=ty) h (hρ a) hm
     | none=>rw [hm] at he;exact zn (P:=P) (ty:=ty) h (hρ a) (by simpa using he)
    obtain⟨cv,hr,hv⟩:=key
    exact⟨cv,by simp [execOp,resolve,invoke,builtin,hr],hv⟩
   ·next k a k' b' hargs =>
    obtain⟨x,y,ha,hx,hy⟩:=AG hargs
    obtain rfl:args=#[x,y]:=by rw [← cB (xs:=args),ha]
    have h1:=hρ x;rw [hx] at h1;have h1:=h1.int_inv
    have h2:=hρ y;rw [hy] at h2;have h2:=h2.int_inv
    simp only [bl] at he;subst he
    exact⟨_,by simp [execOp,resolve,invoke,builtin,h1,h2,run_min_int2],.int _ _⟩
   ·next k a k' b' hargs =>
    obtain⟨x,y,ha,hx,hy⟩:=AG hargs
    obtain rfl:args=#[x,y]:=by rw [← cB (xs:=args),ha]
    have h1:=hρ x;rw [hx] at h1;have h1:=h1.int_inv
    have h2:=hρ y;rw [hy] at h2;have h2:=h2.int_inv
    simp only [bl] at he;subst he
    exact⟨_,by simp [execOp,resolve,invoke,builtin,h1,h2,run_max_int2],.int _ _⟩
   ·cases he
  ·cases he
 ·cases he
end Go.Fen
namespace Go.Fen
open Go.RowKit
variable {P:Program}{w0 w w':World}{ι:List Pl}{ψ:eo}{S:List aH}
theorem n9(base:Nat)(t tx ty e:TypeId)(i:TypeInfo)(z:Value)(ht:P.underlying t=some (.slice e))(hi:P.info? e=some i)(hz:i.zero=some z)
  (hzs:z.cells.size=i.size) (v:Value) (n:Nat) (xs:List Value) (hown:w.ownsRow base e i.size v n xs) (x:Value) (m:Nat) (news:List Value) (hs:Src P i.size tx x m news w)
  (h63:n+m≤maxLen) (hbytes:(n+m) * i.bytes≤140737488355328) (hbase:base≤w.heap.size) :
  ∃ v' w',(Builtin.append_ #[t,tx] ty #[v,x]).run P w=.ok v' w'∧w'.ownsRow base e i.size v' (n+m) (xs++news)∧w.grownBy w' v.ownBlock ∧
   (∃ ad cap,v'=.slice ad (n+m) cap)∧(v'.ownBlock=v.ownBlock∨(v'.ownBlock=some w.heap.size∧w.grownBy w' none)):=by
 have hsmall:((n+m:Nat):Int)≤9223372036854775807:=by simp only [maxLen] at h63;omega
 have hl:=hs.newsLen
 have hlen:(xs++news).length=(n+m) * i.size:=by rw [ah,hown.1,hl,eH]
 have grown:∀ (old:Nat) (row:Option Nat),
   (w.drew.alloc (.cells ((xs++news).toArray++Builtin.zeroCells z.cells (grownCap w (n+m) old e - (n+m))) e)).ownsRow base e i.size
    (.slice (some ⟨w.heap.size,0,none⟩) (n+m) (grownCap w (n+m) old e)) (n+m) (xs++news) ∧
   w.grownBy (w.drew.alloc (.cells ((xs++news).toArray++Builtin.zeroCells z.cells (grownCap w (n+m) old e - (n+m))) e)) row:=by
  intro old row
  have hge:=grownCap_ge w (n+m) old e
  have hcm:grownCap w (n+m) old e≤maxLen:=grownCap_le_maxLen w (n+m) old e h63
  refine⟨⟨hlen,.inr ⟨w.heap.size,_,_,rfl,hbase,heap_alloc_new w.drew _,hge,hcm, ?_, ?_⟩⟩,⟨rfl,rfl,rfl,χ,fun k hk _=>Below.heap_alloc w.drew _ k hk⟩⟩
  ·simp only [CF,iM,size_zeroCells,hzs,hlen,← eH]
   congr 1
   omega
  ·simp only [Array.toList_append]
   rw [← hlen]
   exact yB
 rcases hown.2 with⟨rfl,rfl⟩|⟨g,cap,cur,rfl,hbg,hg,hnc,hcm,hcs,htake⟩
 ·have hx:xs=[]:=bW (by simpa using hown.1)
  subst hx
  by_cases hm:m=0
  ·subst hm
   have hn:news=[]:=bW (by simpa using hl)
   subst hn
   refine⟨.slice none 0 0,w, ?_,CB w base e i.size,⟨rfl,rfl,rfl,ba _,fun _ _ _=>rfl⟩,⟨_,_,rfl⟩,.inl rfl⟩
   have hc:=hs.cells
   rcases hs.kind with⟨e',hk⟩|hk<;>simp [Builtin.append_,run_underlying ht,run_underlying hk,sizeOf,typeInfo,hi,hs.len,hc]
  ·have hr:=run_append_grow_src (P:=P) w t tx ty e i z ht hi hz none 0 0 [] (run_firstCells_none w.drew i.size 0 0 0) x m news hs ω hsmall (growslice_fits ω hbytes)
   obtain⟨h1,h2⟩:=grown 0 (cV (.slice none 0 0))
   exact⟨_,_,hr,h1,h2,⟨_,_,rfl⟩,.inr ⟨rfl,(grown 0 none).2⟩⟩
 ·by_cases hroom:n+m≤cap
  ·have hfit:n * i.size+news.length≤cur.size:=by rw [hl,hcs,← eH];exact bK _ hroom
   have hst:=run_storeCells_at P g (n * i.size) e news 0 cur w hg (by simpa using hfit) hs.one
   simp only [l8] at hst
   have hr:(Builtin.append_ #[t,tx] ty #[.slice (some ⟨g,0,none⟩) n cap,x]).run P w=.ok (.slice (some ⟨g,0,none⟩) (n+m) cap) (w.setRow g (cur.toList.take (n * i.size)++news++cur.toList.drop (n * i.size+news.length)).toArray):=by
    rcases hs.kind with⟨e',hk⟩|hk<;>simp [Builtin.append_,run_underlying ht,run_underlying hk,sizeOf,typeInfo,hi,hs.len,hroom,hs.cells,Addr.add_lit,hst]
   refine⟨_,_,hr,⟨hlen,.inr ⟨g,cap,_,rfl,hbg,setRow_heap w g cur _ e _ hg,hroom,hcm, ?_, ?_⟩⟩,⟨rfl,rfl,rfl,by simp [World.setRow],fun k _ hk=>setRow_other w g k _ (fun e=>hk (by simp [cV,e]))⟩,⟨_,_,rfl⟩,.inl rfl⟩
   ·simp only [iM,ah,pU,CE,fk]
    omega
   ·rw [htake,← hlen]
    exact yB
  ·have holds:∀ j u,xs[j]? = some u→w.cell? ((⟨g,0,none⟩:Addr).add j)=some u:=hown.cells (g:=g) rfl
   have hr:=run_append_grow_src (P:=P) w t tx ty e i z ht hi hz (some ⟨g,0,none⟩) n cap xs (run_firstCells_some w.drew i.size n ⟨g,0,none⟩ n cap xs hown.1 (by simpa using holds)) x m news hs ω hsmall (growslice_fits ω hbytes)
   obtain⟨h1,h2⟩:=grown cap (cV (.slice (some ⟨g,0,none⟩) n cap))
   exact⟨_,_,hr,h1,h2,⟨_,_,rfl⟩,.inr ⟨rfl,(grown cap none).2⟩⟩
def rW(P:Program)(S:List aH)(tx:TypeId)(x:AV):Option (List AV) :=
 match P.underlying tx,x with
 | some (.slice _),.snil=>some []
 | some (.slice _),.sval _ els=>some els
 | some (.slice _),.sown a g n=>match S[a]? with
  | some (.arr _ _ _ g' els)=>if g=g'∧n=els.length then some els else none
  | _=>none
 | some .string,.str s=>some (s.map fun b=>.int .u8 b.toNat)
 | _,_=>none
def cI(sz:Nat)(els:List AV):Bool:=els.all fun e=>e.cells.length==sz&&e.cells.all AV.leaf
theorem fu{sz:Nat}{els:List AV}(h:cI sz els=true):∀ x∈els,x.cells.length=sz:=by
 intro x hx
 have:=aD.1 h x hx
 simp at this;exact this.1
theorem sy{sz:Nat}{els:List AV}(h:cI sz els=true){j:Nat}{x:AV}(hx:(ei els)[j]? = some x):x.leaf=true:=by
 have hm:=ax hx
 unfold ei at hm
 obtain⟨e,he,hxe⟩:=List.mem_flatMap.1 hm
 have:=aD.1 h e he
 simp at this;exact this.2 x hxe
theorem yk(f:Nat→Value)(n:Nat):∀ j,j<n→((bh n).map f)[j]? = some (f j):=by
 intro j hj;simp [hj]
theorem lI(h:cO w0 ι ψ S w){tx:TypeId}{x:AV}{c:Value}{els:List AV}{sz:Nat}(hx:VR ι ψ x c)(hs:rW P S tx x=some els)(hok:cI sz els=true)(hpos:0<sz) :
  ∃ news,Src P sz tx c els.length news w∧news.length=(ei els).length∧∀ (j:Nat) (y:AV),(ei els)[j]? = some y→∃ v,news[j]? = some v∧VR ι ψ y v:=by
 have hlen:=fu hok
 have hfl:=dZ hlen
 unfold rW at hs
 split at hs
 ·next e' hu =>
  simp at hs;subst hs
  cases hx with
  | snil=>exact⟨[],Src.ofNil w hu 0,rfl,fun j y e=>by simp [ei] at e⟩
 ·next e' full els' hu =>
  simp at hs;subst hs
  cases hx with
  | svnil=>exact⟨[],Src.ofNil w hu 0,rfl,fun j y e=>by simp [ei] at e⟩
  | sve _ ad cap hf=>exact⟨[],Src.ofSlice w hu ad 0 cap [] χ χ χ,rfl,fun j y e=>by simp [ei] at e⟩
  | sval sz' _ _ b o cap cv hsz hcap hf h1 h2 =>
   by_cases hnil:els'=[]
   ·subst hnil
    exact⟨[],Src.ofSlice w hu ⟨b,o,none⟩ 0 cap [] χ χ χ,rfl,fun j y e=>by simp [ei] at e⟩
   ·have hszz:sz'=sz:=by
     cases els' with
     | nil=>exact absurd rfl hnil
     | cons e r=>rw [← hsz 0 e rfl];exact hlen e χ
    subst hszz
    have get:∀ (k:Nat) (y:AV),(ei els')[k]? = some y→y.leaf=true∧w.cell? ⟨b,o+k,none⟩=some (cv (k / sz') (k % sz'))∧VR ι ψ y (cv (k / sz') (k % sz')):=by
     intro k y hy
     obtain⟨e,he,hk⟩:=pw hlen hpos hy
     have g1:=h1 _ _ _ _ he hk
     have:=h.psi _ _ _ g1.2
     rw [qI,IM k sz'] at this
     exact⟨g1.1,this,h2 _ _ _ _ he hk⟩
    let f:Nat→Value:=fun k=>cv (k / sz') (k % sz')
    have hn:∀ j u,((bh (ei els').length).map f)[j]? = some u→w.cell? ((⟨b,o,none⟩:Addr).add j)=some u:=by
     intro j u hu
     have hj:j<(ei els').length:=by have:=(af.1 hu).1;simpa using this
     rw [yk f _ j hj] at hu;cases hu
     rw [Addr.add_lit]
     exact(get j _ (ap hj)).2.1
    refine⟨(bh (ei els').length).map f,Src.ofSlice w hu ⟨b,o,none⟩ _ cap _ (by simp [hfl]) hn ?_,χ,fun j y e=>⟨f j,yk f _ j (af.1 e).1,(get j y e).2.2⟩⟩
    intro u hu
    obtain⟨j,hj,rfl⟩:=aN.1 hu
    have hj':j<(ei els').length:=by simpa using hj
    obtain⟨g1,_,g3⟩:=get j _ (ap hj')
    exact g3.oneCell g1
 ·next e' a g n hu =>
  split at hs
  ·next e2 sz' fz g' els' hS =>
   split at hs
   ·next hg =>
    obtain⟨rfl,rfl⟩:=hg
    simp at hs;subst hs
    cases hx with
    | sown _ _ _ ad cap pl hpl hgl hs' =>
     obtain⟨⟨hgen,hpsz⟩,hsz,hpos',_,⟨xs,hown,hxs⟩,_⟩:=h.blk a _ pl hS hpl
     have hsv:=hs' hgen.symm
     rcases hown.2 with⟨hn,hn0⟩|⟨b,cap',cur,hv,hb',hgg,_⟩
     ·rw [hn] at hsv
      simp only [g8] at hsv
      obtain⟨rfl,h0,rfl⟩:=hsv
      have:els'=[]:=bW ω
      subst this
      exact⟨[],Src.ofNil w hu 0,rfl,fun j y e=>by simp [ei] at e⟩
     ·rw [hv] at hsv
      simp only [g8] at hsv
      obtain⟨rfl,_,rfl⟩:=hsv
      by_cases hnil:els'=[]
      ·subst hnil
       exact⟨[],Src.ofSlice w hu ⟨b,0,none⟩ 0 _ [] χ χ χ,rfl,fun j y e=>by simp [ei] at e⟩
      ·have hszz:sz'=sz:=by
        cases els' with
        | nil=>exact absurd rfl hnil
        | cons e r=>rw [← hsz e χ];exact hlen e χ
       subst hszz
       have hxl:xs.length=(ei els').length:=by rw [hown.1,hfl]
       refine⟨xs,Src.ofSlice w hu ⟨b,0,none⟩ _ _ xs hown.1 (hown.cells (g:=b) (by rw [hv];rfl)) ?_,hxl,fun j y e=>?_⟩
       ·intro u hu
        obtain⟨j,hj⟩:=aV hu
        have hj':j<(ei els').length:=by rw [← hxl];exact(af.1 hj).1
        obtain⟨g1,v,g2,g3,_⟩:=hxs j _ (ap hj')
        rw [hj] at g2;cases g2
        exact g3.oneCell g1
       ·obtain⟨_,v,g2,g3,_⟩:=hxs j y e
        exact⟨v,g2,g3⟩
   ·cases hs
  ·cases hs
 ·next s hu =>
  simp at hs;subst hs
  obtain rfl:=hx.str_inv
  by_cases hnil:s=[]
  ·subst hnil
   refine⟨[], ?_,rfl,fun j y e=>by simp [ei] at e⟩
   refine⟨.inr hu,fun _=>rfl, ?_, ?_,χ,fun _ h=>by cases h⟩<;>simp [Builtin.firstCells]
  ·have hs1:sz=1:=by
    cases s with
    | nil=>exact absurd rfl hnil
    | cons b r=>have:=hlen (.int .u8 b.toNat) χ;simpa [AV.cells] using this.symm
   subst hs1
   have hflat:ei (s.map fun b=>AV.int .u8 (b.toNat:Int))=s.map fun b=>AV.int .u8 b.toNat:=by
    clear hok hlen hfl hnil hx
    unfold ei
    induction s with
    | nil=>rfl
    | cons b r ih=>simp [AV.cells,ih]
   have:=Src.ofString (P:=P) w hu (⟨s.toArray⟩:ByteArray)
   refine⟨byteCells ⟨s.toArray⟩,by simpa [nq] using this,by simp [byteCells,hflat],fun j y e=>?_⟩
   rw [hflat] at e
   simp only [aJ,aL] at e
   obtain⟨b,hb,rfl⟩:=e
   exact⟨.int .u8 b.toNat,by simp [byteCells,hb],.int _ _⟩
 ·cases hs
theorem qY(a b:List AV):ei (a++b)=ei a++ei b:=by simp [ei]
def q_(P:Program)(e:TypeId):Option (Nat × Nat × Nat):=(P.info? e).bind fun i=>i.zero.map fun z=>(i.size,i.bytes,z.cells.size)
theorem sV{e:TypeId}{a b c:Nat}(h:q_ P e=some (a,b,c)):∃ i z,P.info? e=some i∧i.zero=some z∧i.size=a∧i.bytes=b∧z.cells.size=c:=by
 unfold q_ at h
 cases hi:P.info? e with
 | none=>simp [hi] at h
 | some i =>
  cases hz:i.zero with
  | none=>simp [hi,hz] at h
  | some z=>simp [hi,hz] at h;exact⟨i,z,rfl,hz,h⟩
def rK(P:Program)(S:List aH)(t tx:TypeId)(s x:AV):Option (AV × List aH) :=
 match P.underlying t,rW P S tx x with
 | some (.slice e),some news=>match q_ P e with
  | some (sz,bytes,zs)=>if cI sz news=true∧0<sz∧0<bytes∧zs=sz then (match s with
    | .sown a g n=>match S[a]? with
     | some (.arr e' sz' fz g' els) =>
      if g=g'∧n=els.length∧e'=e∧sz'=sz∧(n+news.length) * bytes≤140737488355328 then some (.sown a (g+1) (n+news.length),S.set a (.arr e sz fz (g+1) (els++news))) else none
     | _=>none
    | .snil=>if news.length * bytes≤140737488355328 then some (.sown S.length 1 news.length,S++[.arr e sz 0 1 news]) else none
    | .sval true els=>if news=[] then some (.sval true els,S) else
      if cI sz els=true∧(els.length+news.length) * bytes≤140737488355328 then some (.sown S.length 0 (els.length+news.length),S++[.arr e sz 0 0 (els++news)]) else none
    | _=>none) else none
  | none=>none
 | _,_=>none
theorem vL{sz:Nat}{a b:List AV}:cI sz (a++b)=(cI sz a&&cI sz b):=by simp [cI]
theorem jO{n b:Nat}(hb:0<b)(h:n * b≤140737488355328):n≤maxLen:=by
 have:=fc (my n hb) h
 simp only [maxLen];omega
theorem tu(h:cO w0 ι ψ S w){a g n:Nat}{c:Value}{e:TypeId}{sz fz:Nat}{els news:List AV}{i:TypeInfo}{z:Value}{t tx ty:TypeId}{x:AV}{d:Value}
  (hs:VR ι ψ (.sown a g n) c) (hS:S[a]? = some (.arr e sz fz g els)) (hn:n=els.length) (ht:P.underlying t=some (.slice e)) (hi:P.info? e=some i) (hz:i.zero=some z) (hzs:z.cells.size=i.size)
  (hsz:sz=i.size) (hpos:0<i.size) (hbp:0<i.bytes) (hx:VR ι ψ x d) (hsrc:rW P S tx x=some news) (hok:cI i.size news=true) (hb:(n+news.length) * i.bytes≤140737488355328) :
  ∃ ι' ψ' w' cv,(Builtin.append_ #[t,tx] ty #[c,d]).run P w=.ok cv w'∧dW ι ψ ι' ψ'∧cO w0 ι' ψ' (S.set a (.arr e sz fz (g+1) (els++news))) w'∧VR ι' ψ' (.sown a (g+1) (n+news.length)) cv:=by
 subst hn hsz
 cases hs with
 | sown _ _ _ ad cap pl hpl hgl hs' =>
  have hB:=h.blk a _ pl hS hpl
  obtain⟨⟨hgen,hpsz⟩,hsize,_,hfz,⟨xs,hown,hxs⟩,hps⟩:=hB
  have hsv:=hs' hgen.symm
  obtain⟨nv,hsrcV,hnl,hnv⟩:=lI h hx hsrc hok hpos
  obtain⟨v',w',hr,hown',hgr,⟨ad',cap',hv'⟩,hplace⟩:=n9 (w:=w) w0.heap.size t tx ty e i z ht hi hz hzs pl.sv els.length xs hown d news.length nv hsrcV (jO hbp hb) hb h.n0
  rw [← hsv] at hr
  let pl':Pl:=⟨pl.blk,g+1,v',i.size⟩
  have hxl:xs.length=els.length * i.size:=hown.1
  obtain⟨ψ',hle,hm',hsub,hroof⟩:∃ ψ':eo,ψ.le ψ'∧ψ'.m=ψ.m ∧
    (∀ k o,ψ'.c k o=ψ.c k o∨(v'.ownBlock=some k∧k=w.heap.size∧pl.sv.ownBlock≠some k∧ψ'.c k o=(xs.take (fz * i.size))[o]?)) ∧
    (∀ k,v'.ownBlock=some k→(pl.sv.ownBlock=some k∧∀ o,ψ'.c k o=ψ.c k o)∨(k=w.heap.size∧∀ o,ψ'.c k o=(xs.take (fz * i.size))[o]?)):=by
   rcases hplace with hp|⟨hp,_⟩
   ·exact⟨ψ,eo.le_refl _,rfl,fun _ _=>.inl rfl,fun k hk=>.inl ⟨by rw [← hp];exact hk,fun _=>rfl⟩⟩
   ·have hne:pl.sv.ownBlock≠some w.heap.size:=fun hk=>by
     have:=(h.blk a _ pl hS hpl).at_lt (k:=w.heap.size) hk;omega
    refine⟨ψ.addRow w.heap.size (xs.take (fz * i.size)),eo.le_addRow (fun o v e=>by rw [h.psi_new (ba _)] at e;cases e),rfl,fun k o=>?_,fun k hk=>?_⟩
    ·by_cases hk:k=w.heap.size
     ·subst hk;exact .inr ⟨hp,rfl,hne,by simp [eo.addRow]⟩
     ·exact .inl (by simp [eo.addRow,hk])
    ·rw [hp] at hk;cases hk
     exact .inr ⟨rfl,fun o=>by simp [eo.addRow]⟩
  have hext:dW ι ψ (ι.set a pl') ψ':=by
   refine⟨fun j p hj=>?_,hle⟩
   by_cases hja:j=a
   ·subst hja
    rw [hpl] at hj;cases hj
    have hlt:j<ι.length:=(af.1 hpl).1
    exact⟨pl',by simp [hlt],rfl,by simp [pl',hgen],fun e=>by simp [pl',hgen] at e⟩
   ·exact⟨p,by rw [be ω];exact hj,rfl,ba _,fun _=>rfl⟩
  have hltS:a<ι.length:=(af.1 hpl).1
  have hfzb:fz * i.size≤xs.length:=by rw [hxl];exact bK _ hfz
  refine⟨ι.set a pl',ψ',w',v',hr,hext, ?_, ?_⟩
  ·refine h.update hS hpl ?_ ?_ hext ?_ ?_ ?_ hm'
   ·refine⟨hgr.os,hgr.tape,hgr.output,hgr.size,fun k hk=>hgr.block k (l7 hk h.n0) fun e=>?_⟩
    have:=(h.blk a _ pl hS hpl).at_lt (k:=k) e.symm;omega
   ·intro k hk hlt
    exact hgr.block k hlt (fun e=>hk e.symm)
   ·refine⟨⟨rfl,rfl⟩, ?_,hpos,κ,⟨xs++nv,by simpa using hown',fun j x e=>?_⟩,fun k o hk ho=>?_⟩
    ·intro x hx
     rcases bV.1 hx with hx|hx
     ·exact hsize x hx
     ·exact fu hok x hx
    ·rw [qY] at e
     have hfl:(ei els).length=xs.length:=by rw [dZ hsize,hxl]
     by_cases hj:j<(ei els).length
     ·rw [au hj] at e
      obtain⟨hlf,v,hv,hvr,hfr⟩:=hxs j x e
      refine⟨hlf,v,by rw [au ω];exact hv,hvr.mono hext,fun hjf k hk=>?_⟩
      rcases hroof k hk with⟨hk2,ho⟩|⟨rfl,ho⟩
      ·rw [ho];exact hfr hjf k hk2
      ·rw [ho,bc,if_pos hjf];exact hv
     ·rw [aA ω] at e
      obtain⟨v,hv,hvr⟩:=hnv _ x e
      refine⟨sy hok e,v,by rw [aA ω,← hfl];exact hv,hvr.mono hext,fun hjf=>ω⟩
    ·rcases hroof k hk with⟨hk2,ho2⟩|⟨rfl,ho2⟩
     ·rw [ho2];exact hps k o hk2 ho
     ·rw [ho2];simp;omega
   ·intro k hk
    rcases hroof k hk with⟨hk2,_⟩|⟨rfl,_⟩
    ·exact .inl hk2
    ·exact .inr (ba _)
   ·intro k o v e
    rcases hsub k o with hs1|⟨hk1,hk2,hk3,hs1⟩
    ·rw [hs1] at e
     by_cases hk:pl.sv.ownBlock=some k
     ·-- a frozen cell of the old row
      have ho:o<fz * i.size:=wC fun hge=>by rw [hps k o hk hge] at e;cases e
      have hof:o<(ei els).length:=by rw [dZ hsize];omega
      obtain⟨_,v2,hv2,_,hfr⟩:=hxs o _ (ap hof)
      rw [hfr ho k hk] at e;cases e
      refine .inr ⟨.inl hk, ?_⟩
      rcases hplace with hp|⟨hp,hgn⟩
      ·have:=hown'.cells (g:=k) (by rw [hp];exact hk) o v (by rw [au ω];exact hv2)
       rw [Addr.add_lit,bG] at this;exact this
      ·have hlt:=((h.blk a _ pl hS hpl).at_lt (k:=k) hk).2
       rw [Cn (hgn.block k hlt χ)]
       have:=hown.cells (g:=k) hk o v hv2
       rw [Addr.add_lit,bG] at this;exact this
     ·exact .inl ⟨e,hk⟩
    ·rw [hs1] at e
     have ho:o<fz * i.size:=by
      have:=(af.1 e).1;simp at this;omega
     rw [bc,if_pos ho] at e
     refine .inr ⟨.inr ω, ?_⟩
     have:=hown'.cells (g:=k) hk1 o v (by rw [au ω];exact e)
     rw [Addr.add_lit,bG] at this;exact this
  ·rw [hv']
   exact .sown a (g+1) _ ad' cap' pl' (by simp [hltS]) (ba _) (fun _=>hv'.symm)
end Go.Fen
namespace Go.Fen
open Go.RowKit
variable {P:Program}{w0 w w':World}{ι:List Pl}{ψ:eo}{S:List aH}
theorem qA(cs:List AV):(AV.agg cs).cells=cs:=rfl
theorem v7{els:List AV}{sz:Nat}(h:∀ x∈els,x.cells.length=sz)(hp:0<sz)(k:Nat):(ei els)[k]? = (els[k / sz]?).bind (fun e=>e.cells[k % sz]?):=by
 cases hx:(ei els)[k]? with
 | some x =>
  obtain⟨e,h1,h2⟩:=pw h hp hx
  simp [h1,h2]
 | none =>
  have hl:=dZ h
  have:els.length * sz≤k:=by rw [← hl];simpa using hx
  have hge:els.length≤k / sz:=(Nat.le_div_iff_mul_le hp).2 this
  rw [bR hge];rfl
theorem cO.newArr(h:cO w0 ι ψ S w)(e:TypeId)(sz n cap:Nat)(els:List AV)(cur:Array Value)(hn:n=els.length)(hok:cI sz els=true)(hpos:0<sz)(hcap:n≤cap)(hm:cap≤maxLen)(hc:cur.size=cap * sz)
  (hv:∀ (j:Nat) (x:AV),(ei els)[j]? = some x→∃ v,cur[j]? = some v∧VR ι ψ x v) :
  cO w0 (ι++[⟨0,0,.slice (some ⟨w.heap.size,0,none⟩) n cap,sz⟩]) ψ (S++[.arr e sz 0 0 els]) (w.alloc (.cells cur e)):=by
 subst hn
 have h1:=h.alloc (.cells cur e)
 have hfl:=dZ (fu hok)
 have hle:els.length * sz≤cur.size:=by rw [hc];exact bK _ hcap
 refine h1.push _ _ ⟨⟨rfl,rfl⟩,fu hok,hpos,bf _,⟨cur.toList.take (els.length * sz),⟨κ,.inr ⟨w.heap.size,cap,cur,rfl,h.n0,heap_alloc_new w _,hcap,hm,hc,rfl⟩⟩,fun j x ex=>?_⟩,fun k o hk _=>?_⟩ ?_
 ·obtain⟨v,hv1,hv2⟩:=hv j x ex
  have hj:j<els.length * sz:=by rw [← hfl];exact(af.1 ex).1
  exact⟨sy hok ex,v,by rw [bc,if_pos hj];simpa using hv1,hv2.mono (dW.push ι ψ _),fun hlt=>ω⟩
 ·simp [cV] at hk
  subst hk
  exact h.psi_new (ba _) o
 ·intro k hk i C q hC hq hk2
  simp [aH.at,cV] at hk
  subst hk
  have:=((h.blk i C q hC hq).at_lt hk2).2
  omega
theorem yu(h:cO w0 ι ψ S w){els news:List AV}{c:Value}{e:TypeId}{i:TypeInfo}{z:Value}{t tx ty:TypeId}{x:AV}{d:Value}
  (hs:VR ι ψ (.sval true els) c) (ht:P.underlying t=some (.slice e)) (hi:P.info? e=some i) (hz:i.zero=some z) (hzs:z.cells.size=i.size)
  (hpos:0<i.size) (hbp:0<i.bytes) (hx:VR ι ψ x d) (hsrc:rW P S tx x=some news) (hok:cI i.size news=true) (hok2:cI i.size els=true) (hne:news≠[]) (hb:(els.length+news.length) * i.bytes≤140737488355328) :
  ∃ ι' w' cv,(Builtin.append_ #[t,tx] ty #[c,d]).run P w=.ok cv w'∧dW ι ψ ι' ψ∧cO w0 ι' ψ (S++[.arr e i.size 0 0 (els++news)]) w'∧VR ι' ψ (.sown S.length 0 (els.length+news.length)) cv:=by
 obtain⟨nv,hsrcV,hnl,hnv⟩:=lI h hx hsrc hok hpos
 obtain⟨ov,hsrcO,hol,hov⟩:=lI (P:=P) (tx:=t) h hs (by simp [rW,ht]) hok2 hpos
 obtain⟨a,cap,rfl,hcap,hf⟩:=hs.sval_len
 have hcap':=hf rfl
 subst hcap'
 have hml:=jO hbp hb
 have hlt:0<news.length:=pV.2 hne
 have hsmall:((els.length+news.length:Nat):Int)≤9223372036854775807:=by simp only [maxLen] at hml;omega
 have hr:=run_append_grow_src (P:=P) w t tx ty e i z ht hi hz a els.length els.length ov hsrcO.cellsD d news.length nv hsrcV ω hsmall (growslice_fits ω hb)
 have hge:=grownCap_ge w (els.length+news.length) els.length e
 have hcm:=grownCap_le_maxLen w (els.length+news.length) els.length e hml
 have hfe:=dZ (fu hok2)
 have hfn:=dZ (fu hok)
 have key:=h.drew.newArr e i.size (els.length+news.length) (grownCap w (els.length+news.length) els.length e) (els++news)
  ((ov++nv).toArray++Builtin.zeroCells z.cells (grownCap w (els.length+news.length) els.length e - (els.length+news.length))) χ (by rw [vL,hok,hok2];rfl) hpos hge hcm ?_ ?_
 ·refine⟨_,_,_,hr,dW.push ι ψ _,key, ?_⟩
  refine .sown _ _ _ _ _ ⟨0,0,.slice (some ⟨w.heap.size,0,none⟩) (els.length+news.length) (grownCap w (els.length+news.length) els.length e),i.size⟩ ?_ (ba _) (fun _=>rfl)
  rw [← h.len];simp
 ·simp only [CF,iM,size_zeroCells,hzs,ah,hol,hnl,hfe,hfn,← eH]
  congr 1;omega
 ·intro j x ex
  rw [qY] at ex
  have hget:∀ v:Value,(ov++nv)[j]? = some v→((ov++nv).toArray++Builtin.zeroCells z.cells (grownCap w (els.length+news.length) els.length e - (els.length+news.length)))[j]? = some v:=by
   intro v hv
   have hlt:=(af.1 hv).1
   rw [lD (by simpa using hlt)]
   simpa using hv
  by_cases hj:j<(ei els).length
  ·rw [au hj] at ex
   obtain⟨v,hv,hvr⟩:=hov j x ex
   exact⟨v,hget v (by rw [au ω];exact hv),hvr⟩
  ·rw [aA ω] at ex
   obtain⟨v,hv,hvr⟩:=hnv _ x ex
   exact⟨v,hget v (by rw [aA ω,hol];exact hv),hvr⟩
theorem yr(h:cO w0 ι ψ S w){full:Bool}{els:List AV}{c:Value}{e:TypeId}{i:TypeInfo}{t tx ty:TypeId}{x:AV}{d:Value}
  (hs:VR ι ψ (.sval full els) c) (ht:P.underlying t=some (.slice e)) (hi:P.info? e=some i) (hpos:0<i.size) (hx:VR ι ψ x d) (hsrc:rW P S tx x=some []) :
  (Builtin.append_ #[t,tx] ty #[c,d]).run P w=.ok c w:=by
 obtain⟨nv,hsrcV,hnl,_⟩:=lI h hx hsrc (sz:=i.size) rfl hpos
 have:nv=[]:=bW (by rw [hnl];rfl)
 subst this
 obtain⟨a,cap,rfl,hcap,_⟩:=hs.sval_len
 have hc:=hsrcV.cells
 have hl:=hsrcV.len
 simp only [aI] at hc hl
 rcases hsrcV.kind with⟨e',hk⟩|hk<;>cases a<;>simp [Builtin.append_,run_underlying ht,run_underlying hk,sizeOf,typeInfo,hi,hl,hc,hcap,storeCells]
theorem cO.thaw(h:cO w0 ι ψ S w)(e:TypeId)(sz:Nat)(hpos:0<sz):cO w0 (ι++[⟨0,0,.slice none 0 0,sz⟩]) ψ (S++[.arr e sz 0 0 []]) w:=by
 refine h.push _ _ ⟨⟨rfl,rfl⟩,χ,hpos,ba _,⟨[],CB w _ e sz,fun j x ex=>by simp [ei] at ex⟩,fun k o hk _=>by simp [cV] at hk⟩ ?_
 intro k hk
 simp [aH.at,cV] at hk
theorem Bo{B:aH}{tx:TypeId}{x:AV}{els:List AV}(h:rW P S tx x=some els):rW P (S++[B]) tx x=some els:=by
 unfold rW at h ⊢
 split at h
 ·exact h
 ·exact h
 ·next e a g n hu =>
  split at h
  ·next e' sz fz g' els' hS =>
   rw [au (af.1 hS).1,hS]
   exact h
  ·cases h
 ·exact h
 ·cases h
theorem t7(h:cO w0 ι ψ S w){t tx ty:TypeId}{s x r:AV}{c d:Value}{S':List aH}(hs:VR ι ψ s c)(hx:VR ι ψ x d)(he:rK P S t tx s x=some (r,S')) :
  ∃ ι' ψ' w' cv,(Builtin.append_ #[t,tx] ty #[c,d]).run P w=.ok cv w'∧dW ι ψ ι' ψ'∧cO w0 ι' ψ' S' w'∧VR ι' ψ' r cv:=by
 unfold rK at he
 split at he
 ·next e news hu hsrc =>
  split at he
  ·next sz bytes zs hei =>
   obtain⟨i,z,hi,hz,rfl,rfl,rfl⟩:=sV hei
   split at he
   ·next hc =>
    obtain⟨hok,hpos,hbp,hzs⟩:=hc
    split at he
    ·next a g n =>
     split at he
     ·next e' sz fz g' els hS =>
      split at he
      ·next hcond =>
       obtain⟨rfl,rfl,rfl,rfl,hb⟩:=hcond
       simp at he
       obtain⟨rfl,rfl⟩:=he
       exact tu h hs hS rfl hu hi hz hzs rfl hpos hbp hx hsrc hok hb
      ·cases he
     ·cases he
    ·split at he
     ·next hb =>
      simp at he
      obtain⟨rfl,rfl⟩:=he
      have hth:=h.thaw e i.size hpos
      cases hs with
      | snil =>
       have hsv:VR (ι++[⟨0,0,.slice none 0 0,i.size⟩]) ψ (.sown S.length 0 0) (.slice none 0 0) :=
        .sown _ _ _ _ _ ⟨0,0,.slice none 0 0,i.size⟩ (by rw [← h.len];simp) (ba _) (fun _=>rfl)
       obtain⟨ι',ψ',w',cv,k1,k2,k3,k4⟩:=tu (P:=P) (ty:=ty) hth hsv (els:=[]) (news:=news) (fz:=0) χ rfl hu hi hz hzs rfl hpos hbp (hx.mono (dW.push ι ψ _)) (Bo hsrc) hok (by simpa using hb)
       refine⟨ι',ψ',w',cv,k1,(dW.push ι ψ _).trans k2, ?_,by simpa using k4⟩
       simpa using k3
     ·cases he
    ·next els =>
     split at he
     ·next hn =>
      subst hn
      simp at he
      obtain⟨rfl,rfl⟩:=he
      exact⟨ι,ψ,w,c,yr h hs hu hi hpos hx hsrc,dW.refl _ _,h,hs⟩
     ·next hn =>
      split at he
      ·next hcond =>
       simp at he
       obtain⟨rfl,rfl⟩:=he
       obtain⟨ι',w',cv,h1,h2,h3,h4⟩:=yu (P:=P) (ty:=ty) h hs hu hi hz hzs hpos hbp hx hsrc hok hcond.1 hn hcond.2
       exact⟨ι',ψ,w',cv,h1,h2,h3,h4⟩
      ·cases he
    ·cases he
   ·cases he
  ·cases he
 ·cases he
def jv(cs:List AV):Bool:=cs.all AV.leaf
theorem jH{cs:List AV}(h:jv cs=true){j:Nat}{x:AV}(hx:cs[j]? = some x):x.leaf=true:=aD.1 h x (ax hx)
theorem CR.newCells(h:cO w0 ι ψ S w){cs:List AV}{c:Array Value}(hc:CR ι ψ cs c)(hl:jv cs=true)(T:TypeId)(ty:Option TypeId:=none)(hty:∀ t,ty=some t→T=t:=by intro t e;cases e) :
  cO w0 (ι++[⟨w.heap.size,0,undef,0⟩]) ψ (S++[.cells cs ty]) (w.alloc (.cells c T))∧VR (ι++[⟨w.heap.size,0,undef,0⟩]) ψ (.own S.length 0) (.pointer (some ⟨w.heap.size,0,none⟩)):=by
 refine⟨h.newCells cs c T hc.1.symm (fun j x e=>⟨jH hl e,hc.2 j x e⟩) ty hty, ?_⟩
 have:=VR.own (ι:=ι++[⟨w.heap.size,0,undef,0⟩]) (ψ:=ψ) S.length 0 ⟨w.heap.size,0,undef,0⟩ (by rw [← h.len];simp)
 exact this
def vi(P:Program)(S:List aH)(t:TypeId)(x v:AV):Option (List aH) :=
 match ff P t,x with
 | some n,.own a off=>match S[a]? with
  | some (.cells cs ty)=>if v.cells.length=n∧v.isJunk=false∧jv v.cells=true∧off+n≤cs.length then some (S.set a (.cells (gI cs off v.cells) ty)) else none
  | _=>none
 | some n,.oel a g i off=>match S[a]? with
  | some (.arr e sz fz g' els)=>match els[i]? with
   | some el=>if g=g'∧fz≤i∧v.cells.length=n∧v.isJunk=false∧jv v.cells=true∧off+n≤sz then
     some (S.set a (.arr e sz fz g (els.set i (if n=sz then v else .agg (gI el.cells off v.cells))))) else none
   | none=>none
  | _=>none
 | _,_=>none
theorem CR.oneCell{x:AV}{c:Value}(hx:VR ι ψ x c)(hj:x.isJunk=false)(hl:jv x.cells=true):∀ v∈c.cells.toList,v.oneCell'=true:=by
 obtain⟨hs,hv⟩:=hx.cells (by intro e;subst e;simp [AV.isJunk] at hj)
 intro v hm
 obtain⟨j,hjv⟩:=aV hm
 have hlt:j<x.cells.length:=by rw [← hs];have:=(af.1 hjv).1;simpa using this
 obtain⟨v',h1,h2⟩:=hv j _ (ap hlt)
 simp at hjv
 rw [hjv] at h1;cases h1
 exact h2.oneCell (jH hl (ap hlt))
theorem vh(h:cO w0 ι ψ S w){t:TypeId}{x v:AV}{c d:Value}{S':List aH}(hx:VR ι ψ x c)(hv:VR ι ψ v d)(he:vi P S t x v=some S') :
  ∃ w',(oL t c d).run P w=.ok () w'∧cO w0 ι ψ S' w':=by
 unfold vi at he
 split at he
 ·next n a off hn =>
  split at he
  ·next cs ty hS =>
   split at he
   ·next hc =>
    obtain⟨h1,h2,h3,h4⟩:=hc
    simp at he;subst he
    cases hx with
    | own _ _ pl hpl =>
     obtain⟨hs,hvv⟩:=hv.cells (by intro e;subst e;simp [AV.isJunk] at h2)
     obtain⟨w',hr,hR⟩:=h.storeCells (P:=P) hS hpl off v.cells d.cells.toList (by simp [hs]) (fun j x e=>⟨jH h3 e,by simpa using hvv j x e⟩) (CR.oneCell hv h2 h3) ω
     refine⟨w', ?_,hR⟩
     simp [oL,eF,storeVar,cy hn,hs,h1,hr]
   ·cases he
  ·cases he
 ·next n a g i off hn =>
  split at he
  ·next e sz fz g' els hS =>
   split at he
   ·next el hel =>
    split at he
    ·next hc =>
     obtain⟨rfl,hfi,h1,h2,h3,h4⟩:=hc
     simp at he;subst he
     cases hx with
     | oel _ _ _ _ ad pl hpl hgl hs' =>
      have hB:=h.blk a _ pl hS hpl
      obtain⟨⟨hgen,hpsz⟩,hsize,hpos,hfz,⟨xs,hown,hxs⟩,hps⟩:=hB
      obtain⟨b,hb,rfl⟩:=hs' hgen.symm
      obtain⟨hs,hvv⟩:=hv.cells (by intro e;subst e;simp [AV.isJunk] at h2)
      rcases hown.2 with⟨hnil,_⟩|⟨b',cap,cur,hsv,hbg,hg,hnc,hcm,hcs,htake⟩
      ·rw [hnil] at hb;simp [cV] at hb
      ·have hbb:b'=b:=by rw [hsv] at hb;simpa [cV] using hb
       subst hbb
       have hil:i<els.length:=(af.1 hel).1
       have hell:el.cells.length=sz:=hsize el (ax hel)
       have hbound:i * sz+sz≤els.length * sz:=by rw [← jS];exact bK _ hil
       have hcur:els.length * sz≤cur.size:=by rw [hcs];exact bK _ hnc
       have hst:=run_storeCells_at P b' (i * sz+off) e d.cells.toList 0 cur w hg (by simp [hs];omega) (CR.oneCell hv h2 h3)
       simp only [l8] at hst
       have hrun:(oL t (.pointer (some ⟨b',i * sz+off,none⟩)) d).run P w=(Go.storeCells ⟨b',i * sz+off,none⟩ d.cells.toList).run P w:=by
        simp [oL,eF,storeVar,cy hn,hs,h1]
       refine⟨_,by rw [hpsz];exact hrun.trans hst, ?_⟩
       have hset:ι.set a pl=ι:=gB hpl
       let el':AV:=if n=sz then v else .agg (gI el.cells off v.cells)
       have hcells:∀ j,el'.cells[j]? = if off≤j∧j<off+n then v.cells[j - off]? else el.cells[j]?:=by
        intro j
        by_cases hnsz:n=sz
        ·have hoff:off=0:=ω
         subst hoff
         simp only [el',if_pos hnsz,bf,true_and,bG,Nat.sub_zero]
         split
         ·rfl
         ·rw [bR ω,bR ω]
        ·simp only [el',if_neg hnsz,qA]
         rw [gI,fw el.cells v.cells off j ω,h1]
       have hlen':el'.cells.length=sz:=by
        by_cases hnsz:n=sz
        ·simp only [el',if_pos hnsz];omega
        ·simp only [el',if_neg hnsz,qA,gI,ah,pU,CE];omega
       have hsize':∀ x∈els.set i el',x.cells.length=sz:=by
        intro x hx
        rcases List.mem_or_eq_of_mem_set hx with hx|rfl
        ·exact hsize x hx
        ·exact hlen'
       have hxl:xs.length=els.length * sz:=hown.1
       have hget2:=fun j=>fw cur.toList d.cells.toList (i * sz+off) j (by simp [hs];omega)
       have key:=h.update (w':=w.setRow b' (rg (i * sz+off) cur.toList++d.cells.toList++List.drop (i * sz+off+d.cells.toList.length) cur.toList).toArray) (ψ':=ψ) (B':=.arr e sz fz g (els.set i el')) (pl':=pl) hS hpl ?_ ?_ ?_ ?_ ?_ ?_ rfl
       ·rw [hset] at key;exact key
       ·exact⟨rfl,rfl,rfl,by simp [World.setRow],fun k hk=>setRow_other w _ k _ ω⟩
       ·intro k hk _
        exact setRow_other w _ k _ (fun e=>hk (by subst e;exact hb))
       ·rw [hset];exact dW.refl _ _
       ·rw [hset]
        refine⟨⟨hgen,hpsz⟩,hsize',hpos,by simpa using hfz,⟨_,⟨?_,.inr ⟨b',cap,_,by rw [hsv];simp,hbg,setRow_heap w b' cur _ e (0,0) hg,by simpa using hnc,hcm, ?_,rfl⟩⟩,fun j x ex=>?_⟩,hps⟩
        ·simp;omega
        ·simp [hs];omega
        ·rw [v7 hsize' hpos] at ex
         have hj:j<els.length * sz:=by
          cases hq:(els.set i el')[j / sz]? with
          | none=>rw [hq] at ex;simp at ex
          | some e' =>
           have:=(af.1 hq).1
           rw [bx] at this
           exact(Nat.div_lt_iff_lt_mul hpos).1 this
         have hxsj:∀ v:Value,xs[j]? = some v→cur.toList[j]? = some v:=by
          intro v hv
          have hj2:j<els.length * sz:=by rw [← hxl];exact(af.1 hv).1
          rw [← htake,bc,if_pos hj2] at hv
          exact hv
         simp only [bc]
         rw [if_pos (by simpa using hj),hget2 j]
         have hmod:=IM j sz
         have hmlt:=eh j hpos
         by_cases hji:j / sz=i
         ·rw [hji,gV hil] at ex
          simp only [Jl] at ex
          rw [hcells] at ex
          rw [hji] at hmod
          by_cases hin:off≤j % sz∧j % sz<off+n
          ·rw [if_pos hin] at ex
           rw [if_pos (by simp [hs];omega)]
           obtain⟨v',e1,e2⟩:=hvv _ x ex
           refine⟨jH h3 ex,v', ?_,e2,fun hlt=>?_⟩
           ·rw [show j - (i * sz+off)=j % sz - off by omega];simpa using e1
           ·have:fz * sz≤i * sz:=bK _ hfi
            omega
          ·rw [if_neg hin] at ex
           rw [if_neg (by simp [hs];omega)]
           have hfj:(ei els)[j]? = some x:=by rw [v7 hsize hpos,hji,hel];exact ex
           obtain⟨hl,v',e1,e2,e3⟩:=hxs j x hfj
           exact⟨hl,v',hxsj v' e1,e2,e3⟩
         ·rw [be (Ne.symm hji)] at ex
          have hfj:(ei els)[j]? = some x:=by rw [v7 hsize hpos];exact ex
          obtain⟨hl,v',e1,e2,e3⟩:=hxs j x hfj
          refine⟨hl,v', ?_,e2,e3⟩
          rw [if_neg]
          ·exact hxsj v' e1
          ·simp only [fk,hs,h1,not_and,Nat.not_lt]
           intro hge
           rcases Nat.lt_or_gt_of_ne hji with hlt|hgt
           ·have:(j / sz+1) * sz≤i * sz:=bK _ hlt
            rw [jS] at this;omega
           ·have:(i+1) * sz≤j / sz * sz:=bK _ hgt
            rw [jS] at this;omega
       ·intro k hk;exact .inl hk
       ·intro k o v' ev
        by_cases hk:pl.sv.ownBlock=some k
        ·have ho:o<fz * sz:=wC fun hge=>by rw [hps k o hk hge] at ev;cases ev
         have hkb:k=b':=by rw [hb] at hk;cases hk;rfl
         subst hkb
         have hfl:=dZ hsize
         have hfb:fz * sz≤els.length * sz:=bK _ hfz
         obtain⟨_,v2,e1,_,e3⟩:=hxs o _ (ap (show o<(ei els).length by omega))
         rw [e3 ho k hk] at ev;cases ev
         refine .inr ⟨.inl hk, ?_⟩
         rw [cell_setRow_same w k o cur _ e (0,0) hg]
         simp only [gA]
         rw [hget2 o,if_neg]
         ·rw [← htake,bc,if_pos ω] at e1
          exact e1
         ·have:fz * sz≤i * sz:=bK _ hfi
          omega
        ·exact .inl ⟨ev,hk⟩
    ·cases he
   ·cases he
  ·cases he
 ·cases he
end Go.Fen
namespace Go.Fen
open Go.RowKit Go.MapKept
variable {P:Program}{w0 w w':World}{ι:List Pl}{ψ:eo}{S:List aH}
theorem cO.psim_new(h:cO w0 ι ψ S w){b:Nat}(hb:w.heap.size≤b):ψ.m b=none:=by
 cases e:ψ.m b with
 | none=>rfl
 | some es =>
  obtain⟨hc,_⟩:=h.psim b es.1 es.2 e
  have:=eD hc
  omega
theorem cO.newBlk(h:cO w0 ι ψ S w)(o:Obj)(B:aH)(hat:∀ pl:Pl,B.at pl=some pl.blk)(hB:ng w0.heap.size (ι++[⟨w.heap.size,0,undef,0⟩]) ψ (w.alloc o) ⟨w.heap.size,0,undef,0⟩ B) :
  cO w0 (ι++[⟨w.heap.size,0,undef,0⟩]) ψ (S++[B]) (w.alloc o):=by
 refine(h.alloc o).push _ _ hB fun k hk i C q hC hq hk2=>?_
 rw [hat] at hk
 simp at hk
 subst hk
 have:=((h.blk i C q hC hq).at_lt hk2).2
 omega
theorem cO.putBlk(h:cO w0 ι ψ S w){m:Nat}{B B':aH}{o:Obj}{pl:Pl}(hi:S[m]? = some B)(hpl:ι[m]? = some pl)(hat:B.at pl=some pl.blk)(hat':B'.at pl=some pl.blk)
  (hc:∀ k,ψ.c pl.blk k=none) (hfz:∀ es,B≠.mp true es) (hB':ng w0.heap.size ι ψ (w.putObj pl.blk o) pl B'):cO w0 ι ψ (S.set m B') (w.putObj pl.blk o):=by
 have hB:=h.blk m _ pl hi hpl
 have h0:=(hB.at_lt hat).1
 have hset:ι.set m pl=ι:=gB hpl
 have hoth:∀ k,k≠pl.blk→(w.putObj pl.blk o).heap[k]? = w.heap[k]?:=fun k hk=>World.putObj_heap_other hk
 have key:=h.update (w':=w.putObj pl.blk o) (ψ':=ψ) (B':=B') (pl':=pl) hi hpl ⟨rfl,rfl,rfl,χ,fun k hk=>hoth k ω⟩ (fun k hk _=>hoth k (fun e=>hk (by rw [hat,e])))
  (by rw [hset];exact dW.refl _ _) (by rw [hset];exact hB') (fun k hk=>.inl (by rw [hat',← hat] at hk;exact hk)) (fun b ob v e=>.inl ⟨e,fun hk=>by
   rw [hat] at hk;cases hk;rw [hc ob] at e;cases e⟩) rfl (fun es he=>absurd he (hfz es))
 rw [hset] at key;exact key
theorem yl(w:World)(a:Addr)(n:Nat)(ad:Addr):(w.freeze a n).cell? ad=w.cell? ad:=by
 unfold yz
 by_cases hn:n=0
 ·rw [if_pos hn]
 ·rw [if_neg hn]
  unfold qG
  rw [dq]
  by_cases hb:a.block=ad.block
  ·rw [if_pos hb]
   cases w.heap[ad.block]? with
   | none=>rfl
   | some o=>cases o<;>rfl
  ·rw [if_neg hb]
def o_(P:Program)(S:List aH)(t:TypeId)(hint:Option AV):Option (AV × List aH) :=
 match hint with
 | none=>some (.mown S.length,S++[.mp false []])
 | some (.int _ _)=>match P.underlying t with
  | some (.map _ _)=>some (.mown S.length,S++[.mp false []])
  | _=>none
 | _=>none
theorem sC(h:cO w0 ι ψ S w){t:TypeId}{hint:Option AV}{ch:Option Value}(hh:tC ι ψ hint ch){r:AV}{S':List aH}(he:o_ P S t hint=some (r,S')) :
  ∃ ι' w' cv,(oM t ch).run P w=.ok cv w'∧dW ι ψ ι' ψ∧cO w0 ι' ψ S' w'∧VR ι' ψ r cv:=by
 have fin:(oM t ch).run P w=.ok (.map (some w.heap.size)) (w.alloc (.map #[] 0))→(r,S')=(.mown S.length,S++[.mp false []]) →
   ∃ ι' w' cv,(oM t ch).run P w=.ok cv w'∧dW ι ψ ι' ψ∧cO w0 ι' ψ S' w'∧VR ι' ψ r cv:=by
  intro hr e
  simp only [k_] at e
  obtain⟨rfl,rfl⟩:=e
  refine⟨ι++[⟨w.heap.size,0,undef,0⟩],_,_,hr,dW.push ι ψ _,h.newBlk (.map #[] 0) (.mp false []) (fun _=>rfl) ⟨h.n0,χ,⟨#[],0,[],j9 w _,⟨χ,χ⟩,.refl _,⟨rfl,χ⟩,by simpa using h.psim_new (ba _)⟩,fun k=>h.psi_new (ba _) k⟩, ?_⟩
  have:=VR.mown (ι:=ι++[⟨w.heap.size,0,undef,0⟩]) (ψ:=ψ) S.length ⟨w.heap.size,0,undef,0⟩ (by rw [← h.len];simp)
  exact this
 unfold o_ at he
 split at he
 ·cases ch with
  | some c=>exact hh.elim
  | none=>exact fin rfl (by simpa using he.symm)
 ·next j n =>
  cases ch with
  | none=>exact hh.elim
  | some c =>
   split at he
   ·next kt et hu =>
    have:=VR.int_inv hh
    subst this
    exact fin (by simp [oM,run_underlying hu,asInt,asIntOf,newObj,qH]) (by simpa using he.symm)
   ·cases he
 ·cases he
def jZ(k v:AV)(es:List (AV × AV)):List (AV × AV) :=
 if es.any (fun e=>kR k e.1) then es.map (fun e=>if kR k e.1 then (k,v) else e) else es++[(k,v)]
def eC(P:Program)(S:List aH)(t:TypeId)(m k v:AV):Option (List aH) :=
 match P.underlying t,m with
 | some (.map kt _),.mown a=>match S[a]? with
  | some (.mp false es)=>if (fh P kt k&&es.all fun e=>fh P kt e.1)=true then some (S.set a (.mp false (jZ k v es))) else none
  | _=>none
 | _,_=>none
theorem jf(h:cO w0 ι ψ S w){t:TypeId}{m k v:AV}{cm ck cv:Value}{S':List aH}(hm:VR ι ψ m cm)(hk:VR ι ψ k ck)(hv:VR ι ψ v cv)(he:eC P S t m k v=some S') :
  ∃ w',(nM t cm ck cv).run P w=.ok () w'∧cO w0 ι ψ S' w':=by
 unfold eC at he
 split at he
 ·next kt et a hu =>
  split at he
  ·next es hS =>
   split at he
   ·next hc =>
    simp only [aq,aD] at hc
    simp only [bl] at he
    subst he
    cases hm with
    | mown _ pl hpl =>
     obtain⟨h0,hn,⟨me,clk,l,h1,h2,h3,h4,h5⟩,h6⟩:=h.blk a _ pl hS hpl
     have h5':ψ.m pl.blk=none:=by simpa using h5
     have hck:(lB false 10000 kt ck).run P w=.ok () w:=ql hc.1 hk false w
     rcases qo (P:=P) hk h3 hn h4 hc.1 hc.2 with⟨e1,e2⟩|⟨j,e,m,e1,e2,e3,e4,e5,e6⟩
     ·have hany:es.any (fun e=>kR k e.1)=false:=by
       rw [Jm]
       exact kl.1 e1
      have hf:=e2 w
      refine⟨w.putObj pl.blk (.map (me.push { key:=ck,val:=cv,born:=clk }) (clk+1)), ?_, ?_⟩
      ·simp [nM,run_underlying hu,cz h1,hck,hf,run_setObj_map _ h1,nR]
      ·rw [jZ,if_neg (by simp [hany])]
       refine h.putBlk hS hpl rfl rfl h6 (by intro es' e;cases e) ⟨h0, ?_,⟨_,_,l++[(k,v)],ez (eD h1), ?_,h3.append_right _, ?_,by simpa using h5'⟩,h6⟩
       ·rw [aM,ig]
        refine⟨hn,χ, ?_⟩
        intro x hx y hy
        simp at hy;subst hy
        obtain⟨e,hem,rfl⟩:=aN.1 hx
        intro hxk
        have:=kl.1 e1 e hem
        exact this ((jt hc.1 (hc.2 e hem)).2 hxk.symm)
       ·refine⟨fun m hm=>?_, ?_⟩
        ·simp at hm
         rcases hm with hm|rfl
         ·have:=h2.1 m (by simpa using hm);omega
         ·simp
        ·simp only [FA,aM,ig]
         refine⟨h2.2,χ, ?_⟩
         intro x hx y hy
         simp at hy;subst hy
         obtain⟨m,hm,rfl⟩:=aN.1 hx
         have:=h2.1 m hm
         omega
       ·refine⟨by simp [h4.1],fun i e m hi hm=>?_⟩
        simp only [FA] at hm
        by_cases hil:i<l.length
        ·rw [au hil] at hi
         rw [au (by rw [← h4.1];exact hil)] at hm
         exact h4.2 i e m hi hm
        ·rw [aA ω] at hi
         rw [aA (by rw [← h4.1];omega),← h4.1] at hm
         cases hz:i - l.length with
         | zero=>rw [hz] at hi hm;simp at hi hm;subst hi;subst hm;exact⟨hk,hv⟩
         | succ n=>rw [hz] at hi;simp at hi
     ·have hmem:e∈es:=oJ e1
      have hany:es.any (fun e=>kR k e.1)=true:=List.any_eq_true.2 ⟨e,hmem,List.find?_some (p:=fun e:AV × AV=>kR k e.1) e1⟩
      have hf:=e6 w
      have hjl:j<me.size:=by have:=(af.1 e3).1;simpa using this
      have hmj:me[j]? = some m:=by simpa using e3
      have hmj':me[j]=m:=by simpa [hjl] using hmj
      refine⟨w.putObj pl.blk (.map (me.modify j fun e=>{ e with key:=ck,val:=cv }) clk), ?_, ?_⟩
      ·have hst:(IR ck ck).run P w=.ok ck w:=uw hc.1 hk w
       simp [nM,run_underlying hu,cz h1,hck,hf,run_setObj_map _ h1,nR,hjl,hmj',e4,hst]
      ·rw [jZ,if_pos hany]
       have hfst:∀ e∈es,(if kR k e.1 then (k,v) else e).1=e.1:=by
        intro e he
        split
        ·next hq=>exact((jt hc.1 (hc.2 e he)).1 hq)
        ·rfl
       refine h.putBlk hS hpl rfl rfl h6 (by intro es' e;cases e) ⟨h0, ?_,⟨_,_,l.map (fun e=>if kR k e.1 then (k,v) else e),ez (eD h1), ?_,h3.map _, ?_,by simpa using h5'⟩,h6⟩
       ·rw [Fl,List.map_congr_left (g:=cP) (by intro e he;exact hfst e he)]
        exact hn
       ·have hb:(me.modify j fun e=>{ e with key:=ck,val:=cv }).toList.map (·.born)=me.toList.map (·.born):=by
         apply List.ext_getElem?
         intro i
         simp only [aJ,bu,dq]
         split
         ·cases me[i]?<;>rfl
         ·rfl
        refine⟨fun m' hm'=>?_,by rw [hb];exact h2.2⟩
        have:m'.born∈me.toList.map (·.born):=by rw [← hb];exact dc hm'
        obtain⟨m2,k1,k2⟩:=aN.1 this
        rw [← k2];exact h2.1 m2 k1
       ·refine⟨by simp [h4.1],fun i e' m' hi hm'=>?_⟩
        simp only [aJ,aL] at hi
        obtain⟨e0,hi0,rfl⟩:=hi
        simp only [bu,dq] at hm'
        have hil:i<l.length:=(af.1 hi0).1
        by_cases hij:j=i
        ·subst hij
         rw [e2] at hi0;cases hi0
         rw [if_pos rfl,hmj] at hm'
         simp at hm';subst hm'
         rw [if_pos ((jt hc.1 (hc.2 e hmem)).2 e5.symm)]
         exact⟨hk,hv⟩
        ·rw [if_neg hij] at hm'
         have hne:kR k e0.1=false:=by
          cases hq:kR k e0.1 with
          | false=>rfl
          | true =>
           have h7:=(jt hc.1 (hc.2 e0 (h3.mem_iff.1 (ax hi0)))).1 hq
           have hnl:(l.map cP).Nodup:=(h3.map cP).nodup_iff.2 hn
           exact absurd ((List.getElem?_inj (i:=i) (j:=j) (by simpa using hil) hnl).1 (by simp only [aJ,hi0,e2,dp];rw [← h7,e5])) (fun e=>hij e.symm)
         rw [hne]
         exact h4.2 i e0 m' hi0 (by simpa using hm')
   ·cases he
  ·cases he
 ·cases he
def vz(P:Program)(S:List aH)(t:TypeId)(x:AV):Option (AV × List aH) :=
 match P.underlying t,x with
 | some (.map _ _),.mnil=>some (.own S.length 0,S++[.mit none []])
 | some (.map _ _),.mval es=>some (.own S.length 0,S++[.mit none es])
 | some (.map _ _),.mown a=>match S[a]? with
  | some (.mp true es)=>some (.own S.length 0,S++[.mit none es])
  | _=>none
 | _,_=>none
theorem vw(h:cO w0 ι ψ S w){t:TypeId}{x:AV}{c:Value}(hx:VR ι ψ x c){r:AV}{S':List aH}(he:vz P S t x=some (r,S')) :
  ∃ ι' w' cv,(lf t c).run P w=.ok cv w'∧dW ι ψ ι' ψ∧cO w0 ι' ψ S' w'∧VR ι' ψ r cv:=by
 have fin:∀ (o:Obj) (rest:List (AV × AV)),(lf t c).run P w=.ok (.pointer (some ⟨w.heap.size,0,none⟩)) (w.alloc o)→(r,S')=(.own S.length 0,S++[.mit none rest]) →
   (o=.mapIter none 0 #[] 0∧rest=[]∨∃ (mb:Nat) (me:Array MapEntry) (ck:Nat) (l:List (AV × AV)),o=.mapIter (some mb) ck #[] ck∧ψ.m mb=some (me,ck)∧l.Perm rest∧rq ι ψ l me.toList) →
   ∃ ι' w' cv,(lf t c).run P w=.ok cv w'∧dW ι ψ ι' ψ∧cO w0 ι' ψ S' w'∧VR ι' ψ r cv:=by
  intro o rest hr e ho
  simp only [k_] at e
  obtain⟨rfl,rfl⟩:=e
  refine⟨ι++[⟨w.heap.size,0,undef,0⟩],_,_,hr,dW.push ι ψ _,h.newBlk o (.mit none rest) (fun _=>rfl) ⟨h.n0, ?_,fun k=>h.psi_new (ba _) k,h.psim_new (ba _)⟩, ?_⟩
  ·rcases ho with⟨rfl,rfl⟩|⟨mb,me,ck,l,rfl,k1,k3,k4⟩
   ·exact .inl ⟨j9 w _,rfl,rfl⟩
   ·refine .inr ⟨mb,ck,me,#[],l,j9 w _,k1,k3, ?_,by intro e he;cases he⟩
    have:me.toList.filter (fun e=>!(#[]:Array Nat).contains e.born)=me.toList:=by
     rw [List.filter_eq_self];intro e _;simp
    rw [this]
    exact k4.mono (dW.push ι ψ _)
  ·have:=VR.own (ι:=ι++[⟨w.heap.size,0,undef,0⟩]) (ψ:=ψ) S.length 0 ⟨w.heap.size,0,undef,0⟩ (by rw [← h.len];simp)
   exact this
 unfold vz at he
 split at he
 ·next kt et hu =>
  cases hx
  exact fin (.mapIter none 0 #[] 0) [] (by simp [lf,run_underlying hu,newObj,qH]) (by simpa using he.symm) (.inl ⟨rfl,rfl⟩)
 ·next kt et es hu =>
  cases hx with
  | mval _ l b ck me hb hp hl hn h1 h2 =>
   obtain⟨hck,hok⟩:=h.psim b me ck hb
   refine fin (.mapIter (some b) ck #[] ck) es (by simp [lf,run_underlying hu,cz hck,newObj,qH]) (by simpa using he.symm) (.inr ⟨b,me,ck,l,rfl,hb,hp, ?_⟩)
   exact⟨by simpa using hl,fun i e m hi hm=>⟨h1 i e m hi (by simpa using hm),h2 i e m hi (by simpa using hm)⟩⟩
 ·next kt et a hu =>
  split at he
  ·next es hS =>
   cases hx with
   | mown _ pl hpl =>
    obtain⟨h0,hn,⟨me,ck,l,h1,h2,h3,h4,h5⟩,h6⟩:=h.blk a _ pl hS hpl
    refine fin (.mapIter (some pl.blk) ck #[] ck) es (by simp [lf,run_underlying hu,cz h1,newObj,qH]) (by simpa using he.symm) (.inr ⟨pl.blk,me,ck,l,rfl,by simpa using h5,h3,h4⟩)
  ·cases he
 ·cases he
def vM(els:List AV):Bool:=els.all fun x=>match x with
 | .int .u8 n=>decide (0≤n)&&decide (n<256)
 | _=>false
def lH(P:Program)(S:List aH)(pt:TypeId)(p n:AV):Option (AV × List aH) :=
 match p,n with
 | .oel a g 0 0,.int .i64 m=>match S[a]? with
  | some (.arr e 1 _ g' els)=>match gz els with
   | some s=>match P.underlying pt with
    | some (.pointer e')=>if g=g'∧m=els.length∧1≤els.length∧e'=e∧P.cellsOf e=1∧vM els=true then some (.str s,S.set a .dead) else none
    | _=>none
   | none=>none
  | _=>none
 | .nilp,.int .i64 m=>if m=0 then some (.str [],S) else none
 | _,_=>none
theorem p5(h:cO w0 ι ψ S w){pt it ty:TypeId}{p n r:AV}{cp cn:Value}{S':List aH}(hp:VR ι ψ p cp)(hn:VR ι ψ n cn)(he:lH P S pt p n=some (r,S')) :
    ∃ w' cv,(Builtin.unsafeString_ #[pt,it] ty #[cp,cn]).run P w=.ok cv w'∧cO w0 ι ψ S' w'∧VR ι ψ r cv:=by
  unfold lH at he
  split at he
  · next a g m =>
    obtain rfl:=hn.int_inv
    split at he
    · next e fz g' els hS =>
      split at he
      · next s hs =>
       split at he
       · next e' hpt =>
        split at he
        · next hc =>
          obtain⟨rfl,rfl,hpos,rfl,hce,hok8⟩:=hc
          simp only [bl,k_] at he
          obtain⟨rfl,rfl⟩:=he
          obtain⟨ns,rfl,rfl⟩:=j8 _ _ hs
          cases hp with
          | oel _ _ _ _ ad pl hpl hgl hs' =>
            obtain⟨⟨hgen,hpsz⟩,hsz,_,hfz,⟨xs,hown,hxs⟩,hps⟩:=h.blk a _ pl hS hpl
            obtain⟨b,hb,rfl⟩:=hs' hgen.symm
            rcases hown.2 with⟨hnn,hn0⟩|⟨b',cap,cur,hv,hbb,hgg,hle,hcm,hcs,htk⟩
            · omega
            · rw [hv] at hb
              simp only [cV,bl] at hb
              subst hb
              have hlen:(ns.map (AV.int .u8)).length=ns.length:=χ
              rw [hlen] at hpos hle
              have hcell:∀ (j:Nat) (x:Int),ns[j]? = some x→w.cell? ((⟨b',0,none⟩:Addr).add j)=some (.int .u8 x):=by
                intro j x hj
                have hf:(ei (ns.map (AV.int .u8)))[j]? = some (.int .u8 x):=by
                  have:=kA (els:=ns.map (AV.int .u8)) (sz:=1) hsz (i:=j) (j:=0) (e:=.int .u8 x) (x:=.int .u8 x) (by simp [hj]) rfl
                  simpa using this
                obtain⟨_,v,hv',hr,_⟩:=hxs j _ hf
                rw [hr.int_inv] at hv'
                exact hown.cells (g:=b') (by rw [hv];rfl) j _ hv'
              have h8:∀ n∈ns,((az n.toNat).toNat:Int)=n:=by
                intro n hn'
                have h9:=aD.1 hok8 _ (aN.2 ⟨n,hn',rfl⟩)
                simp only [aq,decide_eq_true_eq] at h9
                have:(az n.toNat).toNat=n.toNat:=by
                  rw [UInt8.toNat_ofNat'];omega
                rw [this];omega
              have hsh:w.shape? b'=some (e',cur.size):=by simp [World.shape?,hgg]
              have hus:=Lib.run_unsafeString_row (P:=P) (w:=w) pt it ty e' hpt hce b' cur.size hsh (ns.map fun n=>az n.toNat) (fun e=>by rw [List.map_eq_nil_iff] at e;rw [e] at hpos;simp at hpos) (by rw [hcs];simp;omega) (by simp only [maxLen] at hcm;simp;omega) (fun j x hj=>by
                rw [aJ,aL] at hj
                obtain⟨n,hn',rfl⟩:=hj
                rw [h8 n (ax hn')]
                exact hcell j n hn')
              rw [bi] at hus
              refine⟨w.freeze ⟨b',0,none⟩ ns.length,.string ⟨(ns.map fun n=>az n.toNat).toArray⟩, ?_, ?_,.str' _⟩
              · rw [show (⟨b', 0 * pl.sz + 0, none⟩ : Addr) = ⟨b', 0, none⟩ by simp, hlen]
                exact hus
              · have hset : ι.set a pl = ι := gB hpl
                have hcell':∀ ad:Addr,(w.freeze ⟨b',0,none⟩ ns.length).cell? ad=w.cell? ad:=fun ad=>yl w _ _ ad
                have hoth:∀ k,k≠b'→(w.freeze ⟨b',0,none⟩ ns.length).heap[k]? = w.heap[k]?:=by
                  intro k hk
                  unfold yz
                  split
                  · rfl
                  · simp [dq,Ne.symm hk]
                have key:=h.update (w':=w.freeze ⟨b',0,none⟩ ns.length) (ψ':=ψ) (B':=.dead) (pl':=pl) hS hpl ?_ ?_ ?_ trivial (by intro k hk;simp [aH.at] at hk) ?_ rfl
                · rw [hset] at key;exact key
                · refine⟨?_, ?_, ?_, ?_,fun k hk=>hoth k ω⟩<;>(unfold yz;split<;>simp)
                · intro k hk _
                  exact hoth k (fun e=>hk (by simp [aH.at,hv,cV,e]))
                · rw [hset];exact dW.refl _ _
                · intro b o v e
                  by_cases hbk:b=b'
                  · subst hbk
                    exact .inr ⟨.inl (by simp [aH.at,hv,cV]),by rw [hcell'];exact h.psi _ _ _ e⟩
                  · exact .inl ⟨e,fun hk=>hbk (by simp [aH.at,hv,cV] at hk;exact hk.symm)⟩
        · cases he
       · cases he
      · cases he
    · cases he
  · next m =>
    obtain rfl:=hn.int_inv
    split at he
    · next hm =>
      subst hm
      simp only [bl,k_] at he
      obtain⟨rfl,rfl⟩:=he
      cases hp with
      | nilp=>exact⟨w,_,Lib.run_unsafeString_none (P:=P) (w:=w) pt it ty none,h,.str _ _ rfl⟩
    · cases he
  · cases he
end Go.Fen
namespace Go.Fen
open Go.RowKit
variable {P:Program}{w0 w w':World}{ι:List Pl}{ψ:eo}{S:List aH}
def lO(P:Program)(S:List aH)(t:TypeId)(l c:AV):Option (AV × List aH) :=
 match P.underlying t,l,c with
 | some (.slice e),.int .i64 n,.int .i64 m=>match q_ P e,lg P e with
  | some (sz,bytes,zs),some z=>if cI sz [z]=true∧0<sz∧0<bytes∧zs=sz∧0≤n∧n≤m∧m * (bytes:Nat)≤140737488355328 then
    some (.sown S.length 0 n.toNat,S++[.arr e sz 0 0 (a8 n.toNat z)]) else none
  | _,_=>none
 | _,_,_=>none
theorem xS{z:AV}{sz:Nat}(hz:z.cells.length=sz)(hp:0<sz):∀ (k j:Nat),j<k * sz→(ei (a8 k z))[j]? = z.cells[j % sz]?
 | 0,j,h=>by simp at h
 | k+1,j,h=>by
  rw [ml,kh]
  by_cases hj:j<sz
  ·rw [au ω,pS hj]
  ·have e:j % sz=(j - sz) % sz:=Nat.mod_eq_sub_mod ω
   rw [jS] at h
   rw [aA ω,hz,xS hz hp k (j - sz) ω,e]
theorem qg(h:cO w0 ι ψ S w){t:TypeId}{l c:AV}{lv cv:Value}{r:AV}{S':List aH}(hl:VR ι ψ l lv)(hc:VR ι ψ c cv)(he:lO P S t l c=some (r,S')) :
  ∃ ι' ψ' w' v,(mC t lv cv).run P w=.ok v w'∧dW ι ψ ι' ψ'∧cO w0 ι' ψ' S' w'∧VR ι' ψ' r v:=by
 unfold lO at he
 split at he
 ·next e n m hu =>
  split at he
  ·next sz bytes zs z hi hz =>
   split at he
   ·next hcnd =>
    obtain⟨h1,h2,h3,h4,h5,h6,h7⟩:=hcnd
    simp at he
    obtain⟨rfl,rfl⟩:=he
    obtain⟨i,zv,i1,i2,i3,i4,i5⟩:=sV hi
    obtain⟨zv',hzr,hzv⟩:=jz (P:=P) (w:=w) (ι:=ι) (ψ:=ψ) hz
    have hnj:z≠.junk:=by
     rintro rfl
     simp [cI,AV.cells,AV.leaf] at h1
    have hzl:z.cells.length=sz:=fu h1 z χ
    obtain⟨c1,c2⟩:=hzv.cells hnj
    cases hl with
    | int _ _ =>
    cases hc with
    | int _ _ =>
    obtain⟨a,rfl⟩:∃ a:Nat,n=a:=⟨n.toNat,ω⟩
    obtain⟨b,rfl⟩:∃ b:Nat,m=b:=⟨m.toNat,ω⟩
    have hmul:((b * bytes:Nat):Int)=(b:Int) * (bytes:Int):=Int.natCast_mul ..
    have h7':b * bytes≤140737488355328:=by rw [← hmul] at h7;omega
    have hb48:b≤140737488355328:=fc (my b h3) h7'
    have w1:ae.wrap (a:Int)=a:=ai _ ω
    have w2:ae.wrap (b:Int)=b:=ai _ ω
    have nz:¬ (((i.bytes:Int) * (b:Int))>2 ^ 48):=by rw [i4,Int.mul_comm,← hmul];omega
    have hroom:¬ (b * i.bytes>roomBytes):=by rw [i4];simp only [roomBytes];omega
    let cur:Array Value:=(Array.range (b * sz)).map ((if b * sz=0 then #[] else zv'.cells)[· % (if b * sz=0 then #[] else zv'.cells).size]!)
    have hrun:(mC t (.int .i64 (a:Int)) (.int .i64 (b:Int))).run P w=.ok (.slice (some ⟨w.heap.size,0,none⟩) a b) (w.alloc (.cells cur e)):=by
     have hsz:ff P e=some sz:=by simp [ff,i1,i3]
     have n1:¬ ((a:Int)<0):=ω
     have n2:¬ ((b:Int)<(a:Int)):=ω
     have n3:¬ ((b:Int)<0):=ω
     have n4:¬ (281474976710656<(i.bytes:Int) * (b:Int)):=ω
     have n5:(((b:Int)<0∨281474976710656<(i.bytes:Int) * (b:Int))∨(a:Int)<0)∨(b:Int)<(a:Int)↔False:=by
      constructor
      ·rintro(((h|h)|h)|h)<;>omega
      ·exact False.elim
     by_cases h0:b * sz=0
     ·simp [mC,run_underlying hu,asInt,asIntOf,typeInfo,i1,w1,w2,n5,askRoom,hroom,cy hsz,newRow,run_newObj,h0,cur]
      intro hh;exact absurd hh (by rintro(((h|h)|h)|h)<;>omega)
     ·simp [mC,run_underlying hu,asInt,asIntOf,typeInfo,i1,w1,w2,n5,askRoom,hroom,cy hsz,hzr,newRow,run_newObj,h0,cur]
      intro hh;exact absurd hh (by rintro(((h|h)|h)|h)<;>omega)
    have hcs:cur.size=b * sz:=by simp [cur]
    have key:=h.newArr e sz a b (a8 a z) cur χ (by simp [cI] at h1 ⊢;exact .inr h1) h2 ω (jO h3 h7') hcs ?_
    ·refine⟨_,ψ,_,_,hrun,dW.push ι ψ _,by simpa using key, ?_⟩
     refine .sown _ _ _ _ _ ⟨0,0,.slice (some ⟨w.heap.size,0,none⟩) a b,sz⟩ ?_ (ba _) (fun _=>rfl)
     rw [← h.len];simp
    ·intro j x ex
     have hj:j<a * sz:=by
      have:=(af.1 ex).1
      rw [dZ (sz:=sz) (by intro y hy;rw [(List.mem_replicate.1 hy).2];exact hzl)] at this;simpa using this
     rw [xS hzl h2 a j hj] at ex
     have hjb:j<b * sz:=l7 hj (bK _ ω)
     obtain⟨v,v1,v2⟩:=c2 _ _ ex
     refine⟨v, ?_,v2⟩
     have hne:¬ b * sz=0:=ω
     have hsz':zv'.cells.size=sz:=by rw [c1];exact hzl
     simp only [cur,if_neg hne,hsz']
     rw [lc,Array.getElem?_range,if_pos hjb]
     simp only [dp]
     rw [Array.getElem!_eq_getD,aC,v1]
     rfl
   ·cases he
  ·cases he
 ·cases he
end Go.Fen
namespace Go.Fen
open Go.RowKit
variable {P:Program}{w0 w w':World}{ι:List Pl}{ψ:eo}{S:List aH}
theorem sA{sz:Nat}{els:List AV}(h:cI sz els=true){e:AV}(he:e∈els):e.isJunk=false:=by
 have:=aD.1 h e he
 simp at this
 cases e<;>first|rfl|(simp [AV.cells,AV.leaf] at this)
theorem B3{sz:Nat}:∀ (els:List AV) (parts:List (Nat × AV)) (k:Nat) (cells:List AV),parts.map tD=els→parts.map cP=yC k els.length→cI sz els=true→(k+els.length) * sz≤cells.length →
  ∃ r,mY (fun i=>some (i * sz,sz)) cells parts=some r∧r.length=cells.length∧∀ j,r[j]? = if k * sz≤j∧j<(k+els.length) * sz then (ei els)[j - k * sz]? else cells[j]?:=by
 intro els
 induction els with
 | nil =>
  intro parts k cells h1 _ _ _
  have:parts=[]:=by simpa using h1
  subst this
  refine⟨cells,rfl,rfl,fun j=>?_⟩
  rw [if_neg]
  simp only [aI,l8];omega
 | cons e els ih =>
  intro parts k cells h1 h2 h3 h4
  cases parts with
  | nil=>simp at h1
  | cons p parts =>
   obtain⟨i,v⟩:=p
   simp only [al,mz] at h1
   obtain⟨rfl,h1⟩:=h1
   simp only [al,aB,List.range'_succ,mz] at h2
   obtain⟨rfl,h2⟩:=h2
   have hv:v.cells.length=sz:=fu h3 v χ
   have hj:=sA h3 (e:=v) χ
   have h3':cI sz els=true:=by unfold cI at h3 ⊢;simp only [tL,aq] at h3;exact h3.2
   simp only [aB] at h4
   have e1:(i+(els.length+1)) * sz=i * sz+sz+els.length * sz:=by rw [eH,eH,IL];omega
   have e2:(i+1+els.length) * sz=i * sz+sz+els.length * sz:=by rw [eH,eH,IL]
   have e3:(i+1) * sz=i * sz+sz:=jS _ _
   have hfl:=dZ (fu h3')
   obtain⟨r,r1,r2,r3⟩:=ih parts (i+1) (gI cells (i * sz) v.cells) h1 h2 h3' (by simp [gI];omega)
   refine⟨r, ?_,by rw [r2];simp [gI];omega,fun j=>?_⟩
   ·simp only [mY]
    rw [if_pos ⟨hv,ω,hj⟩]
    exact r1
   ·rw [r3 j,kh]
    simp only [aB,e2,e1,e3]
    by_cases hin:i * sz+sz≤j∧j<i * sz+sz+els.length * sz
    ·rw [if_pos hin,if_pos ω,aA ω,hv]
     congr 1;omega
    ·rw [if_neg hin,gI,fw cells v.cells (i * sz) j ω,hv]
     by_cases hin2:i * sz≤j∧j<i * sz+sz
     ·rw [if_pos hin2,if_pos ω,au ω]
     ·rw [if_neg hin2,if_neg ω]
def kV(P:Program)(S:List aH)(t:TypeId)(len:Nat)(parts:List (Nat × AV)):Option (AV × List aH) :=
 match P.underlying t with
 | some (.slice e)=>match ff P e,zeroA P e with
  | some sz,some _=>if parts.map cP=bh len∧cI sz (parts.map tD)=true∧0<sz∧len * sz≤16777216 then
    some (.sown S.length 0 len,S++[.arr e sz 0 0 (parts.map tD)]) else none
  | _,_=>none
 | _=>none
theorem pH(h:cO w0 ι ψ S w){t:TypeId}{len:Nat}{ps:List (Nat × AV)}{vs:Array (Nat × Value)}{r:AV}{S':List aH}(hl:ps.length=vs.size)
  (hv:∀ (j:Nat) (p:Nat × AV) (q:Nat × Value),ps[j]? = some p→vs[j]? = some q→p.1=q.1∧VR ι ψ p.2 q.2) (he:kV P S t len ps=some (r,S')) :
  ∃ ι' ψ' w' cv,(l_ t len vs).run P w=.ok cv w'∧dW ι ψ ι' ψ'∧cO w0 ι' ψ' S' w'∧VR ι' ψ' r cv:=by
 unfold kV at he
 split at he
 ·next e hu =>
  split at he
  ·next sz z hsz hz =>
   split at he
   ·next hc =>
    obtain⟨h1,h2,h3,h4⟩:=hc
    simp at he
    obtain⟨rfl,rfl⟩:=he
    obtain⟨zv,hzr,_⟩:=kK (P:=P) (w:=w) (ι:=ι) (ψ:=ψ) hz
    have hlen:(ps.map tD).length=len:=by
     have:=congrArg jI h1
     simp at this ⊢;exact this
    obtain⟨rA,f1,f2,f3⟩:=B3 (sz:=sz) (ps.map tD) ps 0 (a8 (len * sz) .junk) rfl (by rw [h1,hlen,List.range_eq_range']) h2 (by simp [hlen])
    have hinit:∀ zc:Array Value,CR ι ψ (a8 (len * sz) .junk) ((Array.range (len * sz)).map (zc[· % zc.size]!)):=by
     intro zc
     refine⟨χ,fun j x ex=>?_⟩
     have hj:=(af.1 ex)
     obtain⟨hj1,hj2⟩:=hj
     simp at hj2 hj1
     subst hj2
     exact⟨zc[j % zc.size]!,by simp [hj1],.junk _⟩
    obtain⟨rc,g1,g2⟩:=oz ps vs.toList _ _ rA (hinit (if len * sz=0 then #[] else zv.cells)) (by simpa using hl) (fun j p q hp hq=>hv j p q hp (by simpa using hq)) f1
    have hrun:(l_ t len vs).run P w=.ok (.slice (some ⟨w.heap.size,0,none⟩) len len) (w.alloc (.cells rc e)):=by
     have hnb:¬ (len * sz>2 ^ 24):=ω
     by_cases h0:len * sz=0
     ·rw [if_pos h0] at g1
      simp only [l_,co,run_underlying hu,cA,cy hsz,if_neg hnb,if_pos h0,gp,g1,newRow,run_newObj]
      rfl
     ·rw [if_neg h0] at g1
      simp only [l_,co,run_underlying hu,cA,cy hsz,if_neg hnb,if_neg h0,hzr,gp,g1,newRow,run_newObj]
      rfl
    have hrs:rc.size=len * sz:=by rw [← g2.1,f2];simp
    have key:=h.newArr e sz len len (ps.map tD) rc hlen.symm h2 h3 (ba _) ?_ hrs ?_
    ·refine⟨_,ψ,_,_,hrun,dW.push ι ψ _,key, ?_⟩
     refine .sown _ _ _ _ _ ⟨0,0,.slice (some ⟨w.heap.size,0,none⟩) len len,sz⟩ ?_ (ba _) (fun _=>rfl)
     rw [← h.len];simp
    ·have:=fc (my len h3) h4
     simp only [maxLen];omega
    ·intro j x ex
     have hj:j<len * sz:=by
      have:=(af.1 ex).1
      rw [dZ (fu h2),hlen] at this;exact this
     refine g2.2 j x ?_
     rw [f3 j,if_pos ⟨ω,by rw [hlen];simpa using hj⟩]
     simpa using ex
   ·cases he
  ·cases he
 ·cases he
def pm(P:Program)(t:TypeId):Bool :=
 match P.underlying t with
 | some (.struct fs)=>fs.toList.map (·.name)==["addr","buf"]
 | _=>false
def ew(P:Program)(S:List aH)(ρ:Operand→AV)(op:Op):Option (AV × List aH) :=
 match op with
 | .alloc t=>match zeroA P t with
  | some z=>if jv z=true then some (.own S.length 0,S++[.cells z (if pm P t then some t else none)]) else none
  | none=>none
 | .box _ x=>if (ρ x).isJunk=false∧jv (ρ x).cells=true then some (.own S.length 0,S++[.cells (ρ x).cells]) else none
 | .buildSlice t len parts=>kV P S t len (parts.toList.map fun p=>(p.1,ρ p.2))
 | .store t a v=>match vi P S t (ρ a) (ρ v) with
  | some S'=>some (.tup [],S')
  | none=>none
 | .makeMap t r=>o_ P S t (r.map ρ)
 | .makeSlice t l c=>lO P S t (ρ l) (ρ c)
 | .mapUpdate t m k v=>match eC P S t (ρ m) (ρ k) (ρ v) with
  | some S'=>some (.tup [],S')
  | none=>none
 | .insert t m k v=>match eC P S t (ρ m) (ρ k) (ρ v) with
  | some S'=>some (.tup [],S')
  | none=>none
 | .range t x=>vz P S t (ρ x)
 | .call c=>match c.callee,c.args.toList,c.argTypes.toList with
  | .builtin .append,[s,x],[t,tx]=>rK P S t tx (ρ s) (ρ x)
  | .builtin .unsafeString,[p,n],[pt,_]=>lH P S pt (ρ p) (ρ n)
  | _,_,_=>(fZ P S ρ (.call c)).map (fun v=>(v,S))
 | op=>(fZ P S ρ op).map (fun v=>(v,S))
theorem mI(h:cO w0 ι ψ S w){ρ:Operand→AV}{σ:Operand→Value}(hρ:∀ x,VR ι ψ (ρ x) (σ x)){o:Oper}{r:AV}{S':List aH}(he:ew P S ρ o.op=some (r,S')) :
  ∃ ι' ψ' w' nx cv,(execOp σ o).run P w=.ok nx w'∧(nx=.value cv∨(nx=.skip∧cv=undef))∧dW ι ψ ι' ψ'∧cO w0 ι' ψ' S' w'∧VR ι' ψ' r cv:=by
 have pure:∀ (o:Oper),((fZ P S ρ o.op).map fun v=>(v,S))=some (r,S') →
   ∃ ι' ψ' w' nx cv,(execOp σ o).run P w=.ok nx w'∧(nx=.value cv∨(nx=.skip∧cv=undef))∧dW ι ψ ι' ψ'∧cO w0 ι' ψ' S' w'∧VR ι' ψ' r cv:=by
  intro o he
  cases hp:fZ P S ρ o.op with
  | none=>simp [hp] at he
  | some v =>
   simp [hp] at he
   obtain⟨rfl,rfl⟩:=he
   obtain⟨cv,h1,h2⟩:=xu (P:=P) h hρ hp
   exact⟨ι,ψ,w,_,cv,h1,.inl rfl,dW.refl _ _,h,h2⟩
 obtain⟨dst,op,ty,pos,after,guard⟩:=o
 simp only at he
 unfold ew at he
 split at he
 ·next t =>
  split at he
  ·next z hz =>
   split at he
   ·next hl =>
    simp at he
    obtain⟨rfl,rfl⟩:=he
    obtain⟨zv,hzr,hzc⟩:=kK (P:=P) (w:=w) (ι:=ι) (ψ:=ψ) hz
    obtain⟨k1,k2⟩:=CR.newCells h hzc hl t (if pm P t then some t else none) (by intro u e;split at e<;>cases e;rfl)
    exact⟨_,ψ,_,_,_,by simp [execOp,Instr.alloc,hzr,newVar,newRow],.inl rfl,dW.push ι ψ _,k1,k2⟩
   ·cases he
  ·cases he
 ·next t x =>
  split at he
  ·next hc =>
   simp at he
   obtain⟨rfl,rfl⟩:=he
   obtain⟨hs,hvv⟩:=(hρ x).cells (by intro e;rw [e] at hc;simp [AV.isJunk] at hc)
   obtain⟨k1,k2⟩:=CR.newCells h ⟨hs.symm,hvv⟩ hc.2 t
   exact⟨_,ψ,_,_,_,by simp [execOp,Instr.box,newVar,newRow],.inl rfl,dW.push ι ψ _,k1,k2⟩
  ·cases he
 ·next t len parts =>
  obtain⟨ι',ψ',w',cv,h1,h2,h3,h4⟩:=pH (P:=P) h (vs:=parts.map fun p=>(p.1,σ p.2)) χ (fun j p q hp hq=>by
   simp only [aJ,bu,lc,aL] at hp hq
   obtain⟨y,hy,rfl⟩:=hp
   obtain⟨z,hz,rfl⟩:=hq
   rw [hy] at hz;cases hz
   exact⟨rfl,hρ _⟩) he
  exact⟨ι',ψ',w',_,cv,by simp [execOp,h1],.inl rfl,h2,h3,h4⟩
 ·next t a v =>
  split at he
  ·next S2 hst =>
   simp at he
   obtain⟨rfl,rfl⟩:=he
   obtain⟨w',h1,h2⟩:=vh (P:=P) h (hρ a) (hρ v) hst
   exact⟨ι,ψ,w',_,undef,by simp [execOp,h1],.inr ⟨rfl,rfl⟩,dW.refl _ _,h2,.tup _ _ rfl χ⟩
  ·cases he
 ·next t rr =>
  obtain⟨ι',w',cv,h1,h2,h3,h4⟩:=sC (P:=P) h (pN (σ:=σ) hρ rr) he
  exact⟨ι',ψ,w',_,cv,by simp [execOp,h1],.inl rfl,h2,h3,h4⟩
 ·next t l c =>
  obtain⟨ι',ψ',w',cv,h1,h2,h3,h4⟩:=qg (P:=P) h (hρ l) (hρ c) he
  exact⟨ι',ψ',w',_,cv,by simp [execOp,h1],.inl rfl,h2,h3,h4⟩
 ·next t m k v =>
  split at he
  ·next S2 hst =>
   simp at he
   obtain⟨rfl,rfl⟩:=he
   obtain⟨w',h1,h2⟩:=jf (P:=P) h (hρ m) (hρ k) (hρ v) hst
   exact⟨ι,ψ,w',_,undef,by simp [execOp,h1],.inr ⟨rfl,rfl⟩,dW.refl _ _,h2,.tup _ _ rfl χ⟩
  ·cases he
 ·next t m k v =>
  split at he
  ·next S2 hst =>
   simp at he
   obtain⟨rfl,rfl⟩:=he
   obtain⟨w',h1,h2⟩:=jf (P:=P) h (hρ m) (hρ k) (hρ v) hst
   exact⟨ι,ψ,w',_,undef,by simp [execOp,h1],.inr ⟨rfl,rfl⟩,dW.refl _ _,h2,.tup _ _ rfl χ⟩
  ·cases he
 ·next t x =>
  obtain⟨ι',w',cv,h1,h2,h3,h4⟩:=vw (P:=P) h (hρ x) he
  exact⟨ι',ψ,w',_,cv,by simp [execOp,h1],.inl rfl,h2,h3,h4⟩
 ·next c =>
  obtain⟨callee,args,ts⟩:=c
  simp only at he
  split at he
  ·next s x t tx h1 h2 =>
   obtain rfl:args=#[s,x]:=by rw [← cB (xs:=args),h1]
   obtain rfl:ts=#[t,tx]:=by rw [← cB (xs:=ts),h2]
   obtain⟨ι',ψ',w',cv,k1,k2,k3,k4⟩:=t7 (P:=P) (ty:=ty) h (hρ s) (hρ x) he
   exact⟨ι',ψ',w',_,cv,by simp [execOp,resolve,invoke,builtin,k1],.inl rfl,k2,k3,k4⟩
  ·next p n pt it h1 h2 =>
   obtain rfl:args=#[p,n]:=by rw [← cB (xs:=args),h1]
   obtain rfl:ts=#[pt,it]:=by rw [← cB (xs:=ts),h2]
   obtain⟨w',cv,k1,k2,k3⟩:=p5 (P:=P) (it:=it) (ty:=ty) h (hρ p) (hρ n) he
   exact⟨ι,ψ,w',_,cv,by simp [execOp,resolve,invoke,builtin,k1],.inl rfl,dW.refl _ _,k2,k3⟩
  ·exact pure _ he
 ·exact pure _ he
end Go.Fen
namespace Go.Fen
open Go.RowKit
variable {P:Program}{w0 w w':World}{ι:List Pl}{ψ:eo}{S:List aH}
mutual
def AV.noref:AV→Bool
 | .own .. | .oel .. | .sown .. | .mown .. | .yld _=>false
 | .pro cs=>k8 cs
 | .sval _ els=>k8 els
 | .mval es=>vR es
 | .fn _ a c=>k8 a&&k8 c
 | .ifc _ v=>v.noref
 | .agg cs=>k8 cs
 | .tup cs=>k8 cs
 | .dfr cs=>k8 cs
 | _=>true
def k8:List AV→Bool
 | []=>true
 | x::r=>x.noref&&k8 r
def vR:List (AV × AV)→Bool
 | []=>true
 | (a,b)::r=>a.noref&&b.noref&&vR r
end
mutual
def AV.lt(n:Nat):AV→Bool
 | .own a _=>decide (a<n)
 | .oel a ..=>decide (a<n)
 | .sown a ..=>decide (a<n)
 | .mown a=>decide (a<n)
 | .yld a=>decide (a<n)
 | .pro cs=>ltL n cs
 | .sval _ els=>ltL n els
 | .mval es=>nB n es
 | .fn _ a c=>ltL n a&&ltL n c
 | .ifc _ v=>v.lt n
 | .agg cs=>ltL n cs
 | .tup cs=>ltL n cs
 | .dfr cs=>ltL n cs
 | _=>true
def ltL(n:Nat):List AV→Bool
 | []=>true
 | x::r=>x.lt n&&ltL n r
def nB(n:Nat):List (AV × AV)→Bool
 | []=>true
 | (a,b)::r=>a.lt n&&b.lt n&&nB n r
end
theorem c_{n:Nat}{l:List AV}:ltL n l=true↔∀ x∈l,x.lt n=true:=by
 induction l with
 | nil=>simp [ltL]
 | cons x l ih=>simp [ltL,ih]
theorem e_{n:Nat}{l:List (AV × AV)}:nB n l=true↔∀ x∈l,x.1.lt n=true∧x.2.lt n=true:=by
 induction l with
 | nil=>simp [nB]
 | cons x l ih=>obtain⟨a,b⟩:=x;simp [nB,ih]
theorem mS{x y:AV}{n j:Nat}(h:x.lt n=true)(hx:x.cells[j]? = some y):y.lt n=true:=by
 have hm:=ax hx
 cases x<;>first
  | (simp only [AV.cells,a_] at hm;subst hm;exact h)
  | (simp only [AV.cells] at hm;simp only [AV.lt] at h;exact c_.1 h y hm)
theorem VR.lt_len{x:AV}{v:Value}(h:VR ι ψ x v):x.lt ι.length=true:=by
 have pos:∀ {a:Nat}{pl:Pl},ι[a]? = some pl→decide (a<ι.length)=true:=fun h=>by simpa using (af.1 h).1
 induction h with
 | own a off pl h=>exact pos h
 | oel a g i off ad pl h hg hs=>exact pos h
 | sown a g n ad cap pl h hg hs=>exact pos h
 | mown a pl h=>exact pos h
 | yld a pl h=>exact pos h
 | pro cs b o cv h1 h2 ih=>exact c_.2 fun x hx=>by obtain⟨j,hj⟩:=aV hx;exact ih j x hj
 | sval sz full els b o cap cv hsz hcap hf h1 h2 ih =>
  refine c_.2 fun x hx=>?_
  obtain⟨i,hi⟩:=aV hx
  cases x with
  | agg cs=>exact c_.2 fun y hy=>by obtain⟨j,hj⟩:=aV hy;exact ih i _ j y hi hj
  | _=>exact ih i _ 0 _ hi rfl
 | mval es l b ck me hb hp hl hn h1 h2 ih1 ih2 =>
  refine e_.2 fun x hx=>?_
  obtain⟨i,hi⟩:=aV (hp.mem_iff.2 hx)
  have hlt:i<me.size:=by rw [← hl];exact(af.1 hi).1
  exact⟨ih1 i x me[i] hi (by simp [hlt]),ih2 i x me[i] hi (by simp [hlt])⟩
 | fn f first cap vf vc hl1 hl2 h1 h2 ih1 ih2 =>
  simp only [AV.lt,aq]
  refine⟨c_.2 fun x hx=>?_,c_.2 fun x hx=>?_⟩
  ·obtain⟨j,hj⟩:=aV hx
   have hlt:j<vf.size:=by rw [← hl1];exact(af.1 hj).1
   exact ih1 j x vf[j] hj (by simp [hlt])
  ·obtain⟨j,hj⟩:=aV hx
   have hlt:j<vc.size:=by rw [← hl2];exact(af.1 hj).1
   exact ih2 j x vc[j] hj (by simp [hlt])
 | ifc t x v h ih=>exact ih
 | agg cs vs hl h ih =>
  refine c_.2 fun x hx=>?_
  obtain⟨j,hj⟩:=aV hx
  have hlt:j<vs.size:=by rw [← hl];exact(af.1 hj).1
  exact ih j x vs[j] hj (by simp [hlt])
 | tup cs vs hl h ih =>
  refine c_.2 fun x hx=>?_
  obtain⟨j,hj⟩:=aV hx
  have hlt:j<vs.size:=by rw [← hl];exact(af.1 hj).1
  exact ih j x vs[j] hj (by simp [hlt])
 | dfr cs vs hl h ih =>
  refine c_.2 fun x hx=>?_
  obtain⟨j,hj⟩:=aV hx
  have hlt:j<vs.length:=by rw [← hl];exact(af.1 hj).1
  exact ih j x vs[j] hj (by simp [hlt])
 | _=>rfl
theorem VR.take{n:Nat}{x:AV}{v:Value}(h:VR ι ψ x v):x.lt n=true→VR (ι.take n) ψ x v:=by
 have pos:∀ {a:Nat}{pl:Pl},decide (a<n)=true→ι[a]? = some pl→(ι.take n)[a]? = some pl:=fun h1 h2=>by
  rw [bc,if_pos (by simpa using h1)];exact h2
 have mem:∀ {l:List AV}{j:Nat}{x:AV},ltL n l=true→l[j]? = some x→x.lt n=true:=fun h1 h2=>c_.1 h1 _ (ax h2)
 induction h with
 | int k m=>intro _;exact .int k m
 | bool b=>intro _;exact .bool b
 | str s b h=>intro _;exact .str s b h
 | nilp=>intro _;exact .nilp
 | own a off pl h=>intro hl;exact .own a off pl (pos hl h)
 | oel a g i off ad pl h hg hs=>intro hl;exact .oel a g i off ad pl (pos hl h) hg hs
 | pro cs b o cv h1 h2 ih=>intro hl;exact .pro cs b o cv h1 fun j x e=>ih j x e (mem hl e)
 | snil=>intro _;exact .snil
 | svnil full=>intro _;exact .svnil full
 | sve full a cap hf=>intro _;exact .sve full a cap hf
 | sval sz full els b o cap cv hsz hcap hf h1 h2 ih=>intro hl;exact .sval sz full els b o cap cv hsz hcap hf h1 fun i e j x he hj=>ih i e j x he hj (mS (mem hl he) hj)
 | sown a g m ad cap pl h hg hs=>intro hl;exact .sown a g m ad cap pl (pos hl h) hg hs
 | mnil=>intro _;exact .mnil
 | mown a pl h=>intro hl;exact .mown a pl (pos hl h)
 | yld a pl h=>intro hl;exact .yld a pl (pos hl h)
 | mval es l b ck me hb hp hl hn h1 h2 ih1 ih2 =>
  intro hlt
  exact .mval es l b ck me hb hp hl hn (fun i e m he hm=>ih1 i e m he hm (e_.1 hlt _ (hp.mem_iff.1 (ax he))).1) (fun i e m he hm=>ih2 i e m he hm (e_.1 hlt _ (hp.mem_iff.1 (ax he))).2)
 | fn f first cap vf vc hl1 hl2 h1 h2 ih1 ih2 =>
  intro hlt
  simp only [AV.lt,aq] at hlt
  exact .fn f first cap vf vc hl1 hl2 (fun j x v hx hv=>ih1 j x v hx hv (mem hlt.1 hx)) (fun j x v hx hv=>ih2 j x v hx hv (mem hlt.2 hx))
 | fnil=>intro _;exact .fnil
 | ifc t x v h ih=>intro hl;exact .ifc t x v (ih hl)
 | inil=>intro _;exact .inil
 | agg cs vs hl h ih=>intro hlt;exact .agg cs vs hl fun j x v hx hv=>ih j x v hx hv (mem hlt hx)
 | tup cs vs hl h ih=>intro hlt;exact .tup cs vs hl fun j x v hx hv=>ih j x v hx hv (mem hlt hx)
 | dfr cs vs hl h ih=>intro hlt;exact .dfr cs vs hl fun j x v hx hv=>ih j x v hx hv (mem hlt hx)
 | val v h=>intro _;exact .val v h
 | junk v=>intro _;exact .junk v
mutual
theorem AV.lt_of_noref(n:Nat):∀ x:AV,x.noref=true→x.lt n=true
 | .own ..,h=>by simp [AV.noref] at h
 | .oel ..,h=>by simp [AV.noref] at h
 | .sown ..,h=>by simp [AV.noref] at h
 | .mown ..,h=>by simp [AV.noref] at h
 | .yld _,h=>by simp [AV.noref] at h
 | .pro cs,h=>fB n cs h
 | .sval _ els,h=>fB n els h
 | .mval es,h=>pf n es h
 | .fn _ a c,h=>by
  simp only [AV.noref,aq] at h
  simp only [AV.lt,aq]
  exact⟨fB n a h.1,fB n c h.2⟩
 | .ifc _ v,h=>AV.lt_of_noref n v h
 | .agg cs,h=>fB n cs h
 | .tup cs,h=>fB n cs h
 | .dfr cs,h=>fB n cs h
 | .int ..,_=>rfl
 | .bool _,_=>rfl
 | .str _,_=>rfl
 | .nilp,_=>rfl
 | .mnil,_=>rfl
 | .snil,_=>rfl
 | .fnil,_=>rfl
 | .inil,_=>rfl
 | .val _,_=>rfl
 | .junk,_=>rfl
theorem fB(n:Nat):∀ l:List AV,k8 l=true→ltL n l=true
 | [],_=>rfl
 | x::r,h=>by
  simp only [k8,aq] at h
  simp only [ltL,aq]
  exact⟨AV.lt_of_noref n x h.1,fB n r h.2⟩
theorem pf(n:Nat):∀ l:List (AV × AV),vR l=true→nB n l=true
 | [],_=>rfl
 | (a,b)::r,h=>by
  simp only [vR,aq] at h
  simp only [nB,aq]
  exact⟨⟨AV.lt_of_noref n a h.1.1,AV.lt_of_noref n b h.1.2⟩,pf n r h.2⟩
end
mutual
def AV.plain:AV→Bool
 | .own .. | .oel .. | .sown .. | .mown .. | .yld _ | .snil=>false
 | .pro cs=>plainL cs
 | .sval f els=>!f&&plainL els
 | .mval es=>plainP es
 | .fn _ a c=>plainL a&&plainL c
 | .ifc _ v=>v.plain
 | .agg cs=>plainL cs
 | .tup cs=>plainL cs
 | .dfr _=>false
 | _=>true
def plainL:List AV→Bool
 | []=>true
 | x::r=>x.plain&&plainL r
def plainP:List (AV × AV)→Bool
 | []=>true
 | (a,b)::r=>a.plain&&b.plain&&plainP r
end
theorem zb{l:List AV}:plainL l=true↔∀ x∈l,x.plain=true:=by
 induction l with
 | nil=>simp [plainL]
 | cons x l ih=>simp [plainL,ih]
theorem fL{α:Type}{f:α→AV}(h:∀ x,(f x).plain=true)(l:List α):plainL (l.map f)=true:=by
 rw [zb];intro x hx;obtain⟨y,_,rfl⟩:=aN.1 hx;exact h y
def conv(S:List aH)(fr:Nat→Bool):Nat→AV→AV
 | 0,x=>if x.plain then x else .junk
 | d+1,x=>if x.plain then x else
  match x with
  | .sown a g n=>if fr a then (match S[a]? with
    | some (.arr _ sz _ g' els)=>if g=g'∧n=els.length then (if plainL els then .sval false els else (if cI sz (els.map (conv S fr d)) then .sval false (els.map (conv S fr d)) else .junk)) else .junk
    | _=>.junk) else x
  | .snil=>.sval false []
  | .sval _ els=>.sval false els
  | .own a o=>if fr a then (match S[a]? with
    | some (.cells cs _)=>if jv ((cs.drop o).map (conv S fr d)) then .pro ((cs.drop o).map (conv S fr d)) else .junk
    | _=>.junk) else x
  | .mown a=>if fr a then (match S[a]? with
    | some (.mp _ es)=>.mval (es.map fun e=>(e.1,conv S fr d e.2))
    | _=>.junk) else x
  | .mval es=>.mval (es.map fun e=>(e.1,conv S fr d e.2))
  | .agg cs=>.agg (cs.map (conv S fr d))
  | .tup cs=>.tup (cs.map (conv S fr d))
  | .fn f a c=>.fn f (a.map (conv S fr d)) (c.map (conv S fr d))
  | .ifc t v=>.ifc t (conv S fr d v)
  | x=>x
end Go.Fen
namespace Go.Fen
open Go.RowKit
variable {P:Program}{w0 w w':World}{ι:List Pl}{ψ ψ':eo}{S:List aH}
def zW(w:World)(ι:List Pl)(ψ:eo)(S:List aH)(fr:Nat→Bool):Prop :=
 ∀ (a:Nat) (pl:Pl) (B:aH),fr a=true→S[a]? = some B→ι[a]? = some pl→match B with
  | .cells cs _=>∀ j,j<cs.length→ψ.c pl.blk j=w.cell? ⟨pl.blk,j,none⟩
  | .arr _ sz _ _ els=>∀ k j,pl.sv.ownBlock=some k→j<els.length * sz→ψ.c k j=w.cell? ⟨k,j,none⟩
  | .mp _ _=>∃ me c,w.heap[pl.blk]? = some (.map me c)∧ψ.m pl.blk=some (me,c)
  | .obj _=>True
  | .loop ..=>True
  | .mit ..=>True
  | .dead=>True
theorem zF{e:AV}{sz:Nat}(f:Nat→Value)(hl:e.cells.length=sz)(hlf:∀ (j:Nat) (x:AV),e.cells[j]? = some x→x.leaf=true)(hf:∀ (j:Nat) (x:AV),e.cells[j]? = some x→VR ι ψ x (f j)) :
  ∃ c,VR ι ψ e c∧c.cells.size=sz∧∀ j,j<sz→c.cells[j]? = some (f j):=by
 have one:e.cells=[e]→∃ c,VR ι ψ e c∧c.cells.size=sz∧∀ j,j<sz→c.cells[j]? = some (f j):=by
  intro he
  have h0:=hf 0 e (by rw [he];rfl)
  have h1:=h0.oneCell (hlf 0 e (by rw [he];rfl))
  have hs:sz=1:=by rw [← hl,he];rfl
  have hc:(f 0).cells=#[f 0]:=by cases hv:f 0<;>first|rfl|(rw [hv] at h1;simp [zX] at h1)
  refine⟨f 0,h0,by rw [hc,hs];rfl,fun j hj=>?_⟩
  have:j=0:=ω
  subst this
  rw [hc];rfl
 cases e with
 | agg cs =>
  simp only [qA] at hl hlf hf
  refine⟨.agg ((bh sz).map f).toArray,.agg _ _ (by simp [hl]) fun j x v hx hv=>?_,by simp [Cp],fun j hj=>by simp [Cp,hj]⟩
  have hj:j<sz:=by rw [← hl];exact(af.1 hx).1
  simp [hj] at hv
  subst hv;exact hf j x hx
 | _=>exact one rfl
theorem jk(h:cO w0 ι ψ S w)(hle:ψ.le ψ'){fr:Nat→Bool}(hfr:zW w ι ψ' S fr):∀ (d:Nat) (x:AV) (c:Value),VR ι ψ x c→VR ι ψ' (conv S fr d x) c:=by
  have hext:dW ι ψ ι ψ':=⟨(dW.refl ι ψ).pl,hle⟩
  intro d
  induction d with
  | zero =>
    intro x c hx
    simp only [conv]
    split
    · exact hx.mono hext
    · exact .junk c
  | succ d ih =>
    intro x c hx
    simp only [conv]
    split
    · exact hx.mono hext
    · rename_i hnr
      split
      · next a g n =>
        split
        · next hfa =>
          split
          · next e sz fz g' els hS =>
            split
            · next hg =>
              obtain⟨rfl,rfl⟩:=hg
              cases hx with
              | sown _ _ _ ad cap pl hpl hgl hs =>
                obtain⟨⟨hgen,hpsz⟩,hsize,hpos,_,⟨xs,hown,hxs⟩,_⟩:=h.blk a _ pl hS hpl
                have hsv:=hs hgen.symm
                have hfz:=hfr a pl _ hfa hS hpl
                rcases hown.2 with⟨hn,hn0⟩|⟨b,cap',cur,hv,hb',hgg,hncap,_⟩
                · rw [hn] at hsv
                  simp only [g8] at hsv
                  obtain⟨rfl,h0,rfl⟩:=hsv
                  have:els=[]:=bW ω
                  subst this
                  simp only [plainL,if_true,aI]
                  exact .svnil _
                · rw [hv] at hsv
                  simp only [g8] at hsv
                  obtain⟨rfl,_,rfl⟩:=hsv
                  have hob:pl.sv.ownBlock=some b:=by rw [hv];rfl
                  have hxl:xs.length=els.length * sz:=hown.1
                  have cellOf:∀ (i:Nat) (e:AV) (j:Nat) (x:AV),els[i]? = some e→e.cells[j]? = some x→x.leaf=true∧∃ v,xs[i * sz+j]? = some v∧VR ι ψ x v∧ψ'.c b (i * sz+j)=some v:=by
                    intro i e j x he hj
                    obtain⟨hl,v,hv1,hv2,_⟩:=hxs _ x (kA hsize he hj)
                    refine⟨hl,v,hv1,hv2, ?_⟩
                    rw [hfz b (i * sz+j) hob (by rw [← hxl];exact(af.1 hv1).1)]
                    have:=hown.cells (g:=b) hob _ v hv1
                    rw [Addr.add_lit,bG] at this;exact this
                  let cv:Nat→Nat→Value:=fun i j=>(xs[i * sz+j]?).getD undef
                  have hcv:∀ (i:Nat) (e:AV) (j:Nat) (x:AV),els[i]? = some e→e.cells[j]? = some x→x.leaf=true∧VR ι ψ x (cv i j)∧ψ'.c b (0+i * sz+j)=some (cv i j):=by
                    intro i e j x he hj
                    obtain⟨hl,v,hv1,hv2,hv3⟩:=cellOf i e j x he hj
                    refine⟨hl, ?_, ?_⟩
                    · simp only [cv,hv1];exact hv2
                    · simp only [cv,hv1,bG];exact hv3
                  split
                  · exact .sval sz false els b 0 cap cv (fun i e he=>hsize e (ax he)) hncap χ (fun i e j x he hj=>⟨(hcv i e j x he hj).1,(hcv i e j x he hj).2.2⟩) (fun i e j x he hj=>(hcv i e j x he hj).2.1.mono hext)
                  · split
                    · next hok =>
                      have hlen:els.length=(els.map (conv S fr d)).length:=χ
                      rw [hlen]
                      refine .sval sz false _ b 0 cap cv (fun i e he=>fu hok e (ax he)) (by simpa using hncap) χ ?_ ?_
                      all_goals
                        intro i e' j x he' hj
                        simp only [aJ,aL] at he'
                        obtain⟨e,he,rfl⟩:=he'
                        have hel:e.cells.length=sz:=hsize e (ax he)
                        have hjl:j<sz:=by
                          rw [← fu hok (conv S fr d e) (dc (ax he))]
                          exact(af.1 hj).1
                        obtain⟨c',hc1,hc2,hc3⟩:=zF (ι:=ι) (ψ:=ψ) (fun j=>cv i j) hel (fun j x hx=>(hcv i e j x he hx).1) (fun j x hx=>(hcv i e j x he hx).2.1)
                        have hconv:=ih e c' hc1
                        have hnj:conv S fr d e≠.junk:=by
                          intro hjk
                          have:=sA hok (e:=conv S fr d e) (dc (ax he))
                          rw [hjk] at this;simp [AV.isJunk] at this
                        obtain⟨_,hcc⟩:=hconv.cells hnj
                        obtain⟨v,hv1,hv2⟩:=hcc j x hj
                        rw [hc3 j hjl] at hv1;cases hv1
                        first
                          | exact hv2
                          | (refine⟨?_,(hcv i e j _ he (ap ω)).2.2⟩
                             have hm:conv S fr d e∈els.map (conv S fr d):=dc (ax he)
                             have:=aD.1 hok _ hm
                             simp only [aq,aD] at this
                             exact this.2 x (ax hj))
                    · exact .junk _
            · exact .junk _
          · exact .junk _
        · exact hx.mono hext
      · cases hx with
        | snil=>exact .svnil _
      · next f els =>
        cases hx with
        | svnil=>exact .svnil _
        | sve _ ad cap hf=>exact .sve _ ad cap χ
        | sval sz _ _ b o cap cv hsz hcap hf h1 h2 =>
          exact .sval sz false els b o cap cv hsz hcap χ (fun i e j x he hj=>⟨(h1 i e j x he hj).1,hle.1 _ _ _ (h1 i e j x he hj).2⟩) (fun i e j x he hj=>(h2 i e j x he hj).mono hext)
      · next a o =>
        split
        · next hfa =>
          split
          · next cs hS =>
            split
            · next hlf =>
              cases hx with
              | own _ _ pl hpl =>
                obtain⟨_,⟨c,T,hc,hcl,hcv⟩,_⟩:=h.blk a _ pl hS hpl
                have hfz:=hfr a pl _ hfa hS hpl
                refine .pro _ pl.blk o (fun j=>(c[o+j]?).getD undef) (fun j x hx=>?_) (fun j x hx=>?_)
                all_goals
                  have hx0:=hx
                  simp only [aJ,cZ,aL] at hx
                  obtain⟨y,hy,rfl⟩:=hx
                  obtain⟨_,v,hv,hr⟩:=hcv _ y hy
                · refine ⟨jH hlf hx0, ?_⟩
                  rw [hfz (o+j) (af.1 hy).1]
                  simp [qG,hc,hv]
                · simp only [hv, Fs]
                  exact ih y v hr
            · exact .junk _
          · exact .junk _
        · exact hx.mono hext
      · next a =>
        split
        · next hfa =>
          split
          · next fz es hS =>
            cases hx with
            | mown _ pl hpl =>
              obtain⟨h0,hn,⟨me,ck,l,h1,h2,h3,h4,h5⟩,h6⟩:=h.blk a _ pl hS hpl
              obtain⟨me',ck',k1,k2⟩:=hfr a pl _ hfa hS hpl
              rw [h1] at k1;cases k1
              refine .mval _ (l.map fun e=>(e.1,conv S fr d e.2)) _ ck me k2 (h3.map _) (by simpa using h4.1) (by simpa [Fl,aY] using hn) (fun i e m he hm=>?_) (fun i e m he hm=>?_)
              all_goals
                simp only [aJ,aL] at he
                obtain⟨e0,he0,rfl⟩:=he
                obtain⟨r1,r2⟩:=h4.2 i e0 m he0 (by simpa using hm)
              · exact r1.mono hext
              · exact ih _ _ r2
          · exact .junk _
        · exact hx.mono hext
      · next es =>
        cases hx with
        | mval _ l b ck me hb hp hl hn h1 h2 =>
          refine .mval _ (l.map fun e=>(e.1,conv S fr d e.2)) b ck me (hle.2 _ _ hb) (hp.map _) (by simpa using hl) (by simpa [Fl,aY] using hn) (fun i e m he hm=>?_) (fun i e m he hm=>?_)
          all_goals
            simp only [aJ,aL] at he
            obtain⟨e0,he0,rfl⟩:=he
          · exact(h1 i e0 m he0 hm).mono hext
          · exact ih _ _ (h2 i e0 m he0 hm)
      · next cs =>
        obtain⟨vs,rfl,hl,hv⟩:=hx.agg_inv
        refine .agg _ _ (by simpa using hl) fun j x v hx hv'=>?_
        simp only [aJ,aL] at hx
        obtain⟨y,hy,rfl⟩:=hx
        obtain⟨v2,e1,e2⟩:=hv j y hy
        rw [hv'] at e1;cases e1
        exact ih y v e2
      · next cs =>
        obtain⟨vs,rfl,hl,hv⟩:=hx.tup_inv
        refine .tup _ _ (by simpa using hl) fun j x v hx hv'=>?_
        simp only [aJ,aL] at hx
        obtain⟨y,hy,rfl⟩:=hx
        obtain⟨v2,e1,e2⟩:=hv j y hy
        rw [hv'] at e1;cases e1
        exact ih y v e2
      · next f a cc =>
        cases hx with
        | fn _ _ _ vf vc hl1 hl2 h1 h2 =>
          refine .fn _ _ _ _ _ (by simpa using hl1) (by simpa using hl2) (fun j x v hx hv'=>?_) (fun j x v hx hv'=>?_)
          all_goals
            simp only [aJ,aL] at hx
            obtain⟨y,hy,rfl⟩:=hx
          · exact ih y v (h1 j y v hy hv')
          · exact ih y v (h2 j y v hy hv')
      · next t v =>
        cases hx with
        | ifc _ _ c hc=>exact .ifc _ _ _ (ih v c hc)
      · exact hx.mono hext
theorem cO.leave (h:cO w0 ι ψ S w) (n:Nat) (hlt:∀ (i:Nat) (B:aH),i<n→S[i]? = some B→match B with
   | .cells cs _=>ltL n cs=true
   | .arr _ _ _ _ els=>ltL n els=true
   | .obj _=>True
   | .loop _ _ _ tm _ _ _=>tm.all (fun p=>p.2.lt n)=true
   | .mp _ es=>nB n es=true
   | .mit cur es=>nB n es=true∧∀ e,cur=some e→e.1.lt n=true∧e.2.lt n=true
   | .dead=>True) :
  ∃ ψ',ψ.le ψ'∧zW w ι ψ' S (fun a=>decide (n≤a))∧cO w0 (ι.take n) ψ' (S.take n) w:=by
 classical
 let dropped:Nat→Prop:=fun b=>∃ (i:Nat) (B:aH) (pl:Pl),n≤i∧S[i]? = some B∧ι[i]? = some pl∧B.at pl=some b
 let droppedM:Nat→Prop:=fun b=>∃ (i:Nat) (fz:Bool) (es:List (AV × AV)) (pl:Pl),n≤i∧S[i]? = some (.mp fz es)∧ι[i]? = some pl∧pl.blk=b
 let gC:Nat→Option (Array MapEntry × Nat):=fun b=>match w.heap[b]? with
  | some (.map me c)=>some (me,c)
  | _=>none
 let ψ':eo:={ c:=fun b o=>if dropped b then w.cell? ⟨b,o,none⟩ else ψ.c b o,m:=fun b=>if droppedM b then gC b else ψ.m b }
 have hle:ψ.le ψ':=by
  refine⟨fun b o v e=>?_,fun b es e=>?_⟩
  ·simp only [ψ']
   split
   ·exact h.psi b o v e
   ·exact e
  ·simp only [ψ']
   split
   ·obtain⟨hc,_⟩:=h.psim b es.1 es.2 e
    simp only [gC,hc]
   ·exact e
 refine⟨ψ',hle, ?_, ?_⟩
 ·intro a pl B hfa hB hpl
  have ha:n≤a:=by simpa using hfa
  cases B with
  | cells cs ty=>exact fun j _=>by simp only [ψ'];rw [if_pos ⟨a,_,pl,ha,hB,hpl,rfl⟩]
  | arr e sz fz g els=>exact fun k j hk _=>by simp only [ψ'];rw [if_pos ⟨a,_,pl,ha,hB,hpl,hk⟩]
  | mp fz es =>
   obtain⟨h0,hn,⟨me,ck,l,h1,h2,h3,h4,h5⟩,h6⟩:=h.blk a _ pl hB hpl
   exact⟨me,ck,h1,by simp only [ψ'];rw [if_pos ⟨a,fz,es,pl,ha,hB,hpl,rfl⟩];simp only [gC,h1]⟩
  | loop st pend N tm ps asg body=>trivial
  | mit cur rest=>trivial
  | obj o=>trivial
  | dead=>trivial
 ·have getS:∀ {i:Nat}{B:aH},(S.take n)[i]? = some B→i<n∧S[i]? = some B:=by
   intro i B hB
   rw [bc] at hB
   split at hB
   ·exact⟨by assumption,hB⟩
   ·cases hB
  have getι:∀ {i:Nat}{p:Pl},(ι.take n)[i]? = some p→i<n∧ι[i]? = some p:=by
   intro i B hB
   rw [bc] at hB
   split at hB
   ·exact⟨by assumption,hB⟩
   ·cases hB
  have notDropped:∀ {i:Nat}{B:aH}{pl:Pl}{k:Nat},i<n→S[i]? = some B→ι[i]? = some pl→B.at pl=some k→¬ dropped k:=by
   rintro i B pl k hi hB hpl hk ⟨j,C,q,hj,hC,hq,hk2⟩
   have:=h.inj i j B C pl q k hB hC hpl hq hk hk2
   omega
  have notDroppedM:∀ {i:Nat}{B:aH}{pl:Pl}{k:Nat},i<n→S[i]? = some B→ι[i]? = some pl→B.at pl=some k→¬ droppedM k:=by
   rintro i B pl k hi hB hpl hk ⟨j,fz,es,q,hj,hC,hq,hk2⟩
   have:=h.inj i j B _ pl q k hB hC hpl hq hk (by simp [aH.at,hk2])
   omega
  refine⟨h.below,fun b o v e=>?_,fun b es c e=>?_,by simp [h.len],fun i B pl hB hpl=>?_,fun b o v hb0 e=>hle.1 _ _ _ (h.old b o v hb0 e),fun i j B C p q k hB hC hp hq hk1 hk2=>?_⟩
  rotate_left
  ·simp only [ψ'] at e
   split at e
   ·next hd =>
    obtain⟨i,fz,es',pl,hi,hS,hpl,rfl⟩:=hd
    obtain⟨h0,hn,⟨me,ck,l,h1,h2,h3,h4,h5⟩,h6⟩:=h.blk i _ pl hS hpl
    simp only [gC,h1,bl,k_] at e
    obtain⟨rfl,rfl⟩:=e
    exact⟨h1,h2⟩
   ·exact h.psim b es c e
  rotate_left
  rotate_left
  ·simp only [ψ'] at e
   split at e
   ·exact e
   ·exact h.psi b o v e
  ·obtain⟨hi,hB⟩:=getS hB
   obtain⟨_,hpl⟩:=getι hpl
   have hBR:=h.blk i B pl hB hpl
   have hl:=hlt i B hi hB
   have hext:dW ι ψ ι ψ':=⟨(dW.refl ι ψ).pl,hle⟩
   have hsame:∀ k o,B.at pl=some k→ψ'.c k o=ψ.c k o:=fun k o hk=>by simp only [ψ'];rw [if_neg (notDropped hi hB hpl hk)]
   have hBR':=hBR.ext hext (fun _ _=>rfl) hsame (fun k hk=>by simp only [ψ'];rw [if_neg (notDroppedM hi hB hpl hk)])
   cases B with
   | cells cs ty =>
    obtain⟨h0,⟨c,T,h1,h2,h3⟩,h4,h5⟩:=hBR'
    refine⟨h0,⟨c,T,h1,h2,fun j x e=>?_⟩,h4,h5⟩
    obtain⟨hlf,v,hv,hr⟩:=h3 j x e
    exact⟨hlf,v,hv,hr.take (c_.1 hl x (ax e))⟩
   | arr e sz fz g els =>
    obtain⟨hg,hsz,hpos,hfz,⟨xs,hown,hxs⟩,hps⟩:=hBR'
    refine⟨hg,hsz,hpos,hfz,⟨xs,hown,fun j x e=>?_⟩,hps⟩
    obtain⟨hlf,v,hv,hr,hro⟩:=hxs j x e
    refine⟨hlf,v,hv,hr.take ?_,hro⟩
    obtain⟨e',he1,he2⟩:=pw hsz hpos e
    exact mS (c_.1 hl e' (ax he1)) he2
   | obj o=>exact hBR'
   | loop st pend N tm ps asg body =>
    obtain⟨h0,⟨fn,vs,d,h1,h2,h2'⟩,h3,h4⟩:=hBR'
    exact⟨h0,⟨fn,vs,d,h1,h2,fun p hp=>(h2' p hp).take (aD.1 hl p hp)⟩,h3,h4⟩
   | mp fz es =>
    obtain⟨h0,hn,⟨me,c,l,h1,h2,h3,h4,h5⟩,h6⟩:=hBR'
    exact⟨h0,hn,⟨me,c,l,h1,h2,h3,⟨h4.1,fun i e m he hm=>⟨(h4.2 i e m he hm).1.take (e_.1 hl e (h3.mem_iff.1 (ax he))).1,(h4.2 i e m he hm).2.take (e_.1 hl e (h3.mem_iff.1 (ax he))).2⟩⟩,h5⟩,h6⟩
   | mit cur rest =>
    obtain⟨h0,h1,h3,h4⟩:=hBR'
    refine⟨h0, ?_,h3,h4⟩
    rcases h1 with h1|⟨mb,ck,me,seen,l,k1,k2,k4,k5,k6⟩
    ·exact .inl h1
    ·exact .inr ⟨mb,ck,me,seen,l,k1,k2,k4,⟨k5.1,fun i e m he hm=>⟨(k5.2 i e m he hm).1.take (e_.1 hl.1 e (k4.mem_iff.1 (ax he))).1,(k5.2 i e m he hm).2.take (e_.1 hl.1 e (k4.mem_iff.1 (ax he))).2⟩⟩,
      fun e he=>let ⟨b,m,q1,q2,q3,q4⟩:=k6 e he;⟨b,m,q1,q2,q3.take (hl.2 e he).1,q4.take (hl.2 e he).2⟩⟩
   | dead=>trivial
  ·obtain⟨_,hB⟩:=getS hB
   obtain⟨_,hC⟩:=getS hC
   obtain⟨_,hp⟩:=getι hp
   obtain⟨_,hq⟩:=getι hq
   exact h.inj i j B C p q k hB hC hp hq hk1 hk2
theorem cO.share(h:cO w0 ι ψ S w){a:Nat}{e:TypeId}{sz fz g:Nat}{els:List AV}(hS:S[a]? = some (.arr e sz fz g els)) :
  ∃ ψ',ψ.le ψ'∧cO w0 ι ψ' (S.set a (.arr e sz els.length g els)) w:=by
 obtain⟨pl,hpl,hB⟩:=h.get hS
 obtain⟨hgp,hsize,hpos,hfz,⟨xs,hown,hxs⟩,hps⟩:=hB
 have hset:ι.set a pl=ι:=gB hpl
 have hxl:xs.length=els.length * sz:=hown.1
 cases hob:pl.sv.ownBlock with
 | none =>
  refine⟨ψ,eo.le_refl _, ?_⟩
  have key:=h.update (w':=w) (ψ':=ψ) (B':=.arr e sz els.length g els) (pl':=pl) hS hpl (Cx _ _) (fun _ _ _=>rfl) (by rw [hset];exact dW.refl _ _) ?_ (fun k hk=>.inl hk) (fun b o v ev=>.inl ⟨ev,by simp [aH.at,hob]⟩) rfl
  ·rw [hset] at key;exact key
  ·rw [hset]
   refine⟨hgp,hsize,hpos,ba _,⟨xs,hown,fun j x ex=>?_⟩,fun k o hk=>by rw [hob] at hk;cases hk⟩
   obtain⟨h1,v,h2,h3,_⟩:=hxs j x ex
   exact⟨h1,v,h2,h3,fun _ k hk=>by rw [hob] at hk;cases hk⟩
 | some b =>
  have hcell:∀ j v,xs[j]? = some v→w.cell? ⟨b,j,none⟩=some v:=fun j v hv=>by
   have:=hown.cells (g:=b) hob j v hv
   rw [Addr.add_lit,bG] at this;exact this
  have hfl:=dZ hsize
  have hle:ψ.le (ψ.addRow b xs):=eo.le_addRow fun o v e=>by
   have ho:o<fz * sz:=wC fun hge=>by rw [hps b o hob hge] at e;cases e
   have hfb:fz * sz≤els.length * sz:=bK _ hfz
   obtain⟨_,v2,e1,_,e3⟩:=hxs o _ (ap (show o<(ei els).length by omega))
   rw [e3 ho b hob] at e;cases e
   exact e1
  have hext:dW ι ψ ι (ψ.addRow b xs):=⟨(dW.refl ι ψ).pl,hle⟩
  refine⟨ψ.addRow b xs,hle, ?_⟩
  have key:=h.update (w':=w) (ψ':=ψ.addRow b xs) (B':=.arr e sz els.length g els) (pl':=pl) hS hpl (Cx _ _) (fun _ _ _=>rfl) (by rw [hset];exact hext) ?_ (fun k hk=>.inl hk) ?_ rfl
  ·rw [hset] at key;exact key
  ·rw [hset]
   refine⟨hgp,hsize,hpos,ba _,⟨xs,hown,fun j x ex=>?_⟩,fun k o hk ho=>?_⟩
   ·obtain⟨h1,v,h2,h3,_⟩:=hxs j x ex
    exact⟨h1,v,h2,h3.mono hext,fun _ k hk=>by rw [hob] at hk;cases hk;simp [eo.addRow,h2]⟩
   ·rw [hob] at hk;cases hk
    simp [eo.addRow];omega
  ·intro b' o v ev
   simp only [eo.addRow] at ev
   split at ev
   ·next hb=>subst hb;exact .inr ⟨.inl hob,hcell o v ev⟩
   ·next hb=>exact .inl ⟨ev,by simp [aH.at,hob];exact fun e=>hb e.symm⟩
theorem cO.freezeM(h:cO w0 ι ψ S w){a:Nat}{es:List (AV × AV)}(hS:S[a]? = some (.mp false es)) :
  ∃ ψ',ψ.le ψ'∧cO w0 ι ψ' (S.set a (.mp true es)) w:=by
 obtain⟨pl,hpl,hB⟩:=h.get hS
 obtain⟨h0,hn,⟨me,c,l,h1,h2,h3,h4,h5⟩,h6⟩:=hB
 have h5':ψ.m pl.blk=none:=by simpa using h5
 let ψ':eo:={ c:=ψ.c,m:=fun b=>if b=pl.blk then some (me,c) else ψ.m b }
 have hle:ψ.le ψ':=by
  refine⟨fun _ _ _ e=>e,fun b es e=>?_⟩
  simp only [ψ']
  split
  ·next hb=>subst hb;rw [h5'] at e;cases e
  ·exact e
 have hext:dW ι ψ ι ψ':=⟨(dW.refl ι ψ).pl,hle⟩
 have hal:a<S.length:=(af.1 hS).1
 refine⟨ψ',hle,h.below,h.psi,fun b es' c' e=>?_,by simp [h.len],fun i B q hB hq=>?_,fun b o v hb0 e=>hle.1 _ _ _ (h.old b o v hb0 e),fun i j B C p q k hB hC hp hq hk1 hk2=>?_⟩
 ·simp only [ψ'] at e
  split at e
  ·next hb=>subst hb;cases e;exact⟨h1,h2⟩
  ·exact h.psim b es' c' e
 ·by_cases hi:i=a
  ·subst hi
   rw [hpl] at hq;cases hq
   simp [hal] at hB
   subst hB
   exact⟨h0,hn,⟨me,c,l,h1,h2,h3,h4.mono hext,by simp [ψ']⟩,h6⟩
  ·rw [be ω] at hB
   refine(h.blk i B q hB hq).ext hext (fun _ _=>rfl) (fun _ _ _=>rfl) (fun k hk=>?_)
   simp only [ψ']
   rw [if_neg]
   intro e
   exact hi (h.inj i a B _ q pl k hB hS hq hpl hk (by simp [aH.at,e]))
 ·have back:∀ (i:Nat) (B:aH) (p:Pl),(S.set a (.mp true es))[i]? = some B→∃ B0,S[i]? = some B0∧B0.at p=B.at p:=by
   intro i B p hB
   by_cases hi:i=a
   ·subst hi
    simp [hal] at hB
    subst hB
    exact⟨_,hS,rfl⟩
   ·rw [be ω] at hB
    exact⟨B,hB,rfl⟩
  obtain⟨B0,e1,e2⟩:=back i B p hB
  obtain⟨C0,e3,e4⟩:=back j C q hC
  exact h.inj i j B0 C0 p q k e1 e3 hp hq (e2.trans hk1) (e4.trans hk2)
end Go.Fen
