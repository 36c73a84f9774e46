/- YthdbijpefkapnaaGreatDoorWalk21: a part of the proof. -/
import Derived.Test.YthdbijpefkapnaaGreatDoorWalk15
import Derived.Test.YthdbijpefkapnaaGreatDoorWalk20
import Derived.Test.YthdbijpefkapnaaGreatDoorWalk12
import Derived.Test.YthdbijpefkapnaaGreatDoorCore4
import Derived.Test.YthdbijpefkapnaaGreatDoorCards
import Derived.Test.YthdbijpefkapnaaGreatDoorTie
import Derived.ProofKit
import Derived.OpenShut
import Derived.LaidMore
import Derived.Lay
import Derived.SevenTiedAt
import Derived.Stop.Joined
set_option linter.all false
set_option maxHeartbeats 40000000
open And renaming intro → a6
open Array renaming getElem?_toList → bn
open Bool renaming and_eq_true → ao, not_eq_true' → aw, or_eq_true → eF
open Go.IntKind renaming i64 → ae
open Go.IntWalk renaming i64_in → ah
open Go.Lib renaming cells_of_tab → sD, hid → ab, mapM_at → p_, mapM_length → nV
open Go.Value renaming int → eA, oneCell' → yQ
open Go.World renaming var?_cell → El
open List renaming all_eq_true → aC, any_eq_false → Eg, flatMap_cons → ka, getElem?_drop → cS, getElem?_eq_getElem → al, getElem?_eq_none → ce, getElem?_map → aI, getElem?_take → a_, length → iz, length_append → ai, length_cons → aB, length_map → be, length_nil → aL, map_append → aY, map_cons → ap, map_map → Ef, mem_cons → bz, mem_map → aM, mem_of_getElem? → ax, take_add_one → sC, take_of_length_le → dV, take_zero → aP
open List.cons renaming injEq → lV
open Nat renaming zero_le → bf
open Option renaming bind_some → HQ, map_eq_some_iff → aK, map_some → dd
open Option.some renaming inj → bc, injEq → bi
open Prod renaming fst → cG
open UInt8 renaming toNat → aJ
namespace Go.Proofs.YthdbijpefkapnaaGreatDoor
open Go Go.Fen Go.Proofs.Tryz
attribute [local irreducible] aW WP aj dS jl cQ aV cV
set_option maxRecDepth 8000
variable (w0:World) (S:List aH)
theorem zp(L:List Ac)(hl:L.length≤1000000)(R:Rt)(h:R (.ret (.bool true)) S):aj prog w0 21 [.sval false (L.map Ac.av),.sval false (L.map Ac.av)] S R:=by
 have hb0:∀ l:List UInt8,(l==l)=true:=by simp
 have hb1:∀ i:Int,(i==i)=true:=by simp
 have hne:((L.length:Int) != (L.length:Int))=false:=by simp
 have H:=ab h
 have Hl:=ab hl
 clear h hl
 refine eN func21 rfl ntmps21 fun hO=>?_
 repeat' first|refine st ?_|(refine br ?_ ?_<;>intro hb)|fail
 refine cW (fun (i:Nat) env S'=>i≤L.length∧env 1000000=.dfr []∧env 0=.sval false (L.map Ac.av)∧env 1=.sval false (L.map Ac.av)∧env 5=.int .i64 (i:Int)∧S'=S) (fun i=>L.length - i) 0 ?_ ?_
 ·exact⟨bf _,ss,ss,ss,ss,rfl⟩
 ·rintro i env S' ⟨hi,e0,f0,f1,f5,rfl⟩ IH
  have HI:=ab IH
  clear IH
  by_cases hlt:i<L.length
  ·obtain⟨a,hx⟩:∃ a,L[i]? = some a:=⟨_,al hlt⟩
   have h1:decide ((i:Int)<(L.length:Int))=true:=by simpa using hlt
   have hw:ae.wrap ((i:Int)+1)=((i+1:Nat):Int):=by have:=Hl.out;rw [ah _ (by omega)];omega
   obtain⟨k1,k2,k3,k4,k5,k6⟩:=a
   have hav:Ac.av ⟨k1,k2,k3,k4,k5,k6⟩=.agg [.int .i64 k1,.int .i64 k2,.int .i64 k3,.int .i64 k4,.int .i64 k5,.str k6]:=rfl
   have Hlt:=ab hlt
   clear hlt hi
   repeat' first|refine st ?_|(refine br ?_ ?_<;>intro hb)|refine sd ?_|refine sx ?_|apply au|(apply aF;(· decide +kernel))|refine bd ?_ ?_|fail
   all_goals
    refine HI.out (i+1) _ _ (by have:=Hlt.out;omega) ⟨Hlt.out, ?_, ?_, ?_, ?_,rfl⟩
    all_goals (simp only [go_sem, *];try rfl)
  ·have h1:decide ((i:Int)<(L.length:Int))=false:=by simpa using hlt
   clear hlt hi HI
   repeat' first|refine st ?_|(refine br ?_ ?_<;>intro hb)|fail
   refine fR results21 ?_
   exact H.out
theorem P4(k n m:Int)(R:Rt)(h:R (.ret (.agg [.int .i64 k,.int .i64 n,.int .i64 m,.int .i64 0,.int .i64 0,.str []])) S):aj prog w0 20 [.int .i64 k,.int .i64 n,.int .i64 m] S R:=by
 refine eN func20 rfl ntmps20 fun hO=>?_
 repeat' first|refine st ?_|(refine br ?_ ?_<;>intro hb)|fail
 refine fR results20 ?_
 exact h
theorem A1{α β:Type}{f:α→List β}{l:List α}{i:Nat}{x:α}(h:l[i]? = some x):(l.take (i+1)).flatMap f=(l.take i).flatMap f++f x:=by
 rw [sC,h];simp
theorem Gj{α β:Type}(f:α→List β)(l:List α)(i:Nat):((l.take i).flatMap f).length≤(l.flatMap f).length:=by
 have:l.flatMap f=(l.take i).flatMap f++(l.drop i).flatMap f:=by rw [← List.flatMap_append,List.take_append_drop]
 rw [this,ai];omega
def JJ(e:Ev):Bool:=jE e&&(decide (e.text.length≤8192)&&(match od ⟨e.priv,e.inter,e.fin⟩ with|some .pens=>false|_=>true))
theorem P3(w0:World)(hM:lA w0)(hW:ly w0)(hQ:m3 w0)(hQ2:lz w0)(S:List aH)(s:List UInt8)(hs:s.length≤4096)(evs:List Ev)(hf:ez (dg 0) (s.map aJ)=(dg 0,evs))(he:evs.all JJ=true)(L:List Ac)(hL:evs.flatMap uP=L)(hLl:L.length≤100000)
  (R:Rt) (h:R (.ret (.bool true)) S):aj prog w0 19 [.str s,.sval false (L.map Ac.av)] S R:=by
 have hel:evs.length≤10000:=by
  have:=rQ (s.map aJ) (dg 0)
  rw [hf,be] at this
  simp only at this;omega
 have hfd:=fun S'=>Kq w0 S' (dg 0) (s.map aJ) (fF.beg (by decide)) (by rw [be];exact hs) (by intro b hb;obtain⟨x,_,rfl⟩:=aM.1 hb;exact x.toNat_lt) (Fh w0)
 rw [hf,Ef] at hfd
 have hbv:s.map iR=s.map (By∘aJ):=rfl
 rw [← hbv,show (dg 0).av=.agg [.int .i64 0,.sval false [],.int .u8 0,.int .u8 0,.sval false [],.str [],.str [],.bool false] from rfl] at hfd
 simp only at hfd
 have hof:=fun S' (e:Ev) (h:e∈evs)=>by
  have h1:=aC.1 he e h
  unfold JJ at h1
  simp only [ao,decide_eq_true_eq] at h1
  have hsh:nQ e.pars:=by
   have h2:=h1.1
   unfold jE dQ at h2
   simp only [ao,decide_eq_true_eq,aw,Eg] at h2
   refine⟨by omega,fun x hx=>?_⟩
   have:=h2.2.2.2 x hx
   unfold iw at this
   simp only [eF,not_or,decide_eq_true_eq] at this
   omega
  have:=MG w0 hM hW hQ hQ2 S' e hsh h1.2.1 (fun _ _ hp=>by rw [hp] at h1;cases h1.2.2)
  rw [h1.1] at this
  simp only [if_true] at this
  exact this
 have hsm:=II w0
 rw [show (dg 0).av=.agg [.int .i64 0,.sval false [],.int .u8 0,.int .u8 0,.sval false [],.str [],.str [],.bool false] from rfl] at hsm
 have hr9:=fun S'=>zp w0 S' L (by omega)
 have H:=ab h
 have HOf:=ab hof
 have HSm:=ab hsm
 have HR9:=ab hr9
 have HLL:=ab (a6 hL (a6 hLl hel))
 clear h hof hsm hr9 hf hbv hL hLl he hel
 refine eN func19 rfl ntmps19 fun hO=>?_
 repeat' first|refine st ?_|(refine br ?_ ?_<;>intro hb)|fail
 apply n9
 ·(simp only [go_sem, *];try rfl)
 ·rfl
 ·(simp only [go_sem, *];try rfl)
 ·(simp only [go_sem, *];try rfl)
 ·(simp only [go_sem, *];try rfl)
 ·(simp only [go_sem, *];try rfl)
 ·rfl
 simp only [putA]
 have hpl:plainL (s.map iR)=true:=fA (fun _=>rfl) s
 repeat' first|refine st ?_|(refine ca ?_;apply hfd)|(refine br ?_ ?_<;>intro hb)|fail
 refine jp (t:=8) (e:=25) (sz:=6) ss (by decide) ?_
 clear hfd hpl
 refine cW (fun (i:Nat) env S'=>i≤evs.length∧env 1000000=.dfr []∧env 1=.sval false (L.map Ac.av)∧env 5=.own S.length 0∧env 6=.sval false (evs.map Ev.av)∧env 7=.int .i64 0∧env 8=.sown (S.length+1) i ((evs.take i).flatMap uP).length∧env 9=.int .i64 (i:Int) ∧
  S'=S++[.cells [.int .i64 0,.sval false [],.int .u8 0,.int .u8 0,.sval false [],.str [],.str [],.bool false] none,.arr 25 6 0 i (((evs.take i).flatMap uP).map Ac.av)]) (fun i=>evs.length - i) 0 ?_ ?_
 ·exact⟨bf _,ss,ss,ss,ss,ss,by simp only [aP,List.flatMap_nil,aL];(simp only [go_sem, *];try rfl),ss,by simp⟩
 ·rintro i env S' ⟨hi,e0,f1,f5,f6,f7,f8,f9,rfl⟩ IH
  have HI:=ab IH
  clear IH
  by_cases hlt:i<evs.length
  ·obtain⟨e,hx⟩:∃ e,evs[i]? = some e:=⟨_,al hlt⟩
   have h1:decide ((i:Int)<(evs.length:Int))=true:=by simpa using hlt
   have hw:ae.wrap ((i:Int)+1)=((i+1:Nat):Int):=by have:=HLL.out.2.2;rw [ah _ (by omega)];omega
   have Hsu:=ab (A1 (f:=uP) hx)
   have hc:=fun S'=>HOf.out S' e (ax hx)
   have hfl:=Gj uP evs (i+1)
   rw [HLL.out.1,Hsu.out,ai] at hfl
   have hfl2:=HLL.out.2.1
   generalize (evs.take i).flatMap uP=F at hfl Hsu f8 ⊢
   generalize hG:uP e=G at hfl Hsu hc
   have hb:(F.length+G.length) * 56≤140737488355328:=by omega
   have okG:=Ac.ok G
   simp only [cN,AV.cells] at okG
   have Hlt:=ab hlt
   obtain⟨k1,k2,k3,k4,k5,k6,k7⟩:=e
   have hev:Ev.av ⟨k1,k2,k3,k4,k5,k6,k7⟩=.agg [.int .i64 k1,.int .i64 k2,.int .u8 k3,.int .u8 k4,.sval false (k5.map cB),.str k6,.str k7]:=rfl
   rw [hev] at hc
   clear hlt hi hfl hfl2 hG
   repeat' first|refine st ?_|(refine ca ?_;apply hc)|(refine br ?_ ?_<;>intro hb)|fail
   refine HI.out (i+1) _ _ (by have:=Hlt.out;omega) ⟨Hlt.out, ?_, ?_, ?_, ?_, ?_, ?_, ?_, ?_⟩
   ·(simp only [go_sem, *];try rfl)
   ·(simp only [go_sem, *];try rfl)
   ·(simp only [go_sem, *];try rfl)
   ·(simp only [go_sem, *];try rfl)
   ·(simp only [go_sem, *];try rfl)
   ·rw [Hsu.out,ai];(simp only [go_sem, *];try rfl)
   ·(simp only [go_sem, *];try rfl)
   ·rw [Hsu.out,aY]
  ·have h1:decide ((i:Int)<(evs.length:Int))=false:=by simpa using hlt
   have htk:evs.take i=evs:=dV (by omega)
   rw [htk,HLL.out.1] at f8
   rw [htk,HLL.out.1]
   have hsm:=HSm.out
   have hr9:=HR9.out
   have hle:(L.map Ac.av).length=L.length:=by simp
   clear hlt hi htk HI
   repeat' ((fail_if_success (apply cq 10));first|refine st ?_|(refine br ?_ ?_<;>intro hb)|fail)
   refine iA (S.length+1) ss ?_
   repeat' first|refine st ?_|(refine ca ?_;first|apply hsm|apply hr9)|(refine br ?_ ?_<;>intro hb)|fail
   refine fR results19 ?_
   exact H.out
structure o_ (w0:World):Prop where
 hM:lA w0
 hW:ly w0
 hQ:m3 w0
 hP:lz w0
def OJ(s:List UInt8)(L:List Ac):Bool :=
 decide (ez (dg 0) (s.map aJ)=(dg 0,(ez (dg 0) (s.map aJ)).2))&&((ez (dg 0) (s.map aJ)).2.all JJ&&(decide ((ez (dg 0) (s.map aJ)).2.flatMap uP=L)&&(decide (L.length≤1000))))
theorem Kd(w0:World)(hB:o_ w0)(s:List UInt8)(L:List Ac)(hs:s.length≤4096)(h:OJ s L=true)(S:List aH)(R:Rt)(hR:R (.ret (.bool true)) S):aj prog w0 19 [.str s,.sval false (L.map Ac.av)] S R:=by
 unfold OJ at h
 simp only [ao,decide_eq_true_eq] at h
 exact P3 w0 hB.hM hB.hW hB.hQ hB.hP S s hs _ h.1 h.2.1 L h.2.2.1 (by omega) R hR
theorem P_(w0:World)(hB:o_ w0):∀ (S:List aH) (R:Rt),R (.ret (.bool true)) S→aj prog w0 19 [.str [27,91,53,59,48,72,27,91,72],.sval false [.agg [.int .i64 19,.int .i64 5,.int .i64 1,.int .i64 0,.int .i64 0,.str []],.agg [.int .i64 19,.int .i64 1,.int .i64 1,.int .i64 0,.int .i64 0,.str []]]] S R :=
 fun S R h=>Kd w0 hB [27,91,53,59,48,72,27,91,72] [gy 19 5 1,gy 19 1 1] (by decide +kernel) (by decide +kernel) S R h
theorem P9(w0:World)(hB:o_ w0):∀ (S:List aH) (R:Rt),R (.ret (.bool true)) S→aj prog w0 19 [.str [27,91,63,50,53,59,55,108],.sval false [.agg [.int .i64 37,.int .i64 25,.int .i64 0,.int .i64 0,.int .i64 0,.str []],.agg [.int .i64 37,.int .i64 7,.int .i64 0,.int .i64 0,.int .i64 0,.str []]]] S R :=
 fun S R h=>Kd w0 hB [27,91,63,50,53,59,55,108] [gy 37 25 0,gy 37 7 0] (by decide +kernel) (by decide +kernel) S R h
theorem P8(w0:World)(hB:o_ w0):∀ (S:List aH) (R:Rt),R (.ret (.bool true)) S→aj prog w0 19 [.str [27,91,51,75,27,91,50,75],.sval false [.agg [.int .i64 27,.int .i64 2,.int .i64 0,.int .i64 0,.int .i64 0,.str []]]] S R :=
 fun S R h=>Kd w0 hB [27,91,51,75,27,91,50,75] [gy 27 2 0] (by decide +kernel) (by decide +kernel) S R h
theorem P7(w0:World)(hB:o_ w0):∀ (S:List aH) (R:Rt),R (.ret (.bool true)) S→aj prog w0 19 [.str [27,41,48,27,40,65],.sval false [.agg [.int .i64 17,.int .i64 1,.int .i64 1,.int .i64 0,.int .i64 0,.str []]]] S R :=
 fun S R h=>Kd w0 hB [27,41,48,27,40,65] [gy 17 1 1] (by decide +kernel) (by decide +kernel) S R h
theorem P6(w0:World)(hB:o_ w0):∀ (S:List aH) (R:Rt),R (.ret (.bool true)) S→aj prog w0 19 [.str [27,91,63,54,36,112,27,91,52,32,113],.sval false [.agg [.int .i64 43,.int .i64 6,.int .i64 1,.int .i64 0,.int .i64 0,.str []],.agg [.int .i64 40,.int .i64 4,.int .i64 0,.int .i64 0,.int .i64 0,.str []]]] S R :=
 fun S R h=>Kd w0 hB [27,91,63,54,36,112,27,91,52,32,113] [gy 43 6 1,gy 40 4 0] (by decide +kernel) (by decide +kernel) S R h
theorem P5(w0:World)(hB:o_ w0):∀ (S:List aH) (R:Rt),R (.ret (.bool true)) S→aj prog w0 19 [.str [27,93,50,59,116,7,5],.sval false [.agg [.int .i64 44,.int .i64 0,.int .i64 0,.int .i64 0,.int .i64 0,.str [116]]]] S R :=
 fun S R h=>Kd w0 hB [27,93,50,59,116,7,5] [⟨44,0,0,0,0,[116]⟩] (by decide +kernel) (by decide +kernel) S R h
theorem Mq(w0:World)(hB:o_ w0):∀ (S:List aH) (R:Rt),R (.ret (.tup [.sval false [],.int .i64 0])) S→aj prog w0 17 [.agg [.int .i64 1,.int .i64 159,.int .u8 0,.int .u8 0,.sval false [],.str [],.str []]] S R:=by
 intro S R h
 have e1:jE ⟨1,159,0,0,[],[],[]⟩=true:=by decide +kernel
 have e2:uP ⟨1,159,0,0,[],[],[]⟩=[]:=by decide +kernel
 have k:=MG w0 hB.hM hB.hW hB.hQ hB.hP S ⟨1,159,0,0,[],[],[]⟩ ⟨by decide,by simp⟩ (by decide) (fun _ hk=>by cases hk) R
 rw [e1,e2] at k
 exact k h
theorem Jx(w0:World)(hB:o_ w0)(S:List aH)(R:Rt)(h:R (.ret (.bool true)) S):aj prog w0 13 [] S R:=by
 have hac:=P4 w0
 have h9:=Mq w0 hB
 have k0:=P_ w0 hB
 have k1:=P9 w0 hB
 have k2:=P8 w0 hB
 have k3:=P7 w0 hB
 have k4:=P6 w0 hB
 have k5:=P5 w0 hB
 have e0:(((0:Nat):Int)==0)=true:=rfl
 have H:=ab h
 clear h hB
 refine eN func13 rfl ntmps13 fun hO=>?_
 repeat' ((fail_if_success (apply dp 8 rfl));first|refine st ?_|(refine ca ?_;first|apply hac|apply h9)|(refine br ?_ ?_<;>intro hb)|fail)
 refine iA (S.length) ss ?_
 repeat' ((fail_if_success (apply dp 13 rfl));first|refine st ?_|(refine ca ?_;first|apply hac|apply h9|apply k0)|(refine br ?_ ?_<;>intro hb)|fail)
 refine iA (S.length+1) ss ?_
 repeat' ((fail_if_success (apply dp 18 rfl));first|refine st ?_|(refine ca ?_;first|apply hac|apply h9|apply k0|apply k1)|(refine br ?_ ?_<;>intro hb)|fail)
 refine iA (S.length+2) ss ?_
 repeat' ((fail_if_success (apply dp 22 rfl));first|refine st ?_|(refine ca ?_;first|apply hac|apply h9|apply k0|apply k1|apply k2)|(refine br ?_ ?_<;>intro hb)|fail)
 refine iA (S.length+3) ss ?_
 repeat' ((fail_if_success (apply dp 27 rfl));first|refine st ?_|(refine ca ?_;first|apply hac|apply h9|apply k0|apply k1|apply k2|apply k3)|(refine br ?_ ?_<;>intro hb)|fail)
 refine iA (S.length+4) ss ?_
 repeat' ((fail_if_success (apply dp 41 rfl));first|refine st ?_|(refine ca ?_;first|apply hac|apply h9|apply k0|apply k1|apply k2|apply k3|apply k4)|(refine br ?_ ?_<;>intro hb)|fail)
 refine iA (S.length+5) ss ?_
 repeat' first|refine st ?_|(refine ca ?_;first|apply hac|apply h9|apply k0|apply k1|apply k2|apply k3|apply k4|apply k5)|(refine br ?_ ?_<;>intro hb)|fail
 refine fR results13 ?_
 exact H.out
theorem MB(w0:World)(hB:o_ w0)(a:Ac)(v:Int)(hv:(if e_ a then 0 else 200)=v)(hm:Ke a.m)(ht:a.text.length≤10000):∀ (S:List aH) (R:Rt),R (.ret (.int .i64 v)) S→aj prog w0 11 [a.av] S R:=by
 intro S R h
 subst hv
 exact D9 w0 hB.hM hB.hW hB.hQ S a hm ht R h
theorem JZ(w0:World)(hB:o_ w0):∀ (S:List aH) (R:Rt),R (.ret (.int .i64 200)) S→aj prog w0 11 [.agg [.int .i64 19,.int .i64 1,.int .i64 10000,.int .i64 0,.int .i64 0,.str []]] S R :=
 MB w0 hB (gy 19 1 10000) 200 (by decide +kernel) ⟨by decide,by decide⟩ (by decide)
open Go.ChangeShapes Go.WideShapes Go.ChangeAt Go.RowKit
theorem own:ownKnob prog.godebug=none:=by kernel_rfl
theorem jf{P:Program}{W:World}{nm:String}{d:DataW Unit}:∀ {l:List (String × DataW Unit)}{ps:List MemPlace},DataW.LaidVars P W l ps→(nm,d)∈l →
  ∃ g t cs fuel p,P.globalNamed nm=some g∧(P.globals[g]?).map (·.type)=some t∧W.var? P nm=some cs∧DataW.trod (fun _=>()) P W 0 (fun _=>true) false fuel t cs.toList=some (d,p):=by
 intro l
 induction l with
 | nil=>intro ps _ h;cases h
 | cons x l ih =>
  intro ps h hm
  obtain⟨nm',d'⟩:=x
  obtain⟨g,t,cs,fuel,p,q,h1,h2,h3,h4,h5,_⟩:=h
  rcases bz.1 hm with e|hm
  ·cases e;exact⟨g,t,cs,fuel,p,h1,h2,h3,h4⟩
  ·exact ih h5 hm
def da:List (String × DataW Unit):=[("math/bits.deBruijn32tab",Rows.laid_math_bits_deBruijn32tab),("math/bits.deBruijn64tab",Rows.laid_math_bits_deBruijn64tab),("internal/strconv.uint64pow10",Rows.laid_internal_strconv_uint64pow10),("unicode/utf8.acceptRanges",Rows.laid_unicode_utf8_acceptRanges),("strconv.ErrRange",Rows.laid_strconv_ErrRange),("strconv.ErrSyntax",Rows.laid_strconv_ErrSyntax),("fenestra/color.named",Rows.laid_fenestra_color_named),("fenestra/sgr.attrs",Rows.laid_fenestra_sgr_attrs),("fenestra/width.marks",Rows.laid_fenestra_width_marks),("fenestra/width.wides",Rows.laid_fenestra_width_wides),("unicode/utf8.first",Rows.laid_unicode_utf8_first)]
theorem Mx:prog.globalNamed "internal/strconv.uint64pow10" = some 4:=by kernel_rfl
theorem K_:prog.globalNamed "strconv.ErrSyntax" = some 6:=by kernel_rfl
theorem Iu{W:World}(h:laidMetH prog da W):J8 W:=by
 rw [MakeChecks.laidMetH_plain _ _ _ (by kernel_rfl)] at h
 obtain⟨ps,hl,_⟩:=h
 obtain⟨g,t,cs,fuel,p,h1,h2,h3,h4⟩:=jf (nm := "internal/strconv.uint64pow10") (d:=Rows.laid_internal_strconv_uint64pow10) hl (by simp [da])
 obtain rfl:=bc (Mx.symm.trans h1)
 obtain rfl:=bc ((show (prog.globals[4]?).map (·.type)=some 314 by kernel_rfl).symm.trans h2)
 have h5:=sD (k:=.u64) (zs:=Lib.pow10Tab) (Ib) (Ig) (by kernel_rfl) (by kernel_rfl) h4
 unfold J8 Lib.TabIs
 rw [h3,← h5]
theorem Iv{W:World}(h:laidMetH prog da W):D_ W:=by
 rw [MakeChecks.laidMetH_plain _ _ _ (by kernel_rfl)] at h
 obtain⟨ps,hl,_⟩:=h
 obtain⟨g,t,cs,fuel,p,h1,h2,h3,h4⟩:=jf (nm := "strconv.ErrSyntax") (d:=Rows.laid_strconv_ErrSyntax) hl (by simp [da])
 obtain rfl:=bc (K_.symm.trans h1)
 obtain rfl:=bc ((show (prog.globals[6]?).map (·.type)=some 95 by kernel_rfl).symm.trans h2)
 cases fuel with
 | zero=>simp [DataW.trod] at h4
 | succ fuel =>
 simp only [DataW.trod,GZ] at h4
 have hc:=El K_ h3 0
 match hcs:cs.toList,h4 with
 | [.nilIface],_=>exact⟨.nilIface,by rw [hc,← bn,hcs];rfl,.inl rfl⟩
 | [.iface u v],_=>exact⟨.iface u v,by rw [hc,← bn,hcs];rfl,.inr ⟨u,v,rfl⟩⟩
theorem La:prog.globalNamed "strconv.ErrRange" = some 7:=by kernel_rfl
theorem IP{W:World}(h:laidMetH prog da W):J9 W:=by
 rw [MakeChecks.laidMetH_plain _ _ _ (by kernel_rfl)] at h
 obtain⟨ps,hl,_⟩:=h
 obtain⟨g,t,cs,fuel,p,h1,h2,h3,h4⟩:=jf (nm := "strconv.ErrRange") (d:=Rows.laid_strconv_ErrRange) hl (by simp [da])
 obtain rfl:=bc (La.symm.trans h1)
 obtain rfl:=bc ((show (prog.globals[7]?).map (·.type)=some 95 by kernel_rfl).symm.trans h2)
 cases fuel with
 | zero=>simp [DataW.trod] at h4
 | succ fuel =>
 simp only [DataW.trod,GZ] at h4
 have hc:=El La h3 0
 match hcs:cs.toList,h4 with
 | [.nilIface],_=>exact⟨.nilIface,by rw [hc,← bn,hcs];rfl,.inl rfl⟩
 | [.iface u v],_=>exact⟨.iface u v,by rw [hc,← bn,hcs];rfl,.inr ⟨u,v,rfl⟩⟩
theorem Ds{W:World}{nm:String}{g:Nat}{cs:Array Value}{k:IntKind}{zs:List Int}(hg:prog.globalNamed nm=some g)(h:W.var? prog nm=some cs)(hc:cs.toList=zs.map fun z=>eA k z):gl W g=.pro (zs.map fun z=>AV.int k z):=by
 unfold World.var? at h
 rw [hg] at h
 simp only [HQ] at h
 unfold gl
 split at h
 ·next c T fz hh =>
  cases h
  rw [hh]
  simp only [hc]
  have hall:(zs.map fun z=>eA k z).all yQ=true:=by
   rw [aC]
   intro x hx
   obtain⟨z,_,rfl⟩:=aM.1 hx
   rfl
  rw [hall,if_pos rfl,Ef]
  rfl
 ·cases h
theorem Ld:prog.globalNamed "math/bits.deBruijn64tab" = some 11:=by kernel_rfl
theorem Lb:prog.globalNamed "fenestra/color.named" = some 2:=by kernel_rfl
theorem JR{W:World}(h:laidMetH prog da W):zX W:=by
 rw [MakeChecks.laidMetH_plain _ _ _ (by kernel_rfl)] at h
 obtain⟨ps,hl,_⟩:=h
 obtain⟨g,t,cs,fuel,p,h1,h2,h3,h4⟩:=jf (nm := "math/bits.deBruijn64tab") (d:=Rows.laid_math_bits_deBruijn64tab) hl (by simp [da])
 obtain rfl:=bc (Ld.symm.trans h1)
 obtain rfl:=bc ((show (prog.globals[11]?).map (·.type)=some 340 by kernel_rfl).symm.trans h2)
 have h5:=sD (k:=.u8) (zs:=[0,1,56,2,57,49,28,3,61,58,42,50,38,29,17,4,62,47,59,36,45,43,51,22,53,39,33,30,24,18,12,5,63,55,48,27,60,41,37,16,46,35,44,21,52,32,23,11,54,26,40,15,34,20,31,10,25,14,19,9,13,8,7,6]) (Ia) (LY) (by kernel_rfl) (by kernel_rfl) h4
 exact Ds Ld h3 h5
theorem Jq{W:World}(h:laidMetH prog da W):Ek W:=by
 rw [MakeChecks.laidMetH_plain _ _ _ (by kernel_rfl)] at h
 obtain⟨ps,hl,_⟩:=h
 obtain⟨g,t,cs,fuel,p,h1,h2,h3,h4⟩:=jf (nm := "fenestra/color.named") (d:=Rows.laid_fenestra_color_named) hl (by simp [da])
 obtain rfl:=bc (Lb.symm.trans h1)
 obtain rfl:=bc ((show (prog.globals[2]?).map (·.type)=some 285 by kernel_rfl).symm.trans h2)
 have h5:=sD (k:=.i64) (zs:=[0,13434880,52480,13487360,238,13435085,52685,15066597,8355711,16711680,65280,16776960,6053119,16711935,65535,16777215]) (Ie) (Ic) (by kernel_rfl) (by kernel_rfl) h4
 exact Ds Lb h3 h5
theorem C2{W:World}(h:laidMetH prog da W):lz W:=FE W (Iv h) (IP h)
theorem CX{W:World}(h:laidMetH prog da W):m3 W:=Fx W (Iu h) (JR h) (Jq h)
def wB{H:Type}(l:List (Int × Int)):DataW H:=.agg (l.map fun p=>.agg [.lit (.int .i64 p.1),.lit (.int .i64 p.2)])
theorem AG(l:List (Int × Int)):(l.flatMap fun q=>[eA .i64 q.1,eA .i64 q.2]).length=l.length * 2:=by
 induction l with
 | nil=>rfl
 | cons a l ih=>simp only [ka,ai,ih,aB,aL];omega
theorem ya(l:List (Int × Int)):(l.flatMap fun q=>[eA .i64 q.1,eA .i64 q.2]).map rI=en (l.map sw):=by
 induction l with
 | nil=>rfl
 | cons a l ih=>simp only [ka,aY,ih,ap,jL];rfl
theorem mC{H:Type}{enc:TypeId × Value→H}{P:Program}{w:World}{base:Nat}{sp:Nat→Bool}{held:Bool}{fuel:Nat}{t e i:TypeId}{f0 f1:Field}{n:Nat}{cs:List Value}{l:List (Int × Int)}{p:List MemPlace}
  (ht:P.underlying t=some (.array n e)) (he:P.underlying e=some (.struct #[f0,f1])) (h0:f0.type=i∧f0.offset=0) (h1:f1.type=i∧f1.offset=1) (hi:P.underlying i=some (.int .i64)) (hci:P.cellsOf i=1) (hce:P.cellsOf e=2) (hct:P.cellsOf t=n * 2)
  (h:DataW.trod enc P w base sp held fuel t cs=some (wB l,p)):cs=l.flatMap fun q=>[eA .i64 q.1,eA .i64 q.2]:=by
 cases fuel with
 | zero=>simp [DataW.trod] at h
 | succ fuel =>
  simp only [DataW.trod,ht,hce,hct] at h
  split at h
  ·rename_i hl
   obtain⟨xs,hm,hx⟩:=aK.1 h
   have hxs:xs.map (·.1)=l.map fun q=>(DataW.agg [.lit (.int .i64 q.1),.lit (.int .i64 q.2)]:DataW H):=by
    have:=congrArg cG hx
    simpa [wB] using this
   have hxl:xs.length=n:=by simpa using nV hm
   have hzl:l.length=n:=by
    have:=congrArg iz hxs
    simp at this
    omega
   have hfl:=AG l
   have hat:∀ k,k<n→∃ q,l[k]? = some q∧cs[k * 2]? = some (.int .i64 q.1)∧cs[k * 2+1]? = some (.int .i64 q.2):=by
    intro k hk
    obtain⟨b,hb,hf⟩:=p_ hm k k (by simp [hk])
    obtain⟨y0,y1,m,rfl,_,hy0,hy1⟩:=trod_struct2 he hf
    rw [h0.1,h0.2,hci] at hy0
    rw [h1.1,h1.2,hci] at hy1
    obtain⟨z0,c0,rfl,_⟩:=DataW.trod_int hi hy0
    obtain⟨z1,c1,rfl,_⟩:=DataW.trod_int hi hy1
    have g0:cs[k * 2]? = some (.int .i64 z0):=by
     have:=congrArg (·[0]?) c0
     simpa [a_,cS] using this
    have g1:cs[k * 2+1]? = some (.int .i64 z1):=by
     have:=congrArg (·[0]?) c1
     simpa [a_,cS] using this
    have h2:=congrArg (·[k]?) hxs
    simp only [aI,hb,dd] at h2
    cases hq:l[k]? with
    | none=>rw [hq] at h2;cases h2
    | some q =>
     rw [hq] at h2
     simp only [dd,bi,DataW.agg.injEq,lV,DataW.lit.injEq,Lit.int.injEq,true_and,and_true] at h2
     exact⟨q,rfl,by rw [g0,h2.1],by rw [g1,h2.2]⟩
   have hfat:∀ (l:List (Int × Int)) (k:Nat) (q:Int × Int),l[k]? = some q→(l.flatMap fun q=>[eA .i64 q.1,eA .i64 q.2])[k * 2]? = some (.int .i64 q.1)∧(l.flatMap fun q=>[eA .i64 q.1,eA .i64 q.2])[k * 2+1]? = some (.int .i64 q.2):=by
    intro l
    induction l with
    | nil=>intro k q hq;cases hq
    | cons a l ih =>
     intro k q hq
     cases k with
     | zero=>cases hq;exact⟨rfl,rfl⟩
     | succ k =>
      have:=ih k q (by simpa using hq)
      rw [show (k+1) * 2=k * 2+2 by omega]
      simpa [ka] using this
   apply List.ext_getElem?
   intro j
   by_cases hj:j<n * 2
   ·obtain⟨q,hq,a,b⟩:=hat (j / 2) (by omega)
    obtain⟨a',b'⟩:=hfat l (j / 2) q hq
    rcases(by omega:j=j / 2 * 2∨j=j / 2 * 2+1) with e|e
    ·rw [e,a,a']
    ·rw [e,b,b']
   ·rw [ce (by omega),ce (by omega)]
  ·cases h
theorem wR{W:World}{nm:String}{g:Nat}{cs:Array Value}{l:List (Int × Int)}(hg:prog.globalNamed nm=some g)(h:W.var? prog nm=some cs)(hc:cs.toList=l.flatMap fun q=>[eA .i64 q.1,eA .i64 q.2]):gl W g=.pro (en (l.map sw)):=by
 unfold World.var? at h
 rw [hg] at h
 simp only [HQ] at h
 unfold gl
 split at h
 ·next c T fz hh =>
  cases h
  rw [hh]
  simp only [hc]
  have hall:(l.flatMap fun q=>[eA .i64 q.1,eA .i64 q.2]).all yQ=true:=by
   rw [aC]
   intro x hx
   obtain⟨q,_,hx⟩:=List.mem_flatMap.1 hx
   rcases bz.1 hx with rfl|hx
   ·rfl
   ·rcases bz.1 hx with rfl|hx
    ·rfl
    ·cases hx
  rw [hall,if_pos rfl]
  rw [ya]
 ·cases h
theorem Lc:prog.globalNamed "fenestra/width.marks" = some 0:=by kernel_rfl
theorem K9:prog.globalNamed "fenestra/width.wides" = some 1:=by kernel_rfl
theorem Jt{W:World}(h:laidMetH prog da W):lA W:=by
 rw [MakeChecks.laidMetH_plain _ _ _ (by kernel_rfl)] at h
 obtain⟨ps,hl,_⟩:=h
 obtain⟨g,t,cs,fuel,p,h1,h2,h3,h4⟩:=jf (nm := "fenestra/width.marks") (d:=Rows.laid_fenestra_width_marks) hl (by simp [da])
 obtain rfl:=bc (Lc.symm.trans h1)
 obtain rfl:=bc ((show (prog.globals[0]?).map (·.type)=some 103 by kernel_rfl).symm.trans h2)
 have h5:=mC (l:=ig) (xO) (B1) ⟨rfl,rfl⟩ ⟨rfl,rfl⟩ (Ic) (by kernel_rfl) (by kernel_rfl) (by kernel_rfl) h4
 exact wR Lc h3 h5
theorem H5{W:World}(h:laidMetH prog da W):ly W:=by
 rw [MakeChecks.laidMetH_plain _ _ _ (by kernel_rfl)] at h
 obtain⟨ps,hl,_⟩:=h
 obtain⟨g,t,cs,fuel,p,h1,h2,h3,h4⟩:=jf (nm := "fenestra/width.wides") (d:=Rows.laid_fenestra_width_wides) hl (by simp [da])
 obtain rfl:=bc (K9.symm.trans h1)
 obtain rfl:=bc ((show (prog.globals[1]?).map (·.type)=some 105 by kernel_rfl).symm.trans h2)
 have h5:=mC (l:=jO) (BZ) (B1) ⟨rfl,rfl⟩ ⟨rfl,rfl⟩ (Ic) (by kernel_rfl) (by kernel_rfl) (by kernel_rfl) h4
 exact wR K9 h3 h5
theorem GF{W:World}(h:laidMetH prog da W):o_ W:=⟨Jt h,H5 h,CX h,C2 h⟩
theorem F_:laidOutB prog=true:=by kernel_rfl
end Go.Proofs.YthdbijpefkapnaaGreatDoor
