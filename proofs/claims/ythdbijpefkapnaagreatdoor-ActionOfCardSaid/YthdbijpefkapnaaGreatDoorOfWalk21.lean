/- A part of the proof. -/
import Derived.Test.YthdbijpefkapnaaGreatDoorOfWalk20
import Derived.Test.YthdbijpefkapnaaGreatDoorCards
import Derived.Test.YthdbijpefkapnaaGreatDoorTie
import Derived.ProofKit
import Derived.OpenShut
import Derived.LaidMore
import Derived.Lay
import Derived.SevenTiedAt
import Derived.Stop.Joined
set_option linter.all false
set_option maxHeartbeats 40000000
open And renaming intro → a7
open Array renaming getElem?_toList → bu
open Bool renaming and_eq_true → aq, not_eq_true' → ay, or_eq_true → ef
open Go.IntKind renaming i64 → ae
open Go.IntWalk renaming i64_in → ai
open Go.Lib renaming cells_of_tab → tF, hid → ab, mapM_at → qL, mapM_length → oK
open Go.Value renaming int → eK, oneCell' → zX
open Go.World renaming var?_cell → Fr
open List renaming all_eq_true → aD, any_eq_false → Jm, flatMap_cons → kF, getElem?_drop → cZ, getElem?_eq_getElem → ap, getElem?_eq_none → bR, getElem?_map → aJ, getElem?_take → bc, length → jI, length_append → ah, length_cons → aB, length_map → bi, length_nil → aI, map_append → aM, map_cons → al, map_map → Fl, mem_cons → bD, mem_map → aN, mem_of_getElem? → ax, take_add_one → jW, take_of_length_le → dJ, take_zero → aO
open List.cons renaming injEq → mz
open Nat renaming zero_le → bf
open Option renaming bind_some → Jl, map_eq_some_iff → aL, map_some → dp
open Option.some renaming inj → bg, injEq → bl
open Prod renaming fst → cP
open UInt8 renaming toNat → aK
namespace Go.Proofs.YthdbijpefkapnaaGreatDoor
open Go Go.Fen Go.Proofs.Tryz
attribute [local irreducible] aX WP ao dS i7 cJ aU cC
set_option maxRecDepth 8000
variable (w0:World) (S:List aH)
theorem Ay(L:List Ac)(hl:L.length≤1000000)(R:Rt)(h:R (.ret (.bool true)) S):ao prog w0 21 [.sval false (L.map Ac.av),.sval false (L.map Ac.av)] S R:=by
 have hb0:∀ l:List UInt8,(l==l)=true:=χ
 have hb1:∀ i:Int,(i==i)=true:=χ
 have hne:((L.length:Int) != (L.length:Int))=false:=χ
 have H:=ab h
 have Hl:=ab hl
 clear h hl
 refine eN func21 rfl ntmps21 fun hO=>?_
 refine ε0 ?_
 refine cD (fun (i:Nat) env S'=>i≤L.length∧env 1000000=.dfr []∧env 0=.sval false (L.map Ac.av)∧env 1=.sval false (L.map Ac.av)∧env 5=.int .i64 (i:Int)∧S'=S) (fun i=>L.length - i) 0 ?_ ?_
 ·exact⟨bf _,ss,ss,ss,ss,rfl⟩
 ·rintro i env S' ⟨hi,e0,f0,f1,f5,rfl⟩ IH
  have HI:=ab IH
  clear IH
  by_cases hlt:i<L.length
  ·obtain⟨a,hx⟩:∃ a,L[i]? = some a:=⟨_,ap hlt⟩
   have h1:decide ((i:Int)<(L.length:Int))=true:=by simpa using hlt
   have hw:ae.wrap ((i:Int)+1)=((i+1:Nat):Int):=by have:=Hl.out;rw [ai _ ω];omega
   obtain⟨k1,k2,k3,k4,k5,k6⟩:=a
   have hav:Ac.av ⟨k1,k2,k3,k4,k5,k6⟩=.agg [.int .i64 k1,.int .i64 k2,.int .i64 k3,.int .i64 k4,.int .i64 k5,.str k6]:=rfl
   have Hlt:=ab hlt
   clear hlt hi
   repeat' first|refine st ?_|(refine br ?_ ?_<;>intro hb)|refine sd ?_|refine sx ?_|apply aw|(apply aF;(· decide +kernel))|refine bd ?_ ?_|fail
   all_goals
    refine HI.out (i+1) _ _ (by have:=Hlt.out;omega) ⟨Hlt.out, ?_, ?_, ?_, ?_,rfl⟩
    all_goals (simp only [go_sem, *];try rfl)
  ·have h1:decide ((i:Int)<(L.length:Int))=false:=by simpa using hlt
   clear hlt hi HI
   refine ε0 ?_
   refine fR results21 ?_
   exact H.out
theorem Ro(k n m:Int)(R:Rt)(h:R (.ret (.agg [.int .i64 k,.int .i64 n,.int .i64 m,.int .i64 0,.int .i64 0,.str []])) S):ao prog w0 20 [.int .i64 k,.int .i64 n,.int .i64 m] S R:=by
 exact γR0 func20 ntmps20 results20 h
theorem BZ{α β:Type}{f:α→List β}{l:List α}{i:Nat}{x:α}(h:l[i]? = some x):(l.take (i+1)).flatMap f=(l.take i).flatMap f++f x:=by
 rw [jW,h];simp
theorem H_{α β:Type}(f:α→List β)(l:List α)(i:Nat):((l.take i).flatMap f).length≤(l.flatMap f).length:=by
 have:l.flatMap f=(l.take i).flatMap f++(l.drop i).flatMap f:=by rw [← List.flatMap_append,List.take_append_drop]
 rw [this,ah];omega
def K9(e:Ev):Bool:=j7 e&&(decide (e.text.length≤8192)&&(match oY ⟨e.priv,e.inter,e.fin⟩ with|some .pens=>false|_=>true))
theorem Rn(w0:World)(hM:l6 w0)(hW:lY w0)(hQ:nL w0)(hQ2:lZ w0)(S:List aH)(s:List UInt8)(hs:s.length≤4096)(evs:List Ev)(hf:dj (bp 0) (s.map aK)=(bp 0,evs))(he:evs.all K9=true)(L:List Ac)(hL:evs.flatMap vN=L)(hLl:L.length≤100000)
  (R:Rt) (h:R (.ret (.bool true)) S):ao prog w0 19 [.str s,.sval false (L.map Ac.av)] S R:=by
 have hel:evs.length≤10000:=by
  have:=lq (s.map aK) (bp 0)
  rw [hf,bi] at this
  simp only at this;omega
 have hfd:=fun S'=>LX w0 S' (bp 0) (s.map aK) (fj.beg δ) (by rw [bi];exact hs) (by intro b hb;obtain⟨x,_,rfl⟩:=aN.1 hb;exact x.toNat_lt) (Gj w0)
 rw [hf,Fl] at hfd
 have hbv:s.map jm=s.map (By∘aK):=rfl
 rw [← hbv,show (bp 0).av=.agg [.int .i64 0,.sval false [],.int .u8 0,.int .u8 0,.sval false [],.str [],.str [],.bool false] from rfl] at hfd
 simp only at hfd
 have hof:=fun S' (e:Ev) (h:e∈evs)=>by
  have h1:=aD.1 he e h
  unfold K9 at h1
  simp only [aq,decide_eq_true_eq] at h1
  have hsh:oE e.pars:=by
   have h2:=h1.1
   unfold j7 db at h2
   simp only [aq,decide_eq_true_eq,ay,Jm] at h2
   refine⟨ω,fun x hx=>?_⟩
   have:=h2.2.2.2 x hx
   unfold iz at this
   simp only [ef,not_or,decide_eq_true_eq] at this
   omega
  have:=N7 w0 hM hW hQ hQ2 S' e hsh h1.2.1 (fun _ _ hp=>by rw [hp] at h1;cases h1.2.2)
  rw [h1.1] at this
  simp only [if_true] at this
  exact this
 have hsm:=JY w0
 rw [show (bp 0).av=.agg [.int .i64 0,.sval false [],.int .u8 0,.int .u8 0,.sval false [],.str [],.str [],.bool false] from rfl] at hsm
 have hr9:=fun S'=>Ay w0 S' L ω
 have H:=ab h
 have HOf:=ab hof
 have HSm:=ab hsm
 have HR9:=ab hr9
 have HLL:=ab (a7 hL (a7 hLl hel))
 clear h hof hsm hr9 hf hbv hL hLl he hel
 refine eN func19 rfl ntmps19 fun hO=>?_
 refine ε0 ?_
 apply oU
 ·exact ss
 ·rfl
 ·exact ss
 ·exact ss
 ·exact ss
 ·exact ss
 ·rfl
 simp only [putA]
 have hpl:plainL (s.map jm)=true:=fL (fun _=>rfl) s
 refine ε1 hfd ?_
 refine ij (t:=8) (e:=25) (sz:=6) ss δ ?_
 clear hfd hpl
 refine cD (fun (i:Nat) env S'=>i≤evs.length∧env 1000000=.dfr []∧env 1=.sval false (L.map Ac.av)∧env 5=.own S.length 0∧env 6=.sval false (evs.map Ev.av)∧env 7=.int .i64 0∧env 8=.sown (S.length+1) i ((evs.take i).flatMap vN).length∧env 9=.int .i64 (i:Int) ∧
  S'=S++[.cells [.int .i64 0,.sval false [],.int .u8 0,.int .u8 0,.sval false [],.str [],.str [],.bool false] none,.arr 25 6 0 i (((evs.take i).flatMap vN).map Ac.av)]) (fun i=>evs.length - i) 0 ?_ ?_
 ·exact⟨bf _,ss,ss,ss,ss,ss,by simp only [aO,List.flatMap_nil,aI];(simp only [go_sem, *];try rfl),ss,χ⟩
 ·rintro i env S' ⟨hi,e0,f1,f5,f6,f7,f8,f9,rfl⟩ IH
  have HI:=ab IH
  clear IH
  by_cases hlt:i<evs.length
  ·obtain⟨e,hx⟩:∃ e,evs[i]? = some e:=⟨_,ap hlt⟩
   have h1:decide ((i:Int)<(evs.length:Int))=true:=by simpa using hlt
   have hw:ae.wrap ((i:Int)+1)=((i+1:Nat):Int):=by have:=HLL.out.2.2;rw [ai _ ω];omega
   have Hsu:=ab (BZ (f:=vN) hx)
   have hc:=fun S'=>HOf.out S' e (ax hx)
   have hfl:=H_ vN evs (i+1)
   rw [HLL.out.1,Hsu.out,ah] at hfl
   have hfl2:=HLL.out.2.1
   generalize (evs.take i).flatMap vN=F at hfl Hsu f8 ⊢
   generalize hG:vN e=G at hfl Hsu hc
   have hb:(F.length+G.length) * 56≤140737488355328:=ω
   have okG:=Ac.ok G
   simp only [cI,AV.cells] at okG
   have Hlt:=ab hlt
   obtain⟨k1,k2,k3,k4,k5,k6,k7⟩:=e
   have hev:Ev.av ⟨k1,k2,k3,k4,k5,k6,k7⟩=.agg [.int .i64 k1,.int .i64 k2,.int .u8 k3,.int .u8 k4,.sval false (k5.map ct),.str k6,.str k7]:=rfl
   rw [hev] at hc
   clear hlt hi hfl hfl2 hG
   refine ε1 hc ?_
   refine HI.out (i+1) _ _ (by have:=Hlt.out;omega) ⟨Hlt.out, ?_, ?_, ?_, ?_, ?_, ?_, ?_, ?_⟩
   ·exact ss
   ·exact ss
   ·exact ss
   ·exact ss
   ·exact ss
   ·rw [Hsu.out,ah];(simp only [go_sem, *];try rfl)
   ·exact ss
   ·rw [Hsu.out,aM]
  ·have h1:decide ((i:Int)<(evs.length:Int))=false:=by simpa using hlt
   have htk:evs.take i=evs:=dJ ω
   rw [htk,HLL.out.1] at f8
   rw [htk,HLL.out.1]
   have hsm:=HSm.out
   have hr9:=HR9.out
   have hle:(L.map Ac.av).length=L.length:=χ
   clear hlt hi htk HI
   repeat' ((fail_if_success (apply ci 10));first|refine st ?_|(refine br ?_ ?_<;>intro hb)|fail)
   refine i8 (S.length+1) ss ?_
   refine ε2 hsm hr9 ?_
   refine fR results19 ?_
   exact H.out
structure pP (w0:World):Prop where
 hM:l6 w0
 hW:lY w0
 hQ:nL w0
 hP:lZ w0
def Qa(s:List UInt8)(L:List Ac):Bool :=
 decide (dj (bp 0) (s.map aK)=(bp 0,(dj (bp 0) (s.map aK)).2))&&((dj (bp 0) (s.map aK)).2.all K9&&(decide ((dj (bp 0) (s.map aK)).2.flatMap vN=L)&&(decide (L.length≤1000))))
theorem LI(w0:World)(hB:pP w0)(s:List UInt8)(L:List Ac)(hs:s.length≤4096)(h:Qa s L=true)(S:List aH)(R:Rt)(hR:R (.ret (.bool true)) S):ao prog w0 19 [.str s,.sval false (L.map Ac.av)] S R:=by
 unfold Qa at h
 simp only [aq,decide_eq_true_eq] at h
 exact Rn w0 hB.hM hB.hW hB.hQ hB.hP S s hs _ h.1 h.2.1 L h.2.2.1 ω R hR
theorem Rv(w0:World)(hB:pP w0):∀ (S:List aH) (R:Rt),R (.ret (.bool true)) S→ao prog w0 19 [.str [27,91,53,59,48,72,27,91,72],.sval false [.agg [.int .i64 19,.int .i64 5,.int .i64 1,.int .i64 0,.int .i64 0,.str []],.agg [.int .i64 19,.int .i64 1,.int .i64 1,.int .i64 0,.int .i64 0,.str []]]] S R :=
 fun S R h=>LI w0 hB [27,91,53,59,48,72,27,91,72] [gP 19 5 1,gP 19 1 1] (by decide +kernel) (by decide +kernel) S R h
theorem Ru(w0:World)(hB:pP w0):∀ (S:List aH) (R:Rt),R (.ret (.bool true)) S→ao prog w0 19 [.str [27,91,63,50,53,59,55,108],.sval false [.agg [.int .i64 37,.int .i64 25,.int .i64 0,.int .i64 0,.int .i64 0,.str []],.agg [.int .i64 37,.int .i64 7,.int .i64 0,.int .i64 0,.int .i64 0,.str []]]] S R :=
 fun S R h=>LI w0 hB [27,91,63,50,53,59,55,108] [gP 37 25 0,gP 37 7 0] (by decide +kernel) (by decide +kernel) S R h
theorem Rs(w0:World)(hB:pP w0):∀ (S:List aH) (R:Rt),R (.ret (.bool true)) S→ao prog w0 19 [.str [27,91,51,75,27,91,50,75],.sval false [.agg [.int .i64 27,.int .i64 2,.int .i64 0,.int .i64 0,.int .i64 0,.str []]]] S R :=
 fun S R h=>LI w0 hB [27,91,51,75,27,91,50,75] [gP 27 2 0] (by decide +kernel) (by decide +kernel) S R h
theorem Rr(w0:World)(hB:pP w0):∀ (S:List aH) (R:Rt),R (.ret (.bool true)) S→ao prog w0 19 [.str [27,41,48,27,40,65],.sval false [.agg [.int .i64 17,.int .i64 1,.int .i64 1,.int .i64 0,.int .i64 0,.str []]]] S R :=
 fun S R h=>LI w0 hB [27,41,48,27,40,65] [gP 17 1 1] (by decide +kernel) (by decide +kernel) S R h
theorem Rq(w0:World)(hB:pP w0):∀ (S:List aH) (R:Rt),R (.ret (.bool true)) S→ao prog w0 19 [.str [27,91,63,54,36,112,27,91,52,32,113],.sval false [.agg [.int .i64 43,.int .i64 6,.int .i64 1,.int .i64 0,.int .i64 0,.str []],.agg [.int .i64 40,.int .i64 4,.int .i64 0,.int .i64 0,.int .i64 0,.str []]]] S R :=
 fun S R h=>LI w0 hB [27,91,63,54,36,112,27,91,52,32,113] [gP 43 6 1,gP 40 4 0] (by decide +kernel) (by decide +kernel) S R h
theorem Rp(w0:World)(hB:pP w0):∀ (S:List aH) (R:Rt),R (.ret (.bool true)) S→ao prog w0 19 [.str [27,93,50,59,116,7,5],.sval false [.agg [.int .i64 44,.int .i64 0,.int .i64 0,.int .i64 0,.int .i64 0,.str [116]]]] S R :=
 fun S R h=>LI w0 hB [27,93,50,59,116,7,5] [⟨44,0,0,0,0,[116]⟩] (by decide +kernel) (by decide +kernel) S R h
theorem NS(w0:World)(hB:pP w0):∀ (S:List aH) (R:Rt),R (.ret (.tup [.sval false [],.int .i64 0])) S→ao prog w0 17 [.agg [.int .i64 1,.int .i64 159,.int .u8 0,.int .u8 0,.sval false [],.str [],.str []]] S R:=by
 intro S R h
 have e1:j7 ⟨1,159,0,0,[],[],[]⟩=true:=by decide +kernel
 have e2:vN ⟨1,159,0,0,[],[],[]⟩=[]:=by decide +kernel
 have k:=N7 w0 hB.hM hB.hW hB.hQ hB.hP S ⟨1,159,0,0,[],[],[]⟩ ⟨δ,χ⟩ δ (fun _ hk=>by cases hk) R
 rw [e1,e2] at k
 exact k h
theorem KR(w0:World)(hB:pP w0)(S:List aH)(R:Rt)(h:R (.ret (.bool true)) S):ao prog w0 13 [] S R:=by
 have hac:=Ro w0
 have h9:=NS w0 hB
 have k0:=Rv w0 hB
 have k1:=Ru w0 hB
 have k2:=Rs w0 hB
 have k3:=Rr w0 hB
 have k4:=Rq w0 hB
 have k5:=Rp w0 hB
 have e0:(((0:Nat):Int)==0)=true:=rfl
 have H:=ab h
 clear h hB
 refine eN func13 rfl ntmps13 fun hO=>?_
 repeat' ((fail_if_success (apply dk 8 rfl));first|refine st ?_|(refine ca ?_;first|apply hac|apply h9)|(refine br ?_ ?_<;>intro hb)|fail)
 refine i8 (S.length) ss ?_
 repeat' ((fail_if_success (apply dk 13 rfl));first|refine st ?_|(refine ca ?_;first|apply hac|apply h9|apply k0)|(refine br ?_ ?_<;>intro hb)|fail)
 refine i8 (S.length+1) ss ?_
 repeat' ((fail_if_success (apply dk 18 rfl));first|refine st ?_|(refine ca ?_;first|apply hac|apply h9|apply k0|apply k1)|(refine br ?_ ?_<;>intro hb)|fail)
 refine i8 (S.length+2) ss ?_
 repeat' ((fail_if_success (apply dk 22 rfl));first|refine st ?_|(refine ca ?_;first|apply hac|apply h9|apply k0|apply k1|apply k2)|(refine br ?_ ?_<;>intro hb)|fail)
 refine i8 (S.length+3) ss ?_
 repeat' ((fail_if_success (apply dk 27 rfl));first|refine st ?_|(refine ca ?_;first|apply hac|apply h9|apply k0|apply k1|apply k2|apply k3)|(refine br ?_ ?_<;>intro hb)|fail)
 refine i8 (S.length+4) ss ?_
 repeat' ((fail_if_success (apply dk 41 rfl));first|refine st ?_|(refine ca ?_;first|apply hac|apply h9|apply k0|apply k1|apply k2|apply k3|apply k4)|(refine br ?_ ?_<;>intro hb)|fail)
 refine i8 (S.length+5) ss ?_
 repeat' first|refine st ?_|(refine ca ?_;first|apply hac|apply h9|apply k0|apply k1|apply k2|apply k3|apply k4|apply k5)|(refine br ?_ ?_<;>intro hb)|fail
 refine fR results13 ?_
 exact H.out
theorem N2(w0:World)(hB:pP w0)(a:Ac)(v:Int)(hv:(if fm a then 0 else 200)=v)(hm:LJ a.m)(ht:a.text.length≤10000):∀ (S:List aH) (R:Rt),R (.ret (.int .i64 v)) S→ao prog w0 11 [a.av] S R:=by
 intro S R h
 subst hv
 exact Fc w0 hB.hM hB.hW hB.hQ S a hm ht R h
theorem Lr(w0:World)(hB:pP w0):∀ (S:List aH) (R:Rt),R (.ret (.int .i64 200)) S→ao prog w0 11 [.agg [.int .i64 19,.int .i64 1,.int .i64 10000,.int .i64 0,.int .i64 0,.str []]] S R :=
 N2 w0 hB (gP 19 1 10000) 200 (by decide +kernel) ⟨δ,δ⟩ δ
open Go.ChangeShapes Go.WideShapes Go.ChangeAt Go.RowKit
theorem own:ownKnob prog.godebug=none:=by kernel_rfl
theorem jC{P:Program}{W:World}{nm:String}{d:DataW Unit}:∀ {l:List (String × DataW Unit)}{ps:List MemPlace},DataW.LaidVars P W l ps→(nm,d)∈l →
  ∃ g t cs fuel p,P.globalNamed nm=some g∧(P.globals[g]?).map (·.type)=some t∧W.var? P nm=some cs∧DataW.trod (fun _=>()) P W 0 (fun _=>true) false fuel t cs.toList=some (d,p):=by
 intro l
 induction l with
 | nil=>intro ps _ h;cases h
 | cons x l ih =>
  intro ps h hm
  obtain⟨nm',d'⟩:=x
  obtain⟨g,t,cs,fuel,p,q,h1,h2,h3,h4,h5,_⟩:=h
  rcases bD.1 hm with e|hm
  ·cases e;exact⟨g,t,cs,fuel,p,h1,h2,h3,h4⟩
  ·exact ih h5 hm
def dh:List (String × DataW Unit):=[("math/bits.deBruijn32tab",Rows.laid_math_bits_deBruijn32tab),("math/bits.deBruijn64tab",Rows.laid_math_bits_deBruijn64tab),("internal/strconv.uint64pow10",Rows.laid_internal_strconv_uint64pow10),("unicode/utf8.acceptRanges",Rows.laid_unicode_utf8_acceptRanges),("strconv.ErrRange",Rows.laid_strconv_ErrRange),("strconv.ErrSyntax",Rows.laid_strconv_ErrSyntax),("fenestra/color.named",Rows.laid_fenestra_color_named),("fenestra/sgr.attrs",Rows.laid_fenestra_sgr_attrs),("fenestra/width.marks",Rows.laid_fenestra_width_marks),("fenestra/width.wides",Rows.laid_fenestra_width_wides),("unicode/utf8.first",Rows.laid_unicode_utf8_first)]
theorem NY:prog.globalNamed "internal/strconv.uint64pow10" = some 4:=by kernel_rfl
theorem MD:prog.globalNamed "strconv.ErrSyntax" = some 6:=by kernel_rfl
theorem JN{W:World}(h:laidMetH prog dh W):LC W:=by
 rw [MakeChecks.laidMetH_plain _ _ _ (by kernel_rfl)] at h
 obtain⟨ps,hl,_⟩:=h
 obtain⟨g,t,cs,fuel,p,h1,h2,h3,h4⟩:=jC (nm := "internal/strconv.uint64pow10") (d:=Rows.laid_internal_strconv_uint64pow10) hl (by simp [dh])
 obtain rfl:=bg (NY.symm.trans h1)
 obtain rfl:=bg ((show (prog.globals[4]?).map (·.type)=some 314 by kernel_rfl).symm.trans h2)
 have h5:=tF (k:=.u64) (zs:=Lib.pow10Tab) (Jz) (JC) (by kernel_rfl) (by kernel_rfl) h4
 unfold LC Lib.TabIs
 rw [h3,← h5]
theorem JO{W:World}(h:laidMetH prog dh W):Fe W:=by
 rw [MakeChecks.laidMetH_plain _ _ _ (by kernel_rfl)] at h
 obtain⟨ps,hl,_⟩:=h
 obtain⟨g,t,cs,fuel,p,h1,h2,h3,h4⟩:=jC (nm := "strconv.ErrSyntax") (d:=Rows.laid_strconv_ErrSyntax) hl (by simp [dh])
 obtain rfl:=bg (MD.symm.trans h1)
 obtain rfl:=bg ((show (prog.globals[6]?).map (·.type)=some 95 by kernel_rfl).symm.trans h2)
 cases fuel with
 | zero=>simp [DataW.trod] at h4
 | succ fuel =>
 simp only [DataW.trod,IY] at h4
 have hc:=Fr MD h3 0
 match hcs:cs.toList,h4 with
 | [.nilIface],_=>exact⟨.nilIface,by rw [hc,← bu,hcs];rfl,.inl rfl⟩
 | [.iface u v],_=>exact⟨.iface u v,by rw [hc,← bu,hcs];rfl,.inr ⟨u,v,rfl⟩⟩
theorem ME:prog.globalNamed "strconv.ErrRange" = some 7:=by kernel_rfl
theorem J3{W:World}(h:laidMetH prog dh W):LD W:=by
 rw [MakeChecks.laidMetH_plain _ _ _ (by kernel_rfl)] at h
 obtain⟨ps,hl,_⟩:=h
 obtain⟨g,t,cs,fuel,p,h1,h2,h3,h4⟩:=jC (nm := "strconv.ErrRange") (d:=Rows.laid_strconv_ErrRange) hl (by simp [dh])
 obtain rfl:=bg (ME.symm.trans h1)
 obtain rfl:=bg ((show (prog.globals[7]?).map (·.type)=some 95 by kernel_rfl).symm.trans h2)
 cases fuel with
 | zero=>simp [DataW.trod] at h4
 | succ fuel =>
 simp only [DataW.trod,IY] at h4
 have hc:=Fr ME h3 0
 match hcs:cs.toList,h4 with
 | [.nilIface],_=>exact⟨.nilIface,by rw [hc,← bu,hcs];rfl,.inl rfl⟩
 | [.iface u v],_=>exact⟨.iface u v,by rw [hc,← bu,hcs];rfl,.inr ⟨u,v,rfl⟩⟩
theorem Eu{W:World}{nm:String}{g:Nat}{cs:Array Value}{k:IntKind}{zs:List Int}(hg:prog.globalNamed nm=some g)(h:W.var? prog nm=some cs)(hc:cs.toList=zs.map fun z=>eK k z):gl W g=.pro (zs.map fun z=>AV.int k z):=by
 unfold World.var? at h
 rw [hg] at h
 simp only [Jl] at h
 unfold gl
 split at h
 ·next c T fz hh =>
  cases h
  rw [hh]
  simp only [hc]
  have hall:(zs.map fun z=>eK k z).all zX=true:=by
   rw [aD]
   intro x hx
   obtain⟨z,_,rfl⟩:=aN.1 hx
   rfl
  rw [hall,if_pos rfl,Fl]
  rfl
 ·cases h
theorem MH:prog.globalNamed "math/bits.deBruijn64tab" = some 11:=by kernel_rfl
theorem MF:prog.globalNamed "fenestra/color.named" = some 2:=by kernel_rfl
theorem Li{W:World}(h:laidMetH prog dh W):A6 W:=by
 rw [MakeChecks.laidMetH_plain _ _ _ (by kernel_rfl)] at h
 obtain⟨ps,hl,_⟩:=h
 obtain⟨g,t,cs,fuel,p,h1,h2,h3,h4⟩:=jC (nm := "math/bits.deBruijn64tab") (d:=Rows.laid_math_bits_deBruijn64tab) hl (by simp [dh])
 obtain rfl:=bg (MH.symm.trans h1)
 obtain rfl:=bg ((show (prog.globals[11]?).map (·.type)=some 340 by kernel_rfl).symm.trans h2)
 have h5:=tF (k:=.u8) (zs:=[0,1,56,2,57,49,28,3,61,58,42,50,38,29,17,4,62,47,59,36,45,43,51,22,53,39,33,30,24,18,12,5,63,55,48,27,60,41,37,16,46,35,44,21,52,32,23,11,54,26,40,15,34,20,31,10,25,14,19,9,13,8,7,6]) (Jy) (Nq) (by kernel_rfl) (by kernel_rfl) h4
 exact Eu MH h3 h5
theorem KK{W:World}(h:laidMetH prog dh W):Fq W:=by
 rw [MakeChecks.laidMetH_plain _ _ _ (by kernel_rfl)] at h
 obtain⟨ps,hl,_⟩:=h
 obtain⟨g,t,cs,fuel,p,h1,h2,h3,h4⟩:=jC (nm := "fenestra/color.named") (d:=Rows.laid_fenestra_color_named) hl (by simp [dh])
 obtain rfl:=bg (MF.symm.trans h1)
 obtain rfl:=bg ((show (prog.globals[2]?).map (·.type)=some 285 by kernel_rfl).symm.trans h2)
 have h5:=tF (k:=.i64) (zs:=[0,13434880,52480,13487360,238,13435085,52685,15066597,8355711,16711680,65280,16776960,6053119,16711935,65535,16777215]) (JB) (JA) (by kernel_rfl) (by kernel_rfl) h4
 exact Eu MF h3 h5
theorem D2{W:World}(h:laidMetH prog dh W):lZ W:=GU W (JO h) (J3 h)
theorem DY{W:World}(h:laidMetH prog dh W):nL W:=GM W (JN h) (Li h) (KK h)
def xA{H:Type}(l:List (Int × Int)):DataW H:=.agg (l.map fun p=>.agg [.lit (.int .i64 p.1),.lit (.int .i64 p.2)])
theorem BI(l:List (Int × Int)):(l.flatMap fun q=>[eK .i64 q.1,eK .i64 q.2]).length=l.length * 2:=by
 induction l with
 | nil=>rfl
 | cons a l ih=>simp only [kF,ah,ih,aB,aI];omega
theorem zd(l:List (Int × Int)):(l.flatMap fun q=>[eK .i64 q.1,eK .i64 q.2]).map sG=ei (l.map tv):=by
 induction l with
 | nil=>rfl
 | cons a l ih=>simp only [kF,aM,ih,al,kh];rfl
theorem m_{H:Type}{enc:TypeId × Value→H}{P:Program}{w:World}{base:Nat}{sp:Nat→Bool}{held:Bool}{fuel:Nat}{t e i:TypeId}{f0 f1:Field}{n:Nat}{cs:List Value}{l:List (Int × Int)}{p:List MemPlace}
  (ht:P.underlying t=some (.array n e)) (he:P.underlying e=some (.struct #[f0,f1])) (h0:f0.type=i∧f0.offset=0) (h1:f1.type=i∧f1.offset=1) (hi:P.underlying i=some (.int .i64)) (hci:P.cellsOf i=1) (hce:P.cellsOf e=2) (hct:P.cellsOf t=n * 2)
  (h:DataW.trod enc P w base sp held fuel t cs=some (xA l,p)):cs=l.flatMap fun q=>[eK .i64 q.1,eK .i64 q.2]:=by
 cases fuel with
 | zero=>simp [DataW.trod] at h
 | succ fuel =>
  simp only [DataW.trod,ht,hce,hct] at h
  split at h
  ·rename_i hl
   obtain⟨xs,hm,hx⟩:=aL.1 h
   have hxs:xs.map (·.1)=l.map fun q=>(DataW.agg [.lit (.int .i64 q.1),.lit (.int .i64 q.2)]:DataW H):=by
    have:=congrArg cP hx
    simpa [xA] using this
   have hxl:xs.length=n:=by simpa using oK hm
   have hzl:l.length=n:=by
    have:=congrArg jI hxs
    simp at this
    omega
   have hfl:=BI l
   have hat:∀ k,k<n→∃ q,l[k]? = some q∧cs[k * 2]? = some (.int .i64 q.1)∧cs[k * 2+1]? = some (.int .i64 q.2):=by
    intro k hk
    obtain⟨b,hb,hf⟩:=qL hm k k (by simp [hk])
    obtain⟨y0,y1,m,rfl,_,hy0,hy1⟩:=trod_struct2 he hf
    rw [h0.1,h0.2,hci] at hy0
    rw [h1.1,h1.2,hci] at hy1
    obtain⟨z0,c0,rfl,_⟩:=DataW.trod_int hi hy0
    obtain⟨z1,c1,rfl,_⟩:=DataW.trod_int hi hy1
    have g0:cs[k * 2]? = some (.int .i64 z0):=by
     have:=congrArg (·[0]?) c0
     simpa [bc,cZ] using this
    have g1:cs[k * 2+1]? = some (.int .i64 z1):=by
     have:=congrArg (·[0]?) c1
     simpa [bc,cZ] using this
    have h2:=congrArg (·[k]?) hxs
    simp only [aJ,hb,dp] at h2
    cases hq:l[k]? with
    | none=>rw [hq] at h2;cases h2
    | some q =>
     rw [hq] at h2
     simp only [dp,bl,DataW.agg.injEq,mz,DataW.lit.injEq,Lit.int.injEq,true_and,and_true] at h2
     exact⟨q,rfl,by rw [g0,h2.1],by rw [g1,h2.2]⟩
   have hfat:∀ (l:List (Int × Int)) (k:Nat) (q:Int × Int),l[k]? = some q→(l.flatMap fun q=>[eK .i64 q.1,eK .i64 q.2])[k * 2]? = some (.int .i64 q.1)∧(l.flatMap fun q=>[eK .i64 q.1,eK .i64 q.2])[k * 2+1]? = some (.int .i64 q.2):=by
    intro l
    induction l with
    | nil=>intro k q hq;cases hq
    | cons a l ih =>
     intro k q hq
     cases k with
     | zero=>cases hq;exact⟨rfl,rfl⟩
     | succ k =>
      have:=ih k q (by simpa using hq)
      rw [show (k+1) * 2=k * 2+2 by omega]
      simpa [kF] using this
   apply List.ext_getElem?
   intro j
   by_cases hj:j<n * 2
   ·obtain⟨q,hq,a,b⟩:=hat (j / 2) ω
    obtain⟨a',b'⟩:=hfat l (j / 2) q hq
    rcases(by omega:j=j / 2 * 2∨j=j / 2 * 2+1) with e|e
    ·rw [e,a,a']
    ·rw [e,b,b']
   ·rw [bR ω,bR ω]
  ·cases h
theorem xQ{W:World}{nm:String}{g:Nat}{cs:Array Value}{l:List (Int × Int)}(hg:prog.globalNamed nm=some g)(h:W.var? prog nm=some cs)(hc:cs.toList=l.flatMap fun q=>[eK .i64 q.1,eK .i64 q.2]):gl W g=.pro (ei (l.map tv)):=by
 unfold World.var? at h
 rw [hg] at h
 simp only [Jl] at h
 unfold gl
 split at h
 ·next c T fz hh =>
  cases h
  rw [hh]
  simp only [hc]
  have hall:(l.flatMap fun q=>[eK .i64 q.1,eK .i64 q.2]).all zX=true:=by
   rw [aD]
   intro x hx
   obtain⟨q,_,hx⟩:=List.mem_flatMap.1 hx
   rcases bD.1 hx with rfl|hx
   ·rfl
   ·rcases bD.1 hx with rfl|hx
    ·rfl
    ·cases hx
  rw [hall,if_pos rfl]
  rw [zd]
 ·cases h
theorem MG:prog.globalNamed "fenestra/width.marks" = some 0:=by kernel_rfl
theorem MC:prog.globalNamed "fenestra/width.wides" = some 1:=by kernel_rfl
theorem KN{W:World}(h:laidMetH prog dh W):l6 W:=by
 rw [MakeChecks.laidMetH_plain _ _ _ (by kernel_rfl)] at h
 obtain⟨ps,hl,_⟩:=h
 obtain⟨g,t,cs,fuel,p,h1,h2,h3,h4⟩:=jC (nm := "fenestra/width.marks") (d:=Rows.laid_fenestra_width_marks) hl (by simp [dh])
 obtain rfl:=bg (MG.symm.trans h1)
 obtain rfl:=bg ((show (prog.globals[0]?).map (·.type)=some 103 by kernel_rfl).symm.trans h2)
 have h5:=m_ (l:=iI) (yO) (CV) ⟨rfl,rfl⟩ ⟨rfl,rfl⟩ (JA) (by kernel_rfl) (by kernel_rfl) (by kernel_rfl) h4
 exact xQ MG h3 h5
theorem Jt{W:World}(h:laidMetH prog dh W):lY W:=by
 rw [MakeChecks.laidMetH_plain _ _ _ (by kernel_rfl)] at h
 obtain⟨ps,hl,_⟩:=h
 obtain⟨g,t,cs,fuel,p,h1,h2,h3,h4⟩:=jC (nm := "fenestra/width.wides") (d:=Rows.laid_fenestra_width_wides) hl (by simp [dh])
 obtain rfl:=bg (MC.symm.trans h1)
 obtain rfl:=bg ((show (prog.globals[1]?).map (·.type)=some 105 by kernel_rfl).symm.trans h2)
 have h5:=m_ (l:=km) (CU) (CV) ⟨rfl,rfl⟩ ⟨rfl,rfl⟩ (JA) (by kernel_rfl) (by kernel_rfl) (by kernel_rfl) h4
 exact xQ MC h3 h5
theorem IA{W:World}(h:laidMetH prog dh W):pP W:=⟨KN h,Jt h,DY h,D2 h⟩
theorem HU:laidOutB prog=true:=by kernel_rfl
end Go.Proofs.YthdbijpefkapnaaGreatDoor
