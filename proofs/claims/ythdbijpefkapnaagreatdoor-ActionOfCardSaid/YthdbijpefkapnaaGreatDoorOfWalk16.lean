/- A part of the proof. -/
import Derived.Test.YthdbijpefkapnaaGreatDoorOfWalk15
set_option linter.all false
set_option maxHeartbeats 40000000
open And renaming intro → a7
open Bool renaming and_eq_true → aq, false_or → wG, not_eq_true' → ay, or_eq_false_iff → cF, or_eq_true → ef, or_false → fI
open Function renaming comp_def → aY
open Go.IntKind renaming i64 → ae, u8 → a6
open Go.IntWalk renaming i64_in → ai, u8_in → cR
open Go.Lib renaming hid → ab
open Int renaming eq_ofNat_of_zero_le → nS, le_refl → Fy
open List renaming all_eq_true → aD, all_map → bz, any_append → eZ, any_cons → fS, any_eq_false → Jm, any_nil → gv, append_assoc → aP, append_nil → aG, cons_append → fQ, dropLast_concat → A9, dropLast_concat_getLast → wD, drop_eq_getElem_cons → qK, drop_of_length_le → jX, find?_eq_none → kl, getElem?_append_left → au, getElem?_eq_getElem → ap, length → jI, length_append → ah, length_cons → aB, length_drop → CE, length_eq_one_iff → qJ, length_nil → aI, length_pos_iff → pV, map → bn, map_append → aM, map_cons → al, map_nil → aj, mem_append → bV, mem_map → aN, mem_range → dT, mem_singleton → a_, nil_append → gu, range → bh, set_append_left → iP, take → rg, take_of_length_le → dJ, take_succ_cons → aR, take_zero → aO
open Nat renaming le_refl → ba, zero_add → bG, zero_le → bf, zero_lt_succ → fH
open Option renaming map_none → kj, map_some → dp, toList_none → fo, toList_some → iX
open Option.some renaming inj → bg
open UInt8 renaming ofNat → az
namespace Go.Proofs.YthdbijpefkapnaaGreatDoor
open Go Go.Fen Go.Proofs.Tryz
attribute [local irreducible] aX WP ao dS i7 cJ aU cC
set_option maxRecDepth 8000
variable (w0:World) (S:List aH)
def kX(w0:World):Prop:=gl w0 3=.pro [.int .i64 1,.int .i64 1,.int .i64 22,.int .i64 2,.int .i64 2,.int .i64 22,.int .i64 4,.int .i64 3,.int .i64 23,.int .i64 8,.int .i64 5,.int .i64 25,.int .i64 16,.int .i64 7,.int .i64 27,.int .i64 32,.int .i64 8,.int .i64 28,.int .i64 64,.int .i64 9,.int .i64 29,.int .i64 128,.int .i64 53,.int .i64 55]
def rZ:List (Int × Ac):=[(0,dt 0 0),(4,dt 3 1),(21,dt 3 2),(24,dt 3 0),(39,dt 4 0),(49,dt 5 0),(59,dt 6 0),(1,dt 1 1),(22,dt 2 3),(2,dt 1 2),(3,dt 1 4),(23,dt 2 4),(5,dt 1 8),(25,dt 2 8),(7,dt 1 16),(27,dt 2 16),(8,dt 1 32),(28,dt 2 32),(9,dt 1 64),(29,dt 2 64),(53,dt 1 128),(55,dt 2 128),(6,dt 1 8),(30,dI 4 1 0),(90,dI 4 1 8),(40,dI 5 1 0),(100,dI 5 1 8),(31,dI 4 1 1),(91,dI 4 1 9),(41,dI 5 1 1),(101,dI 5 1 9),(32,dI 4 1 2),(92,dI 4 1 10),(42,dI 5 1 2),(102,dI 5 1 10),(33,dI 4 1 3),(93,dI 4 1 11),(43,dI 5 1 3),(103,dI 5 1 11),(34,dI 4 1 4),(94,dI 4 1 12),(44,dI 5 1 4),(104,dI 5 1 12),(35,dI 4 1 5),(95,dI 4 1 13),(45,dI 5 1 5),(105,dI 5 1 13),(36,dI 4 1 6),(96,dI 4 1 14),(46,dI 5 1 6),(106,dI 5 1 14),(37,dI 4 1 7),(97,dI 4 1 15),(47,dI 5 1 7),(107,dI 5 1 15)]
def ik:List (AV × AV):=rZ.map fun p=>(.int .i64 p.1,p.2.av)
theorem F4(w0:World)(hA:kX w0)(S:List aH)(R:Rt)(h:R (.ret (.mval ik)) S):ao prog w0 255 [] S R:=by
 have hpn:=JZ w0
 have hco:=xj w0
 have H:=ab h
 clear h
 unfold kX at hA
 simp only [dt,Ac.av] at hpn
 simp only [dI,Ac.av] at hco
 refine eN func255 rfl ntmps255 fun hO=>?_
 iterate 16
  repeat' first|refine st ?_|(refine ca ?_;first|apply hpn|apply hco)|(refine br ?_ ?_<;>intro hb)|apply cS|apply gn|refine sd ?_|refine sx ?_|apply aw|(apply aF;(· decide +kernel))|refine bd ?_ ?_|(refine cd ?_;first|apply hpn|apply hco)|fail
  apply CJ
  iterate 9 (· rfl)
  iterate 2 (· decide)
  iterate 3 (· simp only [go_sem, *];try rfl)
  try simp only [go_sem]
 repeat' first|refine st ?_|(refine ca ?_;first|apply hpn|apply hco)|(refine br ?_ ?_<;>intro hb)|apply cS|apply gn|refine sd ?_|refine sx ?_|apply aw|(apply aF;(· decide +kernel))|refine bd ?_ ?_|(refine cd ?_;first|apply hpn|apply hco)|fail
 refine fR results255 ?_
 exact H.out
def jB(l:List (List Int)):List (List Int):=if l=[] then [[-1]] else l
def iZ(l:List (List Int))(c:Nat):List (List Int) × Int :=
 if c=59 then (if (jB l).length<16 then (jB l++[[-1]],0) else ([],3))
 else if c=58 then (if ((jB l).getLastD []).length<6 then ((jB l).dropLast++[(jB l).getLastD []++[-1]],0) else ([],3))
 else if 48≤c∧c≤57 then ((jB l).dropLast++[((jB l).getLastD []).dropLast++[min (max 0 (((jB l).getLastD []).getLastD 0) * 10+((c:Int) - 48)) 9999]],0)
 else ([],6)
structure Ps where
 st:Nat
 utf:List Nat
 pv:Nat
 fn:Nat
 pars:List (List Int)
 inter:List UInt8
 text:List UInt8
 bad:Bool
 deriving DecidableEq
def Ps.av(p:Ps):AV:=.agg [.int .i64 p.st,.sval false (p.utf.map By),.int .u8 p.pv,.int .u8 p.fn,.sval false (p.pars.map ct),.str p.inter,.str p.text,.bool p.bad]
def bp(n:Nat):Ps:=⟨n,[],0,0,[],[],[],false⟩
def p7(n:Nat):Ps:=⟨n,[],0,0,[],[],[],true⟩
def lS(c:Nat):Ev:=⟨1,c,0,0,[],[],[]⟩
def uL(c:Nat):Ev:=⟨2,c,0,0,[],[],[]⟩
def mZ(i:List UInt8)(b:Nat):Ev:=⟨3,0,0,b,[],i,[]⟩
def nX(p:Ps)(b:Nat):Ev:=⟨4,0,p.pv,b,p.pars,p.inter,[]⟩
def mh(p:Ps):Ev:=⟨5,0,0,0,[],[],p.text⟩
def uK(p:Ps):Ev:=⟨6,0,p.pv,p.fn,p.pars,p.inter,p.text⟩
def gN(p:Ps)(e:Ev):Ps × List Ev:=(bp 0,if p.bad then [] else [e])
def i6(p:Ps)(b:Nat):Ps:=if p.bad∨p.inter.length=2 then p7 p.st else { p with inter:=p.inter++[az b] }
def rm(p:Ps)(b:Nat):Ps:=if (iZ p.pars b).2≠0∨p.bad then p7 p.st else { p with pars:=(iZ p.pars b).1 }
def ia(p:Ps)(b:Nat):Ps × List Ev:=if p.st≤5 then gN p (nX p b) else ({ p with st:=11,fn:=if p.bad then p.fn else b },[])
def qp(p:Ps)(b:Nat):Ps × List Ev :=
 if b=91 then (bp 3,[]) else if b=93 then (bp 6,[]) else if b=80 then (bp 8,[]) else if b=88∨b=94∨b=95 then (bp 13,[])
 else if b<48 then (i6 (bp 2) b,[]) else gN p (mZ [] b)
def kY(p:Ps)(b:Nat):Ps × List Ev:=if b<48 then (i6 p b,[]) else gN p (mZ p.inter b)
def g7(p:Ps)(b:Nat):Ps × List Ev :=
 if b<48 then (i6 (bp (p.st+2)) b,[]) else if b<60 then (rm (bp (p.st+1)) b,[]) else if b<64 then ({ bp (p.st+1) with pv:=b },[]) else ia p b
def fU(p:Ps)(b:Nat):Ps × List Ev :=
 if b<48 then (i6 { p with st:=p.st+1 } b,[]) else if b<60 then (rm p b,[]) else if b<64 then (p7 p.st,[]) else ia p b
def fW(p:Ps)(b:Nat):Ps × List Ev:=if b<48 then (i6 p b,[]) else if b<64 then (p7 p.st,[]) else ia p b
def dr(p:Ps)(b:Nat):Ps × List Ev :=
 match p.st with
 | 0=>(p,[lS b])
 | 1=>qp p b
 | 2=>kY p b
 | 3|8=>g7 p b
 | 4|9=>fU p b
 | 5|10=>fW p b
 | _=>(p,[])
def m4(b:Nat):Ps × List Ev:=if b=24∨b=26 then (bp 0,[]) else if b=27 then (bp 1,[]) else if b<32 then (bp 0,[uL b]) else (bp 0,[])
def en(q:Ps × List Ev)(c:Nat):Ps × List Ev :=
 if c<32∨c=127 then ((m4 c).1,q.2++(m4 c).2) else if c<127∨159<c then (q.1,q.2++[lS c]) else q
def f_(p:Ps)(b:Nat):Ps × List Ev:=(dN p.utf b).2.foldl en ({ bp 0 with utf:=(dN p.utf b).1 },[])
def dR(n:Nat):Bool:=n==6||(n==11||n==13)
def gS(n:Nat):Bool:=n==7||(n==12||n==14)
def eO(p:Ps)(b:Nat):Ps × List Ev :=
 if b=7∧p.st=6 then gN p (mh p) else if b<32∨b=127∨p.st=13∨p.bad then (p,[]) else if p.text.length=512 then (p7 p.st,[]) else ({ p with text:=p.text++[az b] },[])
def take1(p:Ps)(b:Nat):Ps × List Ev :=
 if p.st=0∧(p.utf≠[]∨128≤b) then f_ p b
 else if b=24∨b=26 then (bp 0,[])
 else if b=27 then (if dR p.st then ({ p with st:=p.st+1 },[]) else (bp 1,[]))
 else if dR p.st then eO p b
 else if 128≤b then f_ (bp 0) b
 else if b<32 then (p,if p.st≤5 then [uL b] else [])
 else if b=127 then (p,[])
 else dr p b
def qr(p:Ps)(b:Nat):Ps × List Ev :=
 if b≠92 then take1 (bp 1) b else if p.st=7 then gN p (mh p) else if p.st=12 then gN p (uK p) else (bp 0,[])
def eP(p:Ps)(b:Nat):Ps × List Ev:=if gS p.st∧¬ (b=24∨b=26∨b=27) then qr p b else take1 p b
def dj(p:Ps)(s:List Nat):Ps × List Ev:=s.foldl (fun q b=>((eP q.1 b).1,q.2++(eP q.1 b).2)) (p,[])
structure fj (p:Ps):Prop where
 st:p.st≤14
 utf:e9 p.utf=true
 byt:∀ x∈p.utf,x<256
 pv:p.pv<256
 fn:p.fn<256
 pars:db p.pars=true
 inter:p.inter.length≤2
 text:p.text.length≤512
theorem mU{l:List (List Int)}(h:db l=true):∃ pre q n,jB l=pre++[q++[n]]∧pre.length≤15∧q.length≤5∧(-1≤n∧n≤9999)∧(pre.any iz=false)∧q.any mr=false:=by
 have hb:(jB l).any iz=false∧(jB l).length≤16∧jB l≠[]:=by
  unfold jB
  split
  ·exact⟨δ,δ,δ⟩
  ·next hn =>
   unfold db at h
   simp only [aq,decide_eq_true_eq,ay] at h
   exact⟨h.2.2,h.1,hn⟩
 obtain⟨h1,h2,h3⟩:=hb
 have hsp:=wD h3
 generalize (jB l).dropLast=pre at hsp
 generalize (jB l).getLast h3=s at hsp
 rw [← hsp] at h1 h2
 simp only [eZ,fS,gv,fI,cF,ah,aB,aI] at h1 h2
 have hs:=h1.2
 unfold iz at hs
 simp only [cF,beq_eq_false_iff_ne,decide_eq_false_iff_not] at hs
 have hne:s≠[]:=by rintro rfl;exact hs.1 rfl
 have hsq:=wD hne
 generalize s.dropLast=q at hsq
 generalize s.getLast hne=n at hsq
 subst hsq
 simp only [eZ,fS,gv,fI,cF,ah,aB,aI] at hs
 have hn:=hs.2.2.2
 unfold mr at hn
 simp only [cF,decide_eq_false_iff_not] at hn
 exact⟨pre,q,n,hsp.symm,ω,ω,⟨ω,ω⟩,h1.1,hs.2.2.1⟩
theorem ln{α:Type}(l:List α)(x d:α):(l++[x]).getLastD d=x:=by simp [List.getLastD_eq_getLast?]
theorem ip{l pre:List (List Int)}{q:List Int}{n:Int}{c:Nat}(h:jB l=pre++[q++[n]]):iZ l c =
  if c=59 then (if pre.length<15 then (pre++[q++[n],[-1]],0) else ([],3))
  else if c=58 then (if q.length<5 then (pre++[q++[n,-1]],0) else ([],3))
  else if 48≤c∧c≤57 then (pre++[q++[min (max 0 n * 10+((c:Int) - 48)) 9999]],0)
  else ([],6):=by
 unfold iZ
 rw [h,ln,ln,A9,A9]
 have e1:(pre.length+1<16)=(pre.length<15):=by rw [eq_iff_iff];omega
 have e2:(q.length+1<6)=(q.length<5):=by rw [eq_iff_iff];omega
 simp only [ah,aB,aI,bG,e1,e2,aP,fQ,gu]
theorem C7{l:List (List Int)}{c:Nat}(h:db l=true)(h0:(iZ l c).2=0):db (iZ l c).1=true:=by
 obtain⟨pre,q,n,hl,h1,h2,h3,h4,h5⟩:=mU h
 rw [ip hl] at h0 ⊢
 have hb:iz (q++[n])=false:=by
  unfold iz
  simp only [cF,beq_eq_false_iff_ne,decide_eq_false_iff_not,eZ,fS,gv,fI,ah,aB,aI]
  refine⟨ω,ω,h5, ?_⟩
  unfold mr
  simp only [cF,decide_eq_false_iff_not]
  omega
 split at h0
 ·next hc =>
  rw [if_pos hc]
  split at h0
  ·next hp =>
   rw [if_pos hp]
   unfold db
   simp only [aq,decide_eq_true_eq,ay,eZ,fS,gv,fI,ah,aB,aI,h4,hb,wG]
   refine⟨ω, ?_,δ⟩
   rw [beq_eq_false_iff_ne]
   intro e
   have:=congrArg jI e
   simp at this
  ·cases h0
 ·next hc =>
  rw [if_neg hc]
  split at h0
  ·next hc =>
   rw [if_pos hc]
   split at h0
   ·next hp =>
    rw [if_pos hp]
    have hb2:iz (q++[n,-1])=false:=by
     unfold iz at hb ⊢
     simp only [cF,beq_eq_false_iff_ne,decide_eq_false_iff_not,eZ,fS,gv,fI,ah,aB,aI] at hb ⊢
     exact⟨ω,ω,h5,hb.2.2.2,δ⟩
    unfold db
    simp only [aq,decide_eq_true_eq,ay,eZ,fS,gv,fI,ah,aB,aI,h4,hb2,wG]
    refine⟨ω, ?_,trivial⟩
    rw [beq_eq_false_iff_ne]
    intro e
    have hp:pre=[]:=by
     have:=congrArg jI e
     simp at this
     exact this
    subst hp
    simp at e
    have:=congrArg jI e
    simp at this
   ·cases h0
  ·next hc =>
   rw [if_neg hc]
   split at h0
   ·next hc2 =>
    rw [if_pos hc2]
    have hv:0≤min (max 0 n * 10+((c:Int) - 48)) 9999∧min (max 0 n * 10+((c:Int) - 48)) 9999≤9999:=ω
    generalize min (max 0 n * 10+((c:Int) - 48)) 9999=v at hv
    have hb2:iz (q++[v])=false:=by
     unfold iz at hb ⊢
     simp only [cF,beq_eq_false_iff_ne,decide_eq_false_iff_not,eZ,fS,gv,fI,ah,aB,aI] at hb ⊢
     refine⟨ω,ω,h5, ?_⟩
     unfold mr
     simp only [cF,decide_eq_false_iff_not]
     omega
    unfold db
    simp only [aq,decide_eq_true_eq,ay,eZ,fS,gv,fI,ah,aB,aI,h4,hb2,wG]
    refine⟨ω, ?_,trivial⟩
    rw [beq_eq_false_iff_ne]
    intro e
    have hp:pre=[]:=by
     have:=congrArg jI e
     simp at this
     exact this
    subst hp
    simp at e
    have hq:q=[]:=by
     have:=congrArg jI e
     simp at this
     exact this
    subst hq
    simp at e
    omega
   ·cases h0
theorem fj.beg{n:Nat}(h:n≤14):fj (bp n):=⟨h,rfl,by simp [bp],fH _,fH _,rfl,bf _,bf _⟩
theorem fj.spo{n:Nat}(h:n≤14):fj (p7 n):=⟨h,rfl,by simp [p7],fH _,fH _,rfl,bf _,bf _⟩
theorem fj.at{p:Ps}(h:fj p){n:Nat}(hn:n≤14):fj { p with st:=n }:=⟨hn,h.utf,h.byt,h.pv,h.fn,h.pars,h.inter,h.text⟩
theorem fj.sign{p:Ps}(h:fj p)(b:Nat):fj (i6 p b):=by
 unfold i6
 split
 ·exact .spo h.st
 ·next hc =>
  refine⟨h.st,h.utf,h.byt,h.pv,h.fn,h.pars, ?_,h.text⟩
  have:=h.inter
  simp only [ah,aB,aI]
  rw [not_or] at hc
  omega
theorem fj.dig{p:Ps}(h:fj p)(b:Nat):fj (rm p b):=by
 unfold rm
 split
 ·exact .spo h.st
 ·next hc =>
  rw [not_or] at hc
  exact⟨h.st,h.utf,h.byt,h.pv,h.fn,C7 h.pars (Classical.not_not.1 hc.1),h.inter,h.text⟩
theorem fj.disp(p:Ps)(e:Ev):fj (gN p e).1:=.beg δ
theorem fj.last{p:Ps}(h:fj p){b:Nat}(hb:b<256):fj (ia p b).1:=by
 unfold ia
 split
 ·exact .disp _ _
 ·refine⟨(by decide:11≤14),h.utf,h.byt,h.pv, ?_,h.pars,h.inter,h.text⟩
  have:=h.fn
  simp only
  split<;>assumption
theorem fj.goes{p:Ps}(h:fj p){b:Nat}(hb:b<256):fj (dr p b).1:=by
 have key:∀ n,n≤14→fj (i6 (bp n) b):=fun n hn=>(fj.beg hn).sign b
 have hs:=h.st
 unfold dr
 split
 ·exact h
 ·unfold qp
  repeat' split
  all_goals first|exact .beg δ|exact key 2 δ
 ·unfold kY
  split
  ·exact h.sign b
  ·exact .disp _ _
 ·next e =>
  unfold g7
  repeat' split
  ·exact key _ ω
  ·exact(fj.beg ω).dig b
  ·exact⟨by simp only [bp];omega,rfl,by simp [bp],hb,fH _,rfl,bf _,bf _⟩
  ·exact h.last hb
 ·next e =>
  unfold g7
  repeat' split
  ·exact key _ ω
  ·exact(fj.beg ω).dig b
  ·exact⟨by simp only [bp];omega,rfl,by simp [bp],hb,fH _,rfl,bf _,bf _⟩
  ·exact h.last hb
 ·next e =>
  unfold fU
  repeat' split
  ·exact(h.at ω).sign b
  ·exact h.dig b
  ·exact .spo hs
  ·exact h.last hb
 ·next e =>
  unfold fU
  repeat' split
  ·exact(h.at ω).sign b
  ·exact h.dig b
  ·exact .spo hs
  ·exact h.last hb
 ·unfold fW
  repeat' split
  ·exact h.sign b
  ·exact .spo hs
  ·exact h.last hb
 ·unfold fW
  repeat' split
  ·exact h.sign b
  ·exact .spo hs
  ·exact h.last hb
 ·exact h
theorem fj.ctl(b:Nat):fj (m4 b).1:=by
 unfold m4
 repeat' split
 all_goals exact .beg δ
theorem fj.code{q:Ps × List Ev}(h:fj q.1)(c:Nat):fj (en q c).1:=by
 unfold en
 split
 ·exact .ctl c
 ·split<;>exact h
theorem fj.codes:∀ {l:List Nat}{q:Ps × List Ev},fj q.1→fj (l.foldl en q).1
 | [],_,h=>h
 | c::l,_,h=>fj.codes (l:=l) (h.code c)
theorem fj.print{p:Ps}(h:fj p){b:Nat}(hb:b<256):fj (f_ p b).1:=by
 unfold f_
 refine fj.codes ⟨bf _,qN _ _,rV h.byt hb,fH _,fH _,rfl,bf _,bf _⟩
theorem fj.within{p:Ps}(h:fj p)(b:Nat):fj (eO p b).1:=by
 unfold eO
 split
 ·exact .disp _ _
 ·split
  ·exact h
  ·split
   ·exact .spo h.st
   ·next hc =>
    refine⟨h.st,h.utf,h.byt,h.pv,h.fn,h.pars,h.inter, ?_⟩
    have:=h.text
    simp only [ah,aB,aI]
    omega
theorem fj.take1{p:Ps}(h:fj p){b:Nat}(hb:b<256):fj (take1 p b).1:=by
 have hs:=h.st
 unfold Go.Proofs.YthdbijpefkapnaaGreatDoor.take1
 split
 ·exact h.print hb
 ·split
  ·exact .beg δ
  ·split
   ·split
    ·next ht =>
     have:p.st≠14:=by
      intro e
      rw [e] at ht
      exact absurd ht δ
     exact h.at ω
    ·exact .beg δ
   ·split
    ·exact h.within b
    ·split
     ·exact(fj.beg δ).print hb
     ·split
      ·exact h
      ·split
       ·exact h
       ·exact h.goes hb
theorem fj.take{p:Ps}(h:fj p){b:Nat}(hb:b<256):fj (eP p b).1:=by
 unfold eP
 split
 ·unfold qr
  repeat' split
  ·exact(fj.beg δ).take1 hb
  ·exact .disp _ _
  ·exact .disp _ _
  ·exact .beg δ
 ·exact h.take1 hb
theorem nC{l:List (List Int)}(h:l≠[]):jB l=l:=if_neg h
theorem nW{α β:Type}(f:α→β)(q:List α)(x:α):rg q.length (bn f (q++[x]))=bn f q:=by
 rw [aM,List.take_append_of_le_length χ,dJ χ]
theorem xF{α β:Type}(f:α→β)(q:List α)(x:α):bn f q++[f x]=bn f (q++[x]):=χ
theorem ea.all1(l:List Int):((l.map ea).all fun el=>el.cells.length==1)=true:=by
 rw [aD];intro x hx;obtain⟨y,_,rfl⟩:=aN.1 hx;rfl
theorem ct.all1(l:List (List Int)):((l.map ct).all fun el=>el.cells.length==1)=true:=by
 rw [aD];intro x hx;obtain⟨y,_,rfl⟩:=aN.1 hx;rfl
theorem xB(q:List Int)(n v:Int)(hq:q.length≤1000)(R:Rt)(h:R (.ret (.sval false ((q++[v]).map ea))) S):ao prog w0 324 [.sval false ((q++[n]).map ea),.int .i64 v] S R:=by
 have hlen:(q++[n]).length=q.length+1:=χ
 have hw:ae.wrap (((q.length+1:Nat):Int) - 1)=(q.length:Int):=by rw [ai _ ω];omega
 have htk:=nW ea q n
 have hle:(q.length:Int)≤((q.length+1:Nat):Int):=ω
 have hle2:(q.length:Int)≤(q.length:Int):=Fy _
 have hb8:(q.length+1) * 8≤140737488355328:=ω
 have hbe:(q.length==q.length)=true:=χ
 have hall:=ea.all1 (q++[n])
 simp only [AV.cells] at hall
 have okA:=ea.ok q
 simp only [cI,AV.cells] at okA
 have h:R (.ret (.sval false (bn ea q++[.int .i64 v]))) S:=by rw [← xF] at h;exact h
 have H:=ab h
 clear h
 refine eN func324 rfl ntmps324 fun hO=>?_
 refine ε0 ?_
 have hl2:(q.length+1=(bn ea q++[AV.int .i64 v]).length)=True:=χ
 refine fR results324 ?_
 exact H.out
theorem D4(q:List (List Int))(n v:List Int)(hq:q.length≤1000)(R:Rt)(h:R (.ret (.sval false ((q++[v]).map ct))) S):ao prog w0 323 [.sval false ((q++[n]).map ct),ct v] S R:=by
 have hlen:(q++[n]).length=q.length+1:=χ
 have hw:ae.wrap (((q.length+1:Nat):Int) - 1)=(q.length:Int):=by rw [ai _ ω];omega
 have htk:=nW ct q n
 have hle:(q.length:Int)≤((q.length+1:Nat):Int):=ω
 have hle2:(q.length:Int)≤(q.length:Int):=Fy _
 have hb8:(q.length+1) * 24≤140737488355328:=ω
 have hbe:(q.length==q.length)=true:=χ
 have hall:=ct.all1 (q++[n])
 simp only [AV.cells] at hall
 have okA:=ct.ok q
 simp only [cI,AV.cells] at okA
 have h:R (.ret (.sval false (bn ct q++[.agg [.sval false (v.map ea)]]))) S:=by rw [← xF] at h;exact h
 have H:=ab h
 clear h
 rw [show ct v=.agg [.sval false (v.map ea)] from rfl]
 refine eN func323 rfl ntmps323 fun hO=>?_
 repeat' first|refine st ?_|(refine br ?_ ?_<;>intro hb)|refine sd ?_|refine sx ?_|apply aw|(apply aF;(· decide +kernel))|refine bd ?_ ?_|fail
 all_goals have hl2:(q.length+1=(bn ct q++[AV.agg [.sval false (bn ea v)]]).length)=True:=χ
 all_goals refine fR results323 ?_
 all_goals exact H.out
theorem D3(a:Nat)(ty:Option TypeId)(q:List (List Int))(n v:List Int)(hq:q.length≤1000)(ha:S[a]? = some (.cells [.sval false ((q++[n]).map ct)] ty))(R:Rt)(h:R (.ret (.tup [.sval false ((q++[v]).map ct),.int .i64 0])) S):ao prog w0 322 [.sval false (v.map ea),.own a 0] S R:=by
 have hc:=fun S'=>D4 w0 S' q n v hq
 rw [show ct v=.agg [.sval false (v.map ea)] from rfl] at hc
 clear hq
 exact γR1 hc func322 ntmps322 results322 h
def gH(q:List (List Int) × Int):AV:=.tup [.sval false (q.1.map ct),.int .i64 q.2]
theorem Kn(pre:List (List Int))(q:List Int)(n:Int)(c:Nat)(hc:c<256)(hok:db (pre++[q++[n]])=true)(h1:pre.length≤15)(h2:q.length≤5)(h3 : -1≤n∧n≤9999)(R:Rt)(h:R (.ret (gH (iZ (pre++[q++[n]]) c))) S) :
  ao prog w0 299 [.sval false ((pre++[q++[n]]).map ct),.int .u8 c] S R:=by
 have hck:=fun S'=>su w0 S' (pre++[q++[n]]) ⟨κ,by
  intro s hs
  rcases bV.1 hs with hs|hs
  ·unfold db at hok
   simp only [aq,decide_eq_true_eq,ay,eZ,cF,Jm] at hok
   have:=hok.2.2.1 s hs
   unfold iz at this
   simp only [ef,not_or,decide_eq_true_eq] at this
   omega
  ·rw [a_.1 hs];simp;omega⟩
 unfold mQ at hck
 rw [hok] at hck
 rw [ip (nC χ)] at h
 have hlen:(pre++[q++[n]]).length=pre.length+1:=χ
 have hlen2:(q++[n]).length=q.length+1:=χ
 have hx:(pre++[q++[n]])[pre.length]? = some (q++[n]):=χ
 have hy:(q++[n])[q.length]? = some n:=χ
 have hw1:ae.wrap (((pre.length+1:Nat):Int) - 1)=(pre.length:Int):=by rw [ai _ ω];omega
 have hw2:ae.wrap (((q.length+1:Nat):Int) - 1)=(q.length:Int):=by rw [ai _ ω];omega
 have e0:(((pre.length+1:Nat):Int)==0)=false:=ν
 have hall1:=ct.all1 (pre++[q++[n]])
 have hall2:=ea.all1 (q++[n])
 simp only [AV.cells] at hall1 hall2
 have okA:=ct.ok (pre++[q++[n]])
 have okB:=ea.ok (q++[n])
 simp only [cI,AV.cells] at okA okB
 have hch:=fun S' v=>D3 w0 S' (S.length) none pre (q++[n]) v ω
 have hci:=fun S' v=>xB w0 S' q n v ω
 have H3:=ab h3
 clear hok h3
 by_cases c1:c=59
 ·subst c1
  rw [if_pos rfl] at h
  by_cases hp:pre.length<15
  ·rw [if_pos hp] at h
   have d1:decide (((pre.length+1:Nat):Int)<16)=true:=κ
   have hle:((pre.length+1:Nat):Int)≤((pre.length+1:Nat):Int):=Fy _
   have hbe:(pre.length+1==pre.length+1)=true:=χ
   have hb8:(pre.length+1+1) * 24≤140737488355328:=ω
   have htk:rg (pre.length+1) (bn ct (pre++[q++[n]]))=bn ct (pre++[q++[n]]):=dJ χ
   have h:R (.ret (.tup [.sval false (bn ct (pre++[q++[n]])++[.agg [.sval false [.int .i64 (-1)]]]),.int .i64 0])) S:=by
    have e:bn ct (pre++[q++[n]])++[.agg [.sval false [.int .i64 (-1)]]]=bn ct (pre++[q++[n],[-1]]):=by simp [ct,ea]
    rw [e];exact h
   have H:=ab h
   clear h hp h1 h2 hch hci
   refine eN func299 rfl ntmps299 fun hO=>?_
   repeat' ((fail_if_success (apply dk 44 rfl));first|refine st ?_|(refine ca ?_;apply hck)|(refine br ?_ ?_<;>intro hb)|fail)
   refine mD (t:=43) (a:=S.length+1) rfl ss ss ?_
   refine ε1 hck ?_
   have hl2:(pre.length+1+1=(bn ct (pre++[q++[n]])++[AV.agg [.sval false [.int .i64 (-1)]]]).length)=True:=χ
   refine fR results299 ?_
   exact H.out
  ·rw [if_neg hp] at h
   have d1:decide (((pre.length+1:Nat):Int)<16)=false:=κ
   have H:=ab h
   clear h hp h1 h2 hch hci
   refine eN func299 rfl ntmps299 fun hO=>?_
   repeat' first|refine st ?_|(refine ca ?_;apply hck)|(refine br ?_ ?_<;>intro hb)|refine sd ?_|refine sx ?_|apply aw|(apply aF;(· decide +kernel))|refine bd ?_ ?_|(refine cd ?_;apply hck)|fail
   refine fR results299 ?_
   exact H.out
 rw [if_neg c1] at h
 have f1:((c:Int)==59)=false:=ν
 by_cases c2:c=58
 ·subst c2
  rw [if_pos rfl] at h
  by_cases hp:q.length<5
  ·rw [if_pos hp] at h
   have d1:decide (((q.length+1:Nat):Int)<6)=true:=κ
   have hle:((q.length+1:Nat):Int)≤((q.length+1:Nat):Int):=Fy _
   have hbe:(q.length+1==q.length+1)=true:=χ
   have hb8:(q.length+1+1) * 8≤140737488355328:=ω
   have htk:rg (q.length+1) (bn ea (q++[n]))=bn ea (q++[n]):=dJ χ
   have hch2:=fun S'=>hch S' (q++[n,-1])
   have e:bn ea (q++[n,-1])=bn ea (q++[n])++[.int .i64 (-1)]:=by simp [ea]
   rw [e] at hch2
   have H:=ab h
   clear h hp h1 h2 hch hci e
   refine eN func299 rfl ntmps299 fun hO=>?_
   repeat' ((fail_if_success (apply dk 64 rfl));first|refine st ?_|(refine ca ?_;apply hck)|(refine br ?_ ?_<;>intro hb)|fail)
   have hl2:(q.length+1+1=(bn ea (q++[n])++[AV.int .i64 (-1)]).length)=True:=χ
   refine mD (t:=63) (a:=S.length+2) rfl ss ss ?_
   refine ε01 hch2 ?_
   refine fR results299 ?_
   exact H.out
  ·rw [if_neg hp] at h
   have d1:decide (((q.length+1:Nat):Int)<6)=false:=κ
   have H:=ab h
   clear h hp h1 h2 hch hci
   refine eN func299 rfl ntmps299 fun hO=>?_
   repeat' first|refine st ?_|(refine ca ?_;apply hck)|(refine br ?_ ?_<;>intro hb)|refine sd ?_|refine sx ?_|apply aw|(apply aF;(· decide +kernel))|refine bd ?_ ?_|(refine cd ?_;apply hck)|fail
   refine fR results299 ?_
   exact H.out
 rw [if_neg c2] at h
 have f2:((c:Int)==58)=false:=ν
 by_cases c3:48≤c∧c≤57
 ·rw [if_pos c3] at h
  have g1:decide ((48:Int)≤(c:Int))=true:=κ
  have g2:decide ((c:Int)≤57)=true:=κ
  have hwc:a6.wrap ((c:Int) - 48)=(c:Int) - 48:=cR _ ω
  have hwd:ae.wrap ((c:Int) - 48)=(c:Int) - 48:=ai _ ω
  obtain⟨m,hm⟩:∃ m:Int,(if (0:Int)<n then n else 0)=m:=⟨_,rfl⟩
  have hm2:m=max 0 n∧0≤m∧m≤9999:=by have:=H3.out;subst hm;split<;>omega
  have hwm:ae.wrap (m * 10)=m * 10:=ai _ ω
  have hwa:ae.wrap (m * 10+((c:Int) - 48))=m * 10+((c:Int) - 48):=ai _ ω
  obtain⟨v,hv⟩:∃ v:Int,(if (9999:Int)<m * 10+((c:Int) - 48) then 9999 else m * 10+((c:Int) - 48))=v:=⟨_,rfl⟩
  have hv2:v=min (max 0 n * 10+((c:Int) - 48)) 9999:=by subst hv;rw [← hm2.1];split<;>omega
  rw [← hv2] at h
  have hch2:=fun S'=>hch S' (q++[v])
  have hci2:=fun S'=>hci S' v
  have H:=ab h
  clear h c1 c2 c3 h1 h2 hch hci hv2 hm2
  refine eN func299 rfl ntmps299 fun hO=>?_
  refine ε21 hck hci2 hch2 ?_
  refine fR results299 ?_
  exact H.out
 ·rw [if_neg c3] at h
  have H:=ab h
  clear h h1 h2 hch hci
  by_cases c4:48≤c
  ·have g1:decide ((48:Int)≤(c:Int))=true:=κ
   have g2:decide ((c:Int)≤57)=false:=κ
   clear c1 c2 c3 c4
   exact γR1 hck func299 ntmps299 results299 H.out
  ·have g1:decide ((48:Int)≤(c:Int))=false:=κ
   clear c1 c2 c3 c4
   exact γR1 hck func299 ntmps299 results299 H.out
theorem lj(l:List (List Int)):(dK l).length≤l.length:=by
 induction l with
 | nil=>simp [dK]
 | cons s r ih =>
  match s with
  | []=>simp [dK]
  | [n]=>simp only [dK,aB];omega
  | _::_::_=>simp [dK]
theorem n7{s:List Int}(r:List (List Int))(h:s.length≠1):dK (s::r)=[]:=by
 match s,h with
 | [],_=>rfl
 | _::_::_,_=>rfl
theorem kN(l:List (List Int))(hl:l.length≤1000000)(R:Rt)(h:R (.ret (.sval false ((dK l).map ea))) S):ao prog w0 295 [.sval false (l.map ct)] S R:=by
 refine eN func295 rfl ntmps295 fun hO=>?_
 refine ε0 ?_
 have HO:=ab hO
 clear hO
 refine ij (t:=2) 3 1 ss δ ?_
 try simp only [go_sem, *]
 refine cD (fun (p:Nat × List Int) env S'=>p.1≤l.length∧dK l=p.2++dK (l.drop p.1)∧p.2.length=p.1∧env 1000000=.dfr []∧env 2=.sown S.length p.1 p.1∧env 5=.sval false (l.map ct)∧env 6=.int .i64 l.length∧env 7=.int .i64 (p.1:Int) ∧
  S'=S++[.arr 3 1 0 p.1 (p.2.map ea)]) (fun p=>l.length - p.1) (0,[]) ?_ ?_
 ·exact⟨bf _,rfl,rfl,ss,ss,ss,ss,ss,rfl⟩
 ·rintro⟨k,vs⟩ env S' ⟨hk,hv,hvl,e0,f2,f5,f6,f7,rfl⟩ IH
  have HI:=ab IH
  have H:=ab h
  clear IH h
  simp only at hk hv hvl f2 f7 ⊢
  have hlm:(vs.map ea).length=k:=by simp [hvl]
  by_cases hlt:k<l.length
  ·obtain⟨x,hx⟩:∃ x,l[k]? = some x:=⟨_,ap hlt⟩
   have hd:l.drop k=x::l.drop (k+1):=by
    rw [qK hlt]
    congr 1
    rw [ap hlt] at hx
    exact bg hx
   have h1:decide ((k:Int)<(l.length:Int))=true:=by simpa using hlt
   by_cases hx1:x.length=1
   ·obtain⟨n,rfl⟩:=qJ.1 hx1
    have hw:ae.wrap ((k:Int)+1)=((k+1:Nat):Int):=by rw [ai _ ω];omega
    have hm:(if n>0 then n else 0)=max 0 n:=by split<;>omega
    have hv2:dK l=(vs++[max 0 n])++dK (l.drop (k+1)):=by rw [hv,hd];simp [dK]
    have hp:ct [n]=.agg [.sval false [.int .i64 n]]:=rfl
    have hb8:(k+1) * 8≤140737488355328:=ω
    have hb9:k+1≤17592186044416:=ω
    generalize max 0 n=q at *
    have Hv:=ab (a7 hv2 (a7 hvl hlt))
    clear hk hv hvl hlt hd hx1 hv2
    refine ε0 ?_
    refine bX HO.out 1 [2,5,6,7] rfl ss ss ss ?_
    simp only [aR,aO]
    refine HI.out (k+1,vs++[q]) _ _ (by have:=Hv.out.2.2;simp only;omega) ⟨Hv.out.2.2,Hv.out.1,by simp [Hv.out.2.1],ss,ss,ss,ss,ss, ?_⟩
    rw [aM];first|done|rfl
   ·have hvv:dK l=vs:=by rw [hv,hd,n7 _ hx1,aG]
    have hh:=H.out
    rw [hvv] at hh
    have hp:ct x=.agg [.sval false (x.map ea)]:=rfl
    have hd1:((x.length:Int) != 1)=true:=by rw [bne_iff_ne];omega
    clear hk hv hvl hlt hd hx1 HI hvv
    refine ε0 ?_
    refine fR results295 ?_
    exact hh
  ·have h1:decide ((k:Int)<(l.length:Int))=false:=by simpa using hlt
   have hvv:dK l=vs:=by rw [hv,jX ω];simp [dK]
   have hh:=H.out
   rw [hvv] at hh
   clear hk hv hvl hlt HI hvv
   refine ε0 ?_
   refine fR results295 ?_
   exact hh
theorem F5(s:List Int)(h1:1≤s.length)(h6:s.length≤6)(R:Rt)(h:PR R S (dD s)):ao prog w0 296 [.sval false (s.map ea)] S R:=by
 match s,h1,h6 with
 | [a],_,_=>exact Ga w0 S a R h
 | [a,b],_,_=>exact F_ w0 S a b R h
 | [a,b,c],_,_=>exact F9 w0 S a b c R h
 | [a,b,c,d],_,_=>exact F8 w0 S a b c d R h
 | [a,b,c,d,e],_,_=>exact F7 w0 S a b c d e R h
 | [a,b,c,d,e,f],_,_=>exact F6 w0 S a b c d e f R h
 | _::_::_::_::_::_::_::_,_,h=>simp at h
theorem FH(n:Nat)(h:n<108):iU (n:Int)=(rZ.find? fun p=>(n:Int)==p.1).map (·.2):=by
 have:(bh 108).all (fun n=>decide (iU (n:Int)=(rZ.find? fun p=>(n:Int)==p.1).map (·.2)))=true:=by decide +kernel
 simpa using aD.1 this n (dT.2 h)
theorem Da:rZ.all (fun p=>decide (0≤p.1)&&decide (p.1<108))=true:=by decide +kernel
theorem vn(v:Int):iU v=(rZ.find? fun p=>v==p.1).map (·.2):=by
 by_cases hv:0≤v∧v<108
 ·obtain⟨n,rfl⟩:=nS hv.1
  exact FH n ω
 ·have h1:(rZ.find? fun p=>v==p.1)=none:=by
   rw [kl]
   intro p hp hq
   have:=aD.1 Da p hp
   simp only [aq,decide_eq_true_eq] at this
   simp only [beq_iff_eq] at hq
   omega
  rw [h1]
  unfold iU
  iterate 26 rw [if_neg ω]
  rfl
theorem p8(c:Int):(ik.find? (fun e=>kR (.int .i64 c) e.1)=(rZ.find? fun p=>c==p.1).map fun p=>((.int .i64 p.1:AV),p.2.av))∧ik.all (fun e=>fh prog 3 e.1)=true:=by
 constructor
 ·exact sO c rZ
 ·unfold ik
  rw [bz]
  exact aD.2 fun p _=>by simp only [fh,aY,go_sem]
def FR(R:Rt)(S:List aH)(q:Option Ac × Nat):Prop:=match q with
 | (some a,n)=>R (.ret (.tup [a.av,.bool true,.int .i64 n])) S
 | (none,n)=>∀ a:Ac,R (.ret (.tup [a.av,.bool false,.int .i64 n])) S
theorem Gg(s:List Int)(r:List (List Int))(hs:s.length≠1)(h1:1≤s.length)(h6:s.length≤6)(hl:r.length≤100)(R:Rt)(h:FR R S (dD s,1)):ao prog w0 256 [.sval false ((s::r).map ct),.mval ik] S R:=by
 have hva:=fun S'=>kN w0 S' (s::r) κ
 rw [n7 r hs] at hva
 have hsi:ik=ik:=rfl
 simp only [al,aj,ct] at hva ⊢
 generalize ik=M at *
 have HP:=fun S' R=>F5 w0 S' s h1 h6 R
 cases hps:dD s with
 | none =>
  rw [hps] at h HP
  simp only [FR,PR] at h HP
  clear hps hs h1 h6 hl
  refine eN func256 rfl ntmps256 fun hO=>?_
  refine ε2 hva HP ?_
  rintro⟨ak,an,am,ack,acn,tx⟩
  simp only [Ac.av,aU,putA]
  refine ε0 ?_
  refine fR results256 ?_
  exact h ⟨ak,an,am,ack,acn,tx⟩
 | some a =>
  obtain⟨ak,an,am,ack,acn,tx⟩:=a
  rw [hps] at h HP
  simp only [FR,PR,Ac.av] at h HP
  clear hps hs h1 h6 hl
  exact γR2 hva HP func256 ntmps256 results256 h
def looks(x:Int)(r:List Int):Prop:=bZ x=none∨(∃ n,bZ x=some n)∧(r=[]∨∃ h t,r=h::t∧h≠5∧h≠2)
theorem Gd(l:List (List Int))(x:Int)(r:List Int)(hv:dK l=x::r)(hl:l.length≤100)(hw:bZ x=none)(R:Rt)(h:FR R S (iU x,1)):ao prog w0 256 [.sval false (l.map ct),.mval ik] S R:=by
 have hva:=fun S'=>kN w0 S' l ω
 have hof:=fun S'=>Bu w0 S' x
 rw [hv] at hva
 rw [hw] at hof
 simp only [al,qT,ea] at hva hof
 clear hv hw hl
 obtain⟨hf,ha⟩:=p8 x
 rw [vn x] at h
 rcases ji (fun p=>x==p.1) rZ with hk|⟨j,a,hk⟩
 ·rw [hk] at hf h
  simp only [kj,FR] at hf h
  simp only [go_sem] at hf ha
  clear hk
  generalize ik=M at *
  refine γR2 hva hof func256 ntmps256 results256 ?_
  exact h ⟨0,0,0,0,0,[]⟩
 ·rw [hk] at hf h
  obtain⟨k1,k2,k3,k4,k5,k6⟩:=a
  simp only [dp,FR,Ac.av] at hf h
  simp only [go_sem] at hf ha
  clear hk
  generalize ik=M at *
  exact γR2 hva hof func256 ntmps256 results256 h
theorem Gf(l:List (List Int))(x:Int)(n:Int)(hv:dK l=x::[])(hl:l.length≤100)(hw:bZ x=some n)(R:Rt)(h:FR R S (iU x,1)):ao prog w0 256 [.sval false (l.map ct),.mval ik] S R:=by
 have hva:=fun S'=>kN w0 S' l ω
 have hof:=fun S'=>Bu w0 S' x
 rw [hv] at hva
 rw [hw] at hof
 simp only [al,aj,qT,ea] at hva hof
 clear hv hw hl
 obtain⟨hf,ha⟩:=p8 x
 rw [vn x] at h
 rcases ji (fun p=>x==p.1) rZ with hk|⟨j,a,hk⟩
 ·rw [hk] at hf h
  simp only [kj,FR] at hf h
  simp only [go_sem] at hf ha
  clear hk
  generalize ik=M at *
  refine γR2 hva hof func256 ntmps256 results256 ?_
  exact h ⟨0,0,0,0,0,[]⟩
 ·rw [hk] at hf h
  obtain⟨k1,k2,k3,k4,k5,k6⟩:=a
  simp only [dp,FR,Ac.av] at hf h
  simp only [go_sem] at hf ha
  clear hk
  generalize ik=M at *
  exact γR2 hva hof func256 ntmps256 results256 h
theorem Gc(l:List (List Int))(x:Int)(n g:Int)(t:List Int)(hv:dK l=x::g::t)(hl:l.length≤100)(hw:bZ x=some n)(h5:g≠5)(h2:g≠2)(R:Rt)(h:FR R S (iU x,1)):ao prog w0 256 [.sval false (l.map ct),.mval ik] S R:=by
 have hva:=fun S'=>kN w0 S' l ω
 have hof:=fun S'=>Bu w0 S' x
 rw [hv] at hva
 rw [hw] at hof
 simp only [al,qT,ea] at hva hof
 have d5:(g==5)=false:=by simpa using h5
 have d2:(g==2)=false:=by simpa using h2
 have dl:decide ((1:Int)<((t.length+1+1:Nat):Int))=true:=τ
 clear hv hw hl h5 h2
 obtain⟨hf,ha⟩:=p8 x
 rw [vn x] at h
 rcases ji (fun p=>x==p.1) rZ with hk|⟨j,a,hk⟩
 ·rw [hk] at hf h
  simp only [kj,FR] at hf h
  simp only [go_sem] at hf ha
  clear hk
  generalize ik=M at *
  refine γR2 hva hof func256 ntmps256 results256 ?_
  exact h ⟨0,0,0,0,0,[]⟩
 ·rw [hk] at hf h
  obtain⟨k1,k2,k3,k4,k5,k6⟩:=a
  simp only [dp,FR,Ac.av] at hf h
  simp only [go_sem] at hf ha
  clear hk
  generalize ik=M at *
  exact γR2 hva hof func256 ntmps256 results256 h
theorem Dn(l:List (List Int))(x:Int)(n:Int)(t:List Int)(hv:dK l=x::5::t)(hl:l.length≤100)(hw:bZ x=some n)(ht:t.length<1)(R:Rt)(h:FR R S (none,min 3 l.length)):ao prog w0 256 [.sval false (l.map ct),.mval ik] S R:=by
 have hvl:=lj l
 rw [hv] at hvl
 simp only [aB] at hvl
 have hva:=fun S'=>kN w0 S' l ω
 have hof:=fun S'=>Bu w0 S' x
 rw [hv] at hva
 rw [hw] at hof
 simp only [al,qT,ea] at hva hof
 have dl:decide ((1:Int)<((t.length+1+1:Nat):Int))=true:=τ
 have dn:decide ((3:Int)≤((t.length+1+1:Nat):Int))=false:=τ2
 have hmn:(if (l.length:Int)<3 then (l.length:Int) else 3)=((min 3 l.length:Nat):Int):=by split<;>omega
 simp only [FR] at h
 clear hv hw hl ht hvl
 generalize ik=M at *
 refine γR2 hva hof func256 ntmps256 results256 ?_
 exact h ⟨0,0,0,0,0,[]⟩
theorem Dp(l:List (List Int))(x:Int)(n:Int)(a:Int)(t:List Int)(hv:dK l=x::5::a::t)(hl:l.length≤100)(hw:bZ x=some n)(R:Rt)(h:FR R S (dP n 5 [a],3)):ao prog w0 256 [.sval false (l.map ct),.mval ik] S R:=by
 have hvl:=lj l
 rw [hv] at hvl
 simp only [aB] at hvl
 have hva:=fun S'=>kN w0 S' l ω
 have hof:=fun S'=>Bu w0 S' x
 have hsh:=fun S'=>n8 w0 S' n 5 [a] χ
 rw [hv] at hva
 rw [hw] at hof
 simp only [al,aj,qT,ea] at hva hof hsh
 have dl:decide ((1:Int)<((t.length+1+1+1:Nat):Int))=true:=τ
 have dn:(3:Int)≤((t.length+1+1+1:Nat):Int):=ω
 have okC:=ea.all1 t
 simp only [AV.cells] at okC
 have hmn:(if (l.length:Int)<3 then (l.length:Int) else 3)=3:=by split<;>omega
 clear hv hw hl hvl
 cases hs:dP n 5 [a] with
 | none =>
  rw [hs] at h hsh
  simp only [FR,sw] at h hsh
  clear hs
  generalize ik=M at *
  refine eN func256 rfl ntmps256 fun hO=>?_
  refine Δ3 hva hof hsh ?_
  refine fR results256 ?_
  exact h ⟨0,0,0,0,0,[]⟩
 | some y =>
  obtain⟨k1,k2,k3,k4,k5,k6⟩:=y
  rw [hs] at h hsh
  simp only [FR,sw,Ac.av] at h hsh
  clear hs
  generalize ik=M at *
  refine eN func256 rfl ntmps256 fun hO=>?_
  refine Δ3 hva hof hsh ?_
  refine fR results256 ?_
  exact h
theorem sc(l:List (List Int))(x:Int)(n:Int)(t:List Int)(hv:dK l=x::2::t)(hl:l.length≤100)(hw:bZ x=some n)(ht:t.length<3)(R:Rt)(h:FR R S (none,min 5 l.length)):ao prog w0 256 [.sval false (l.map ct),.mval ik] S R:=by
 have hvl:=lj l
 rw [hv] at hvl
 simp only [aB] at hvl
 have hva:=fun S'=>kN w0 S' l ω
 have hof:=fun S'=>Bu w0 S' x
 rw [hv] at hva
 rw [hw] at hof
 simp only [al,qT,ea] at hva hof
 have dl:decide ((1:Int)<((t.length+1+1:Nat):Int))=true:=τ
 have dn:decide ((5:Int)≤((t.length+1+1:Nat):Int))=false:=τ2
 have hmn:(if (l.length:Int)<5 then (l.length:Int) else 5)=((min 5 l.length:Nat):Int):=by split<;>omega
 simp only [FR] at h
 clear hv hw hl ht hvl
 generalize ik=M at *
 refine γR2 hva hof func256 ntmps256 results256 ?_
 exact h ⟨0,0,0,0,0,[]⟩
theorem Dq(l:List (List Int))(x:Int)(n:Int)(a b c:Int)(t:List Int)(hv:dK l=x::2::a::b::c::t)(hl:l.length≤100)(hw:bZ x=some n)(R:Rt)(h:FR R S (dP n 2 [a,b,c],5)):ao prog w0 256 [.sval false (l.map ct),.mval ik] S R:=by
 have hvl:=lj l
 rw [hv] at hvl
 simp only [aB] at hvl
 have hva:=fun S'=>kN w0 S' l ω
 have hof:=fun S'=>Bu w0 S' x
 have hsh:=fun S'=>n8 w0 S' n 2 [a,b,c] χ
 rw [hv] at hva
 rw [hw] at hof
 simp only [al,aj,qT,ea] at hva hof hsh
 have dl:decide ((1:Int)<((t.length+1+1+1+1+1:Nat):Int))=true:=τ
 have dn:(5:Int)≤((t.length+1+1+1+1+1:Nat):Int):=ω
 have okC:=ea.all1 t
 simp only [AV.cells] at okC
 have hmn:(if (l.length:Int)<5 then (l.length:Int) else 5)=5:=by split<;>omega
 clear hv hw hl hvl
 cases hs:dP n 2 [a,b,c] with
 | none =>
  rw [hs] at h hsh
  simp only [FR,sw] at h hsh
  clear hs
  generalize ik=M at *
  refine eN func256 rfl ntmps256 fun hO=>?_
  refine Δ3 hva hof hsh ?_
  refine fR results256 ?_
  exact h ⟨0,0,0,0,0,[]⟩
 | some y =>
  obtain⟨k1,k2,k3,k4,k5,k6⟩:=y
  rw [hs] at h hsh
  simp only [FR,sw,Ac.av] at h hsh
  clear hs
  generalize ik=M at *
  refine eN func256 rfl ntmps256 fun hO=>?_
  refine Δ3 hva hof hsh ?_
  refine fR results256 ?_
  exact h
theorem J0(l:List (List Int))(hne:l≠[])(hl:l.length≤100)(hs:∀ s∈l,1≤s.length∧s.length≤6)(R:Rt)(h:FR R S (dX l)):ao prog w0 256 [.sval false (l.map ct),.mval ik] S R:=by
 unfold dX at h
 cases hv:dK l with
 | nil =>
  rw [hv] at h
  match l,hne,hl,hs,hv,h with
  | s::r,_,hl,hs,hv,h =>
   have h1:=hs s χ
   have hn:s.length≠1:=by
    intro e
    obtain⟨n,rfl⟩:=qJ.1 e
    simp [dK] at hv
   exact Gg w0 S s r hn h1.1 h1.2 (by simp at hl;omega) R h
 | cons x r =>
  rw [hv] at h
  cases hw:bZ x with
  | none =>
   simp only [hw] at h
   exact Gd w0 S l x r hv hl hw R h
  | some n =>
   simp only [hw] at h
   match r,hv,h with
   | [],hv,h=>exact Gf w0 S l x n hv hl hw R h
   | g::t,hv,h =>
    simp only at h
    by_cases h5:g=5
    ·subst h5
     rw [if_pos rfl] at h
     match t,hv,h with
     | [],hv,h=>exact Dn w0 S l x n [] hv hl hw χ R h
     | a::t,hv,h =>
      rw [if_pos χ] at h
      exact Dp w0 S l x n a t hv hl hw R h
    ·rw [if_neg h5] at h
     by_cases h2:g=2
     ·subst h2
      rw [if_pos rfl] at h
      match t,hv,h with
      | [],hv,h=>exact sc w0 S l x n [] hv hl hw χ R h
      | [a],hv,h=>exact sc w0 S l x n [a] hv hl hw χ R h
      | [a,b],hv,h=>exact sc w0 S l x n [a,b] hv hl hw χ R h
      | a::b::c::t,hv,h =>
       rw [if_pos χ] at h
       exact Dq w0 S l x n a b c t hv hl hw R h
     ·rw [if_neg h2] at h
      exact Gc w0 S l x n g t hv hl hw h5 h2 R h
theorem rR{l:List (List Int)}(h:l≠[]):1≤(dX l).2∧(dX l).2≤l.length:=by
 have hl:1≤l.length:=pV.2 h
 have hv:=lj l
 unfold dX
 split
 ·exact⟨χ,by simpa using hl⟩
 ·next v r hvr =>
  rw [hvr] at hv
  split
  ·next n g t _ =>
   simp only [aB] at hv
   split
   ·split
    ·exact⟨χ,by simp only;omega⟩
    ·exact⟨by simp only;omega,by simp only;omega⟩
   ·split
    ·split
     ·exact⟨χ,by simp only;omega⟩
     ·exact⟨by simp only;omega,by simp only;omega⟩
    ·exact⟨χ,by simpa using hl⟩
  ·exact⟨χ,by simpa using hl⟩
theorem so:∀ (k:Nat) (l:List (List Int)),(hZ k l).length≤k
 | 0,_=>ba _
 | k+1,l=>by
  unfold hZ
  split
  ·simp
  ·have:=so k (l.drop (dX l).2)
   cases (dX l).1<;>simp only [fo,iX,ah,aB,aI]<;>omega
theorem J1(l:List (List Int))(R:Rt)(h:R (.ret (.fn (.func 254) [] [.own S.length 0])) (S++[.cells [.sval false (l.map ct)]])):ao prog w0 211 [.sval false (l.map ct)] S R:=by
 refine zD func211 rfl (by decide +kernel) (by rw [ntmps211];simp) (by rw [ntmps211];decide) (fun hO=>?_);rw [ntmps211]
 refine ε0 ?_
 (apply zy;iterate 4 (· simp only [go_sem, *,results211];try rfl))
 exact h
theorem J2(w0:World)(hA:kX w0)(l0:List (List Int))(hl0:l0.length≤100)(hs0:∀ s∈l0,1≤s.length∧s.length≤6)(a b n:Nat)(ha:decide (a<n)=true)(hb:decide (b<n)=true)(I:List Ac→List (List Int)→List aH→Prop)
  (hI:∀ ys rem S,I ys rem S→S.length=n∧bH S∧S[b]? = some (.cells [.sval false (rem.map ct)]))
  (hset:∀ ys rem rem' S,I ys rem S→I ys rem' (S.set b (.cells [.sval false (rem'.map ct)])))
  (hround:∀ ys rem S c,ys.length<l0.length→I ys rem S→∀ (E:List aH) (R':gL→List aH→Prop),(∀ S2 E2,I (ys++[c]) rem S2→R' (.ret (.bool true)) (S2++(E++E2)))→YA prog w0 a [c.av] (S++E) R')
  (S:List aH) (h0:I [] l0 S) (R:Rt) (h:∀ S',I (hZ l0.length l0) [] S'→R (.ret (.tup [])) S') :
  ao prog w0 254 [.yld a,.own b 0] S R:=by
 have hn:=(hI _ _ _ h0).1
 have hsi:=F4 w0 hA
 have hMp:Go.Fen.plainP ik=true:=by decide +kernel
 have hMl:∀ n,nB n ik=true:=fun n=>by rfl
 generalize hM:ik=M at hsi hMp hMl
 refine eN func254 rfl ntmps254 fun hO=>?_
 refine ε1 hsi ?_
 clear hsi
 refine cD (fun (p:List Ac × List (List Int) × Nat) env S'=>p.2.1.length≤p.2.2∧hZ l0.length l0=p.1++hZ p.2.2 p.2.1∧(p.2.1.length≤100∧∀ s∈p.2.1,1≤s.length∧s.length≤6)∧env 1000000=.dfr []∧env 0=.yld a∧env 1=.own b 0∧env 3=.mval M∧I p.1 p.2.1 S') (fun p=>p.2.1.length) ([],l0,l0.length) ?_ ?_
 ·exact⟨ba _,rfl,⟨hl0,hs0⟩,ss,ss,ss,ss,h0⟩
 ·rintro⟨ys,rem,k⟩ env S' ⟨hk,hp,hsz,e0,ey,e1,e3,hIi⟩ IH
  have HI:=ab IH
  have HIi:=ab hIi
  have Hn:=ab hn
  have Hr:=ab hround
  have HJ:=ab hI
  have HS:=ab hset
  have H:=ab h
  obtain⟨q1,q2,hbS⟩:=hI _ _ _ hIi
  have Hq:=ab (a7 q1 q2)
  have hbl:b<S'.length:=by rw [q1];simpa using hb
  have hla:decide (a<S'.length)=true:=by rw [q1];exact ha
  have hlb:decide (b<S'.length)=true:=by rw [q1];exact hb
  clear IH hIi hn hround hI hset h h0 hs0 hl0 q1 q2 hO
  simp only at hk hp hsz hbS
  by_cases hne:rem=[]
  ·subst hne
   have hh:=H.out S' (by rw [hp];cases k<;>simpa [hZ] using HIi.out)
   clear hp hsz hk HI HS Hr
   simp only [aj] at hbS
   refine ε0 ?_
   refine K8 results254 ?_ ?_ ?_
   ·exact Hq.out.2
   ·exact Hq.out.1.trans Hn.out.symm
   ·exact hh
  ·have hlp:0<rem.length:=pV.2 hne
   have h1:decide ((0:Int)<(rem.length:Int))=true:=τ
   obtain⟨k',rfl⟩:∃ k',k=k'+1:=⟨k - 1,ω⟩
   have hfn:=rR hne
   have hfr:=fun S' R=>J0 w0 S' rem hne hsz.1 hsz.2 R
   have hpp:hZ (k'+1) rem=(dX rem).1.toList++hZ k' (rem.drop (dX rem).2):=by
    show (if rem=[] then [] else _)=_
    rw [if_neg hne]
   rw [hpp] at hp
   rw [hM] at hfr
   rcases hfo:dX rem with⟨o,m⟩
   rw [hfo] at hp hfn hfr
   simp only at hp hfn
   have hbA:∀ L,(S'++L)[b]? = some (.cells [.sval false (rem.map ct)]):=fun L=>by rw [au hbl];exact hbS
   have hbU:∀ L X,(S'++L).set b X=S'.set b X++L:=fun L X=>by rw [iP _ _ hbl]
   have okP:=ct.all1 rem
   simp only [AV.cells] at okP
   have hmi:(m:Int)≤(rem.length:Int):=ω
   have hdl:(rem.drop m).length<rem.length:=by rw [CE];omega
   have Hd:=ab (show (rem.drop m).length≤k'∧((rem.drop m).length≤100∧∀ s∈rem.drop m,1≤s.length∧s.length≤6) by
    exact⟨ω,ω,fun s hs=>hsz.2 s (List.mem_of_mem_drop hs)⟩)
   have Hdl:=ab hdl
   have Hp:=ab hp
   have hdm:List.drop m (rg rem.length (rem.map ct))=(rem.drop m).map ct:=by
    rw [dJ χ];exact List.map_drop.symm
   clear hpp hfo hp hk hsz hne hlp hfn hdl H
   cases o with
   | none =>
    simp only [FR] at hfr
    have hI2:=HS.out _ _ (rem.drop m) _ HIi.out
    refine ε1 hfr ?_
    rintro⟨ak,an,am,ack,acn,tx⟩
    simp only [Ac.av,aU,putA]
    refine ε0 ?_
    refine oQ (HJ.out _ _ _ hI2).2.1 0 [0,1,3] (Hn.out.trans (HJ.out _ _ _ hI2).1.symm) ss ss ss ?_
    refine HI.out (ys,rem.drop m,k') _ _ Hdl.out ⟨Hd.out.1,by simpa using Hp.out,Hd.out.2,ss,ss,ss,ss, ?_⟩
    simpa only [aO,aG] using hI2
   | some c =>
    obtain⟨ak,an,am,ack,acn,tx⟩:=c
    simp only [FR,Ac.av] at hfr
    refine ε1 hfr ?_
    apply u7
    ·exact ss
    ·rfl
    ·exact ss
    ·rfl
    ·exact ss
    have hyl:ys.length<l0.length:=by
     have e1:=congrArg jI Hp.out
     have e2:=so l0.length l0
     simp only [iX,fQ,gu,ah,aB] at e1
     omega
    refine Hr.out ys rem S' ⟨ak,an,am,ack,acn,tx⟩ hyl HIi.out _ _ ?_
    clear hyl
    intro S3 E3 hI3
    obtain⟨q1,q2,hb3⟩:=HJ.out _ _ _ hI3
    have hbl3:b<S3.length:=by rw [q1];simpa using hb
    have hla3:decide (a<S3.length)=true:=by rw [q1];exact ha
    have hlb3:decide (b<S3.length)=true:=by rw [q1];exact hb
    have hbA3:∀ L,(S3++L)[b]? = some (.cells [.sval false (rem.map ct)]):=fun L=>by rw [au hbl3];exact hb3
    have hbU3:∀ L X,(S3++L).set b X=S3.set b X++L:=fun L X=>by rw [iP _ _ hbl3]
    have hI2:=HS.out _ _ (rem.drop m) _ hI3
    clear hbA hbU hbS hb3 hbl hbl3 hla hlb q1 q2 hI3 hfr
    simp only [aU,putA]
    refine ε0 ?_
    refine oQ (HJ.out _ _ _ hI2).2.1 0 [0,1,3] (Hn.out.trans (HJ.out _ _ _ hI2).1.symm) ss ss ss ?_
    refine HI.out (ys++[⟨ak,an,am,ack,acn,tx⟩],rem.drop m,k') _ _ Hdl.out ⟨Hd.out.1,by simpa using Hp.out,Hd.out.2,ss,ss,ss,ss, ?_⟩
    simpa only [aO,aG] using hI2
theorem kP{l:List (List Int)}(h:db l=true):l.length≤16∧∀ s∈l,1≤s.length∧s.length≤6:=by
 unfold db at h
 simp only [aq,ay,Jm,decide_eq_true_eq] at h
 refine⟨h.1,fun s hs=>?_⟩
 have:=h.2.2 s hs
 unfold iz at this
 simp only [ef,not_or,beq_iff_eq,decide_eq_true_eq] at this
 omega
theorem FJ(w0:World)(hA:kX w0):tw w0:=by
 intro S l hok R h
 obtain⟨hl,hs⟩:=kP hok
 have hck:=fun S'=>su w0 S' l ⟨ω,fun s h=>by have:=hs s h;omega⟩
 unfold mQ at hck
 rw [if_pos hok] at hck
 unfold kq at h
 by_cases hne:l=[]
 ·subst hne
  rw [if_pos rfl] at h
  have hpn:=JZ w0
  simp only [dt,Ac.av,al,aj] at h hpn hck ⊢
  clear hl hs hok
  exact γR2 hck hpn func155 ntmps155 results155 h
 ·rw [if_neg hne] at h
  have hle:((l.length:Int)==0)=false:=by
   have:=pV.2 hne
   simp only [beq_eq_false_iff_ne];omega
  have hek:=fun S'=>J1 w0 S' l
  have H:=ab h
  clear h hok hne
  refine eN func155 rfl ntmps155 fun hO=>?_
  refine ε2 hck hek ?_
  refine nr (a:=S.length) (j:=0) 25 6 ss ss δ ?_
  simp only [go_sem, *]
  apply wN [2]
  ·rfl
  ·exact ss
  ·rfl
  ·exact ss
  ·exact ss
  intro LB hLB
  have hLB2:∀ m,LB.ltB (S.length+(1+m))=true:=by intro m;rw [hLB];(simp only [go_sem, *];try rfl);simp;omega
  have HLB:=ab hLB
  have HO:=ab hO
  clear hLB hck hek hle hO
  refine J2 w0 hA l ω hs (S.length+4) (S.length+1) (S.length+5) χ χ (fun ys rem S'=>ys.length≤100∧S'=S++[.cells [.sown (S.length+2) ys.length ys.length],.cells [.sval false (rem.map ct)],.arr 25 6 0 ys.length (ys.map Ac.av),.obj (.deferred (some [])),LB]) ?_ ?_ ?_ _ ?_ _ ?_
  ·rintro ys rem _ ⟨_,rfl⟩
   have h7:=hLB2 4
   clear hA hl hs
   refine⟨χ,bH.app HO.out ?_,ss⟩
   (simp only [go_sem, *];try rfl)
  ·rintro ys rem rem' _ ⟨h1,rfl⟩
   exact⟨h1,ss⟩
  ·rintro ys rem _ c hyl ⟨h1,rfl⟩ E R' hR1
   have hb:(ys.length+1) * 56≤140737488355328:=ω
   have hcl:(ys.map Ac.av).length=ys.length:=χ
   have HR:=ab hR1
   have hyl2:ys.length+1≤100:=ω
   have Hy:=ab hyl2
   obtain⟨ak,an,am,ack,acn,tx⟩:=c
   have okC:=Ac.ok ys
   simp only [cI,AV.cells] at okC
   simp only [Ac.av]
   clear hA hl hs hyl h1 hR1 hyl2
   apply wL HLB.out
   ·exact ss
   ·rfl
   ·decide
   ·rfl
   ·rfl
   ·exact ss
   intro rb BB hBB
   have HBB:=ab hBB
   clear hBB
   refine ε0 ?_
   apply wK
   ·exact ss
   ·exact ss
   refine ε0 ?_
   apply LZ HLB.out HBB.out
   ·exact ss
   ·exact ss
   have key:=HR.out (S++[.cells [.sown (S.length+2) (ys.length+1) (ys.length+1)],.cells [.sval false (rem.map ct)],.arr 25 6 0 (ys.length+1) (ys.map Ac.av++[.agg [.int .i64 ak,.int .i64 an,.int .i64 am,.int .i64 ack,.int .i64 acn,.str tx]]),.obj (.deferred (some [])),LB]) [.cells [.int .i64 ak,.int .i64 an,.int .i64 am,.int .i64 ack,.int .i64 acn,.str tx],.arr 25 6 0 0 [.agg [.int .i64 ak,.int .i64 an,.int .i64 am,.int .i64 ack,.int .i64 acn,.str tx]]] ⟨by rw [ah];exact Hy.out,by rw [ah,aM];rfl⟩
   simpa only [nJ,fQ,gu] using key
  ·exact⟨χ,ss⟩
  ·rintro _ ⟨_,rfl⟩
   have hh:=H.out
   generalize hZ l.length l=ys at hh ⊢
   clear hA hl hs H
   have okC:=Ac.ok ys
   apply A1 HLB.out rfl
   ·exact ss
   ·exact ss
   refine ε0 ?_
   refine fR results155 ?_
   exact hh
end Go.Proofs.YthdbijpefkapnaaGreatDoor
