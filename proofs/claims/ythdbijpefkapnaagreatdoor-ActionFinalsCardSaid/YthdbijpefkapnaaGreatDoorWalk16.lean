/- YthdbijpefkapnaaGreatDoorWalk16: a part of the proof. -/
import Derived.Test.YthdbijpefkapnaaGreatDoorWalk2
import Derived.Test.YthdbijpefkapnaaGreatDoorWalk15
import Derived.Test.YthdbijpefkapnaaGreatDoorCore4
import Derived.Test.YthdbijpefkapnaaGreatDoorWalk10
import Derived.Test.YthdbijpefkapnaaGreatDoorWalk1
import Derived.Test.YthdbijpefkapnaaGreatDoorCore3
set_option linter.all false
set_option maxHeartbeats 40000000
open And renaming intro → a6
open Bool renaming and_eq_true → ao, false_or → vH, not_eq_true' → aw, or_eq_false_iff → ct, or_eq_true → eF, or_false → fu
open Function renaming comp_def → aU
open Go.IntKind renaming i64 → ae, u8 → aX
open Go.IntWalk renaming i64_in → ah, u8_in → di
open Go.Lib renaming hid → ab
open Int renaming eq_ofNat_of_zero_le → ng, le_refl → Eu
open List renaming all_eq_true → aC, all_map → bu, any_append → eK, any_cons → fH, any_eq_false → Eg, any_nil → fY, append_assoc → aN, append_nil → aG, cons_append → ft, dropLast_concat → z6, dropLast_concat_getLast → vF, drop_eq_getElem_cons → p9, drop_of_length_le → jz, find?_eq_none → jN, getElem?_append_left → az, getElem?_eq_getElem → al, length → iz, length_append → ai, length_cons → aB, length_drop → BJ, length_eq_one_iff → p8, length_nil → aL, length_pos_iff → nt, map → bx, map_append → aY, map_cons → ap, map_nil → aq, mem_append → cH, mem_map → aM, mem_range → dI, mem_singleton → bk, nil_append → fS, range → ba, set_append_left → qt, take → pi, take_of_length_le → dV, take_succ_cons → aZ, take_zero → aP
open Nat renaming le_refl → a8, zero_add → bC, zero_le → bf, zero_lt_succ → fq
open Option renaming map_none → jM, map_some → dd, toList_none → fa, toList_some → ip
open Option.some renaming inj → bc
open UInt8 renaming ofNat → ay
namespace Go.Proofs.YthdbijpefkapnaaGreatDoor
open Go Go.Fen Go.Proofs.Tryz
attribute [local irreducible] aW WP aj dS jl cQ aV cV
set_option maxRecDepth 8000
variable (w0:World) (S:List aH)
def kD(w0:World):Prop:=gl w0 3=.pro [.int .i64 1,.int .i64 1,.int .i64 22,.int .i64 2,.int .i64 2,.int .i64 22,.int .i64 4,.int .i64 3,.int .i64 23,.int .i64 8,.int .i64 5,.int .i64 25,.int .i64 16,.int .i64 7,.int .i64 27,.int .i64 32,.int .i64 8,.int .i64 28,.int .i64 64,.int .i64 9,.int .i64 29,.int .i64 128,.int .i64 53,.int .i64 55]
def rh:List (Int × Ac):=[(0,df 0 0),(4,df 3 1),(21,df 3 2),(24,df 3 0),(39,df 4 0),(49,df 5 0),(59,df 6 0),(1,df 1 1),(22,df 2 3),(2,df 1 2),(3,df 1 4),(23,df 2 4),(5,df 1 8),(25,df 2 8),(7,df 1 16),(27,df 2 16),(8,df 1 32),(28,df 2 32),(9,df 1 64),(29,df 2 64),(53,df 1 128),(55,df 2 128),(6,df 1 8),(30,dC 4 1 0),(90,dC 4 1 8),(40,dC 5 1 0),(100,dC 5 1 8),(31,dC 4 1 1),(91,dC 4 1 9),(41,dC 5 1 1),(101,dC 5 1 9),(32,dC 4 1 2),(92,dC 4 1 10),(42,dC 5 1 2),(102,dC 5 1 10),(33,dC 4 1 3),(93,dC 4 1 11),(43,dC 5 1 3),(103,dC 5 1 11),(34,dC 4 1 4),(94,dC 4 1 12),(44,dC 5 1 4),(104,dC 5 1 12),(35,dC 4 1 5),(95,dC 4 1 13),(45,dC 5 1 5),(105,dC 5 1 13),(36,dC 4 1 6),(96,dC 4 1 14),(46,dC 5 1 6),(106,dC 5 1 14),(37,dC 4 1 7),(97,dC 4 1 15),(47,dC 5 1 7),(107,dC 5 1 15)]
def g7:List (AV × AV):=rh.map fun p=>(.int .i64 p.1,p.2.av)
theorem EZ(w0:World)(hA:kD w0)(S:List aH)(R:Rt)(h:R (.ret (.mval g7)) S):aj prog w0 255 [] S R:=by
 have hpn:=IJ w0
 have hco:=wj w0
 have H:=ab h
 clear h
 unfold kD at hA
 simp only [df,Ac.av] at hpn
 simp only [dC,Ac.av] at hco
 refine eN func255 rfl ntmps255 fun hO=>?_
 iterate 16
  repeat' first|refine st ?_|(refine ca ?_;first|apply hpn|apply hco)|(refine br ?_ ?_<;>intro hb)|apply cT|apply fZ|refine sd ?_|refine sx ?_|apply au|(apply aF;(· decide +kernel))|refine bd ?_ ?_|(refine cd ?_;first|apply hpn|apply hco)|fail
  apply BO
  iterate 9 (· rfl)
  iterate 2 (· decide)
  iterate 3 (· simp only [go_sem, *];try rfl)
  try simp only [go_sem]
 repeat' first|refine st ?_|(refine ca ?_;first|apply hpn|apply hco)|(refine br ?_ ?_<;>intro hb)|apply cT|apply fZ|refine sd ?_|refine sx ?_|apply au|(apply aF;(· decide +kernel))|refine bd ?_ ?_|(refine cd ?_;first|apply hpn|apply hco)|fail
 refine fR results255 ?_
 exact H.out
def je(l:List (List Int)):List (List Int):=if l=[] then [[-1]] else l
def nj(l:List (List Int))(c:Nat):List (List Int) × Int :=
 if c=59 then (if (je l).length<16 then (je l++[[-1]],0) else ([],3))
 else if c=58 then (if ((je l).getLastD []).length<6 then ((je l).dropLast++[(je l).getLastD []++[-1]],0) else ([],3))
 else if 48≤c∧c≤57 then ((je l).dropLast++[((je l).getLastD []).dropLast++[min (max 0 (((je l).getLastD []).getLastD 0) * 10+((c:Int) - 48)) 9999]],0)
 else ([],6)
structure Ps where
 st:Nat
 utf:List Nat
 pv:Nat
 fn:Nat
 pars:List (List Int)
 inter:List UInt8
 text:List UInt8
 bad:Bool
 deriving DecidableEq
def Ps.av(p:Ps):AV:=.agg [.int .i64 p.st,.sval false (p.utf.map By),.int .u8 p.pv,.int .u8 p.fn,.sval false (p.pars.map cB),.str p.inter,.str p.text,.bool p.bad]
def dg(n:Nat):Ps:=⟨n,[],0,0,[],[],[],false⟩
def qv(n:Nat):Ps:=⟨n,[],0,0,[],[],[],true⟩
def lr(c:Nat):Ev:=⟨1,c,0,0,[],[],[]⟩
def wW(c:Nat):Ev:=⟨2,c,0,0,[],[],[]⟩
def tT(i:List UInt8)(b:Nat):Ev:=⟨3,0,0,b,[],i,[]⟩
def DB(p:Ps)(b:Nat):Ev:=⟨4,0,p.pv,b,p.pars,p.inter,[]⟩
def tS(p:Ps):Ev:=⟨5,0,0,0,[],[],p.text⟩
def DA(p:Ps):Ev:=⟨6,0,p.pv,p.fn,p.pars,p.inter,p.text⟩
def kW(p:Ps)(e:Ev):Ps × List Ev:=(dg 0,if p.bad then [] else [e])
def ma(p:Ps)(b:Nat):Ps:=if p.bad∨p.inter.length=2 then qv p.st else { p with inter:=p.inter++[ay b] }
def Ba(p:Ps)(b:Nat):Ps:=if (nj p.pars b).2≠0∨p.bad then qv p.st else { p with pars:=(nj p.pars b).1 }
def mq(p:Ps)(b:Nat):Ps × List Ev:=if p.st≤5 then kW p (DB p b) else ({ p with st:=11,fn:=if p.bad then p.fn else b },[])
def A8(p:Ps)(b:Nat):Ps × List Ev :=
 if b=91 then (dg 3,[]) else if b=93 then (dg 6,[]) else if b=80 then (dg 8,[]) else if b=88∨b=94∨b=95 then (dg 13,[])
 else if b<48 then (ma (dg 2) b,[]) else kW p (tT [] b)
def px(p:Ps)(b:Nat):Ps × List Ev:=if b<48 then (ma p b,[]) else kW p (tT p.inter b)
def mz(p:Ps)(b:Nat):Ps × List Ev :=
 if b<48 then (ma (dg (p.st+2)) b,[]) else if b<60 then (Ba (dg (p.st+1)) b,[]) else if b<64 then ({ dg (p.st+1) with pv:=b },[]) else mq p b
def kp(p:Ps)(b:Nat):Ps × List Ev :=
 if b<48 then (ma { p with st:=p.st+1 } b,[]) else if b<60 then (Ba p b,[]) else if b<64 then (qv p.st,[]) else mq p b
def kv(p:Ps)(b:Nat):Ps × List Ev:=if b<48 then (ma p b,[]) else if b<64 then (qv p.st,[]) else mq p b
def eY(p:Ps)(b:Nat):Ps × List Ev :=
 match p.st with
 | 0=>(p,[lr b])
 | 1=>A8 p b
 | 2=>px p b
 | 3|8=>mz p b
 | 4|9=>kp p b
 | 5|10=>kv p b
 | _=>(p,[])
def vn(b:Nat):Ps × List Ev:=if b=24∨b=26 then (dg 0,[]) else if b=27 then (dg 1,[]) else if b<32 then (dg 0,[wW b]) else (dg 0,[])
def ik(q:Ps × List Ev)(c:Nat):Ps × List Ev :=
 if c<32∨c=127 then ((vn c).1,q.2++(vn c).2) else if c<127∨159<c then (q.1,q.2++[lr c]) else q
def iG(p:Ps)(b:Nat):Ps × List Ev:=(dP p.utf b).2.foldl ik ({ dg 0 with utf:=(dP p.utf b).1 },[])
def gg(n:Nat):Bool:=n==6||(n==11||n==13)
def jY(n:Nat):Bool:=n==7||(n==12||n==14)
def jA(p:Ps)(b:Nat):Ps × List Ev :=
 if b=7∧p.st=6 then kW p (tS p) else if b<32∨b=127∨p.st=13∨p.bad then (p,[]) else if p.text.length=512 then (qv p.st,[]) else ({ p with text:=p.text++[ay b] },[])
def take1(p:Ps)(b:Nat):Ps × List Ev :=
 if p.st=0∧(p.utf≠[]∨128≤b) then iG p b
 else if b=24∨b=26 then (dg 0,[])
 else if b=27 then (if gg p.st then ({ p with st:=p.st+1 },[]) else (dg 1,[]))
 else if gg p.st then jA p b
 else if 128≤b then iG (dg 0) b
 else if b<32 then (p,if p.st≤5 then [wW b] else [])
 else if b=127 then (p,[])
 else eY p b
def wZ(p:Ps)(b:Nat):Ps × List Ev :=
 if b≠92 then take1 (dg 1) b else if p.st=7 then kW p (tS p) else if p.st=12 then kW p (DA p) else (dg 0,[])
def gJ(p:Ps)(b:Nat):Ps × List Ev:=if jY p.st∧¬ (b=24∨b=26∨b=27) then wZ p b else take1 p b
def ez(p:Ps)(s:List Nat):Ps × List Ev:=s.foldl (fun q b=>((gJ q.1 b).1,q.2++(gJ q.1 b).2)) (p,[])
structure fF (p:Ps):Prop where
 st:p.st≤14
 utf:fc p.utf=true
 byt:∀ x∈p.utf,x<256
 pv:p.pv<256
 fn:p.fn<256
 pars:dQ p.pars=true
 inter:p.inter.length≤2
 text:p.text.length≤512
theorem ql{l:List (List Int)}(h:dQ l=true):∃ pre q n,je l=pre++[q++[n]]∧pre.length≤15∧q.length≤5∧(-1≤n∧n≤9999)∧(pre.any iw=false)∧q.any lP=false:=by
 have hb:(je l).any iw=false∧(je l).length≤16∧je l≠[]:=by
  unfold je
  split
  ·exact⟨by decide,by decide,by decide⟩
  ·next hn =>
   unfold dQ at h
   simp only [ao,decide_eq_true_eq,aw] at h
   exact⟨h.2.2,h.1,hn⟩
 obtain⟨h1,h2,h3⟩:=hb
 have hsp:=vF h3
 generalize (je l).dropLast=pre at hsp
 generalize (je l).getLast h3=s at hsp
 rw [← hsp] at h1 h2
 simp only [eK,fH,fY,fu,ct,ai,aB,aL] at h1 h2
 have hs:=h1.2
 unfold iw at hs
 simp only [ct,beq_eq_false_iff_ne,decide_eq_false_iff_not] at hs
 have hne:s≠[]:=by rintro rfl;exact hs.1 rfl
 have hsq:=vF hne
 generalize s.dropLast=q at hsq
 generalize s.getLast hne=n at hsq
 subst hsq
 simp only [eK,fH,fY,fu,ct,ai,aB,aL] at hs
 have hn:=hs.2.2.2
 unfold lP at hn
 simp only [ct,decide_eq_false_iff_not] at hn
 exact⟨pre,q,n,hsp.symm,by omega,by omega,⟨by omega,by omega⟩,h1.1,hs.2.2.1⟩
theorem kR{α:Type}(l:List α)(x d:α):(l++[x]).getLastD d=x:=by simp [List.getLastD_eq_getLast?]
theorem l9{l pre:List (List Int)}{q:List Int}{n:Int}{c:Nat}(h:je l=pre++[q++[n]]):nj l c =
  if c=59 then (if pre.length<15 then (pre++[q++[n],[-1]],0) else ([],3))
  else if c=58 then (if q.length<5 then (pre++[q++[n,-1]],0) else ([],3))
  else if 48≤c∧c≤57 then (pre++[q++[min (max 0 n * 10+((c:Int) - 48)) 9999]],0)
  else ([],6):=by
 unfold nj
 rw [h,kR,kR,z6,z6]
 have e1:(pre.length+1<16)=(pre.length<15):=by rw [eq_iff_iff];omega
 have e2:(q.length+1<6)=(q.length<5):=by rw [eq_iff_iff];omega
 simp only [ai,aB,aL,bC,e1,e2,aN,ft,fS]
theorem Ca{l:List (List Int)}{c:Nat}(h:dQ l=true)(h0:(nj l c).2=0):dQ (nj l c).1=true:=by
 obtain⟨pre,q,n,hl,h1,h2,h3,h4,h5⟩:=ql h
 rw [l9 hl] at h0 ⊢
 have hb:iw (q++[n])=false:=by
  unfold iw
  simp only [ct,beq_eq_false_iff_ne,decide_eq_false_iff_not,eK,fH,fY,fu,ai,aB,aL]
  refine⟨by omega,by omega,h5, ?_⟩
  unfold lP
  simp only [ct,decide_eq_false_iff_not]
  omega
 split at h0
 ·next hc =>
  rw [if_pos hc]
  split at h0
  ·next hp =>
   rw [if_pos hp]
   unfold dQ
   simp only [ao,decide_eq_true_eq,aw,eK,fH,fY,fu,ai,aB,aL,h4,hb,vH]
   refine⟨by omega, ?_,by decide⟩
   rw [beq_eq_false_iff_ne]
   intro e
   have:=congrArg iz e
   simp at this
  ·cases h0
 ·next hc =>
  rw [if_neg hc]
  split at h0
  ·next hc =>
   rw [if_pos hc]
   split at h0
   ·next hp =>
    rw [if_pos hp]
    have hb2:iw (q++[n,-1])=false:=by
     unfold iw at hb ⊢
     simp only [ct,beq_eq_false_iff_ne,decide_eq_false_iff_not,eK,fH,fY,fu,ai,aB,aL] at hb ⊢
     exact⟨by omega,by omega,h5,hb.2.2.2,by decide⟩
    unfold dQ
    simp only [ao,decide_eq_true_eq,aw,eK,fH,fY,fu,ai,aB,aL,h4,hb2,vH]
    refine⟨by omega, ?_,trivial⟩
    rw [beq_eq_false_iff_ne]
    intro e
    have hp:pre=[]:=by
     have:=congrArg iz e
     simp at this
     exact this
    subst hp
    simp at e
    have:=congrArg iz e
    simp at this
   ·cases h0
  ·next hc =>
   rw [if_neg hc]
   split at h0
   ·next hc2 =>
    rw [if_pos hc2]
    have hv:0≤min (max 0 n * 10+((c:Int) - 48)) 9999∧min (max 0 n * 10+((c:Int) - 48)) 9999≤9999:=by omega
    generalize min (max 0 n * 10+((c:Int) - 48)) 9999=v at hv
    have hb2:iw (q++[v])=false:=by
     unfold iw at hb ⊢
     simp only [ct,beq_eq_false_iff_ne,decide_eq_false_iff_not,eK,fH,fY,fu,ai,aB,aL] at hb ⊢
     refine⟨by omega,by omega,h5, ?_⟩
     unfold lP
     simp only [ct,decide_eq_false_iff_not]
     omega
    unfold dQ
    simp only [ao,decide_eq_true_eq,aw,eK,fH,fY,fu,ai,aB,aL,h4,hb2,vH]
    refine⟨by omega, ?_,trivial⟩
    rw [beq_eq_false_iff_ne]
    intro e
    have hp:pre=[]:=by
     have:=congrArg iz e
     simp at this
     exact this
    subst hp
    simp at e
    have hq:q=[]:=by
     have:=congrArg iz e
     simp at this
     exact this
    subst hq
    simp at e
    omega
   ·cases h0
theorem fF.beg{n:Nat}(h:n≤14):fF (dg n):=⟨h,rfl,by simp [dg],fq _,fq _,rfl,bf _,bf _⟩
theorem fF.spo{n:Nat}(h:n≤14):fF (qv n):=⟨h,rfl,by simp [qv],fq _,fq _,rfl,bf _,bf _⟩
theorem fF.at{p:Ps}(h:fF p){n:Nat}(hn:n≤14):fF { p with st:=n }:=⟨hn,h.utf,h.byt,h.pv,h.fn,h.pars,h.inter,h.text⟩
theorem fF.sign{p:Ps}(h:fF p)(b:Nat):fF (ma p b):=by
 unfold ma
 split
 ·exact .spo h.st
 ·next hc =>
  refine⟨h.st,h.utf,h.byt,h.pv,h.fn,h.pars, ?_,h.text⟩
  have:=h.inter
  simp only [ai,aB,aL]
  rw [not_or] at hc
  omega
theorem fF.dig{p:Ps}(h:fF p)(b:Nat):fF (Ba p b):=by
 unfold Ba
 split
 ·exact .spo h.st
 ·next hc =>
  rw [not_or] at hc
  exact⟨h.st,h.utf,h.byt,h.pv,h.fn,Ca h.pars (Classical.not_not.1 hc.1),h.inter,h.text⟩
theorem fF.disp(p:Ps)(e:Ev):fF (kW p e).1:=.beg (by decide)
theorem fF.last{p:Ps}(h:fF p){b:Nat}(hb:b<256):fF (mq p b).1:=by
 unfold mq
 split
 ·exact .disp _ _
 ·refine⟨(by decide:11≤14),h.utf,h.byt,h.pv, ?_,h.pars,h.inter,h.text⟩
  have:=h.fn
  simp only
  split<;>assumption
theorem fF.goes{p:Ps}(h:fF p){b:Nat}(hb:b<256):fF (eY p b).1:=by
 have key:∀ n,n≤14→fF (ma (dg n) b):=fun n hn=>(fF.beg hn).sign b
 have hs:=h.st
 unfold eY
 split
 ·exact h
 ·unfold A8
  repeat' split
  all_goals first|exact .beg (by decide)|exact key 2 (by decide)
 ·unfold px
  split
  ·exact h.sign b
  ·exact .disp _ _
 ·next e =>
  unfold mz
  repeat' split
  ·exact key _ (by omega)
  ·exact(fF.beg (by omega)).dig b
  ·exact⟨by simp only [dg];omega,rfl,by simp [dg],hb,fq _,rfl,bf _,bf _⟩
  ·exact h.last hb
 ·next e =>
  unfold mz
  repeat' split
  ·exact key _ (by omega)
  ·exact(fF.beg (by omega)).dig b
  ·exact⟨by simp only [dg];omega,rfl,by simp [dg],hb,fq _,rfl,bf _,bf _⟩
  ·exact h.last hb
 ·next e =>
  unfold kp
  repeat' split
  ·exact(h.at (by omega)).sign b
  ·exact h.dig b
  ·exact .spo hs
  ·exact h.last hb
 ·next e =>
  unfold kp
  repeat' split
  ·exact(h.at (by omega)).sign b
  ·exact h.dig b
  ·exact .spo hs
  ·exact h.last hb
 ·unfold kv
  repeat' split
  ·exact h.sign b
  ·exact .spo hs
  ·exact h.last hb
 ·unfold kv
  repeat' split
  ·exact h.sign b
  ·exact .spo hs
  ·exact h.last hb
 ·exact h
theorem fF.ctl(b:Nat):fF (vn b).1:=by
 unfold vn
 repeat' split
 all_goals exact .beg (by decide)
theorem fF.code{q:Ps × List Ev}(h:fF q.1)(c:Nat):fF (ik q c).1:=by
 unfold ik
 split
 ·exact .ctl c
 ·split<;>exact h
theorem fF.codes:∀ {l:List Nat}{q:Ps × List Ev},fF q.1→fF (l.foldl ik q).1
 | [],_,h=>h
 | c::l,_,h=>fF.codes (l:=l) (h.code c)
theorem fF.print{p:Ps}(h:fF p){b:Nat}(hb:b<256):fF (iG p b).1:=by
 unfold iG
 refine fF.codes ⟨bf _,qb _ _,rd h.byt hb,fq _,fq _,rfl,bf _,bf _⟩
theorem fF.within{p:Ps}(h:fF p)(b:Nat):fF (jA p b).1:=by
 unfold jA
 split
 ·exact .disp _ _
 ·split
  ·exact h
  ·split
   ·exact .spo h.st
   ·next hc =>
    refine⟨h.st,h.utf,h.byt,h.pv,h.fn,h.pars,h.inter, ?_⟩
    have:=h.text
    simp only [ai,aB,aL]
    omega
theorem fF.take1{p:Ps}(h:fF p){b:Nat}(hb:b<256):fF (take1 p b).1:=by
 have hs:=h.st
 unfold Go.Proofs.YthdbijpefkapnaaGreatDoor.take1
 split
 ·exact h.print hb
 ·split
  ·exact .beg (by decide)
  ·split
   ·split
    ·next ht =>
     have:p.st≠14:=by
      intro e
      rw [e] at ht
      exact absurd ht (by decide)
     exact h.at (by omega)
    ·exact .beg (by decide)
   ·split
    ·exact h.within b
    ·split
     ·exact(fF.beg (by decide)).print hb
     ·split
      ·exact h
      ·split
       ·exact h
       ·exact h.goes hb
theorem fF.take{p:Ps}(h:fF p){b:Nat}(hb:b<256):fF (gJ p b).1:=by
 unfold gJ
 split
 ·unfold wZ
  repeat' split
  ·exact(fF.beg (by decide)).take1 hb
  ·exact .disp _ _
  ·exact .disp _ _
  ·exact .beg (by decide)
 ·exact h.take1 hb
theorem tD{l:List (List Int)}(h:l≠[]):je l=l:=if_neg h
theorem nl{α β:Type}(f:α→β)(q:List α)(x:α):pi q.length (bx f (q++[x]))=bx f q:=by
 rw [aY,List.take_append_of_le_length (by simp),dV (by simp)]
theorem wG{α β:Type}(f:α→β)(q:List α)(x:α):bx f q++[f x]=bx f (q++[x]):=by simp
theorem eE.all1(l:List Int):((l.map eE).all fun el=>el.cells.length==1)=true:=by
 rw [aC];intro x hx;obtain⟨y,_,rfl⟩:=aM.1 hx;rfl
theorem cB.all1(l:List (List Int)):((l.map cB).all fun el=>el.cells.length==1)=true:=by
 rw [aC];intro x hx;obtain⟨y,_,rfl⟩:=aM.1 hx;rfl
theorem wC(q:List Int)(n v:Int)(hq:q.length≤1000)(R:Rt)(h:R (.ret (.sval false ((q++[v]).map eE))) S):aj prog w0 324 [.sval false ((q++[n]).map eE),.int .i64 v] S R:=by
 have hlen:(q++[n]).length=q.length+1:=by simp
 have hw:ae.wrap (((q.length+1:Nat):Int) - 1)=(q.length:Int):=by rw [ah _ (by omega)];omega
 have htk:=nl eE q n
 have hle:(q.length:Int)≤((q.length+1:Nat):Int):=by omega
 have hle2:(q.length:Int)≤(q.length:Int):=Eu _
 have hb8:(q.length+1) * 8≤140737488355328:=by omega
 have hbe:(q.length==q.length)=true:=by simp
 have hall:=eE.all1 (q++[n])
 simp only [AV.cells] at hall
 have okA:=eE.ok q
 simp only [cN,AV.cells] at okA
 have h:R (.ret (.sval false (bx eE q++[.int .i64 v]))) S:=by rw [← wG] at h;exact h
 have H:=ab h
 clear h
 refine eN func324 rfl ntmps324 fun hO=>?_
 repeat' first|refine st ?_|(refine br ?_ ?_<;>intro hb)|fail
 have hl2:(q.length+1=(bx eE q++[AV.int .i64 v]).length)=True:=by simp
 refine fR results324 ?_
 exact H.out
theorem C4(q:List (List Int))(n v:List Int)(hq:q.length≤1000)(R:Rt)(h:R (.ret (.sval false ((q++[v]).map cB))) S):aj prog w0 323 [.sval false ((q++[n]).map cB),cB v] S R:=by
 have hlen:(q++[n]).length=q.length+1:=by simp
 have hw:ae.wrap (((q.length+1:Nat):Int) - 1)=(q.length:Int):=by rw [ah _ (by omega)];omega
 have htk:=nl cB q n
 have hle:(q.length:Int)≤((q.length+1:Nat):Int):=by omega
 have hle2:(q.length:Int)≤(q.length:Int):=Eu _
 have hb8:(q.length+1) * 24≤140737488355328:=by omega
 have hbe:(q.length==q.length)=true:=by simp
 have hall:=cB.all1 (q++[n])
 simp only [AV.cells] at hall
 have okA:=cB.ok q
 simp only [cN,AV.cells] at okA
 have h:R (.ret (.sval false (bx cB q++[.agg [.sval false (v.map eE)]]))) S:=by rw [← wG] at h;exact h
 have H:=ab h
 clear h
 rw [show cB v=.agg [.sval false (v.map eE)] from rfl]
 refine eN func323 rfl ntmps323 fun hO=>?_
 repeat' first|refine st ?_|(refine br ?_ ?_<;>intro hb)|refine sd ?_|refine sx ?_|apply au|(apply aF;(· decide +kernel))|refine bd ?_ ?_|fail
 all_goals have hl2:(q.length+1=(bx cB q++[AV.agg [.sval false (bx eE v)]]).length)=True:=by simp
 all_goals refine fR results323 ?_
 all_goals exact H.out
theorem C3(a:Nat)(ty:Option TypeId)(q:List (List Int))(n v:List Int)(hq:q.length≤1000)(ha:S[a]? = some (.cells [.sval false ((q++[n]).map cB)] ty))(R:Rt)(h:R (.ret (.tup [.sval false ((q++[v]).map cB),.int .i64 0])) S):aj prog w0 322 [.sval false (v.map eE),.own a 0] S R:=by
 have hc:=fun S'=>C4 w0 S' q n v hq
 rw [show cB v=.agg [.sval false (v.map eE)] from rfl] at hc
 clear hq
 refine eN func322 rfl ntmps322 fun hO=>?_
 repeat' first|refine st ?_|(refine ca ?_;apply hc)|(refine br ?_ ?_<;>intro hb)|fail
 refine fR results322 ?_
 exact h
def uq(q:List (List Int) × Int):AV:=.tup [.sval false (q.1.map cB),.int .i64 q.2]
theorem I5(pre:List (List Int))(q:List Int)(n:Int)(c:Nat)(hc:c<256)(hok:dQ (pre++[q++[n]])=true)(h1:pre.length≤15)(h2:q.length≤5)(h3 : -1≤n∧n≤9999)(R:Rt)(h:R (.ret (uq (nj (pre++[q++[n]]) c))) S) :
  aj prog w0 299 [.sval false ((pre++[q++[n]]).map cB),.int .u8 c] S R:=by
 have hck:=fun S'=>ry w0 S' (pre++[q++[n]]) ⟨by simp;omega,by
  intro s hs
  rcases cH.1 hs with hs|hs
  ·unfold dQ at hok
   simp only [ao,decide_eq_true_eq,aw,eK,ct,Eg] at hok
   have:=hok.2.2.1 s hs
   unfold iw at this
   simp only [eF,not_or,decide_eq_true_eq] at this
   omega
  ·rw [bk.1 hs];simp;omega⟩
 unfold oz at hck
 rw [hok] at hck
 rw [l9 (tD (by simp))] at h
 have hlen:(pre++[q++[n]]).length=pre.length+1:=by simp
 have hlen2:(q++[n]).length=q.length+1:=by simp
 have hx:(pre++[q++[n]])[pre.length]? = some (q++[n]):=by simp
 have hy:(q++[n])[q.length]? = some n:=by simp
 have hw1:ae.wrap (((pre.length+1:Nat):Int) - 1)=(pre.length:Int):=by rw [ah _ (by omega)];omega
 have hw2:ae.wrap (((q.length+1:Nat):Int) - 1)=(q.length:Int):=by rw [ah _ (by omega)];omega
 have e0:(((pre.length+1:Nat):Int)==0)=false:=by rw [beq_eq_false_iff_ne];omega
 have hall1:=cB.all1 (pre++[q++[n]])
 have hall2:=eE.all1 (q++[n])
 simp only [AV.cells] at hall1 hall2
 have okA:=cB.ok (pre++[q++[n]])
 have okB:=eE.ok (q++[n])
 simp only [cN,AV.cells] at okA okB
 have hch:=fun S' v=>C3 w0 S' (S.length) none pre (q++[n]) v (by omega)
 have hci:=fun S' v=>wC w0 S' q n v (by omega)
 have H3:=ab h3
 clear hok h3
 by_cases c1:c=59
 ·subst c1
  rw [if_pos rfl] at h
  by_cases hp:pre.length<15
  ·rw [if_pos hp] at h
   have d1:decide (((pre.length+1:Nat):Int)<16)=true:=by simp;omega
   have hle:((pre.length+1:Nat):Int)≤((pre.length+1:Nat):Int):=Eu _
   have hbe:(pre.length+1==pre.length+1)=true:=by simp
   have hb8:(pre.length+1+1) * 24≤140737488355328:=by omega
   have htk:pi (pre.length+1) (bx cB (pre++[q++[n]]))=bx cB (pre++[q++[n]]):=dV (by simp)
   have h:R (.ret (.tup [.sval false (bx cB (pre++[q++[n]])++[.agg [.sval false [.int .i64 (-1)]]]),.int .i64 0])) S:=by
    have e:bx cB (pre++[q++[n]])++[.agg [.sval false [.int .i64 (-1)]]]=bx cB (pre++[q++[n],[-1]]):=by simp [cB,eE]
    rw [e];exact h
   have H:=ab h
   clear h hp h1 h2 hch hci
   refine eN func299 rfl ntmps299 fun hO=>?_
   repeat' ((fail_if_success (apply dp 44 rfl));first|refine st ?_|(refine ca ?_;apply hck)|(refine br ?_ ?_<;>intro hb)|fail)
   refine po (t:=43) (a:=S.length+1) rfl ss ss ?_
   repeat' first|refine st ?_|(refine ca ?_;apply hck)|(refine br ?_ ?_<;>intro hb)|fail
   have hl2:(pre.length+1+1=(bx cB (pre++[q++[n]])++[AV.agg [.sval false [.int .i64 (-1)]]]).length)=True:=by simp
   refine fR results299 ?_
   exact H.out
  ·rw [if_neg hp] at h
   have d1:decide (((pre.length+1:Nat):Int)<16)=false:=by simp;omega
   have H:=ab h
   clear h hp h1 h2 hch hci
   refine eN func299 rfl ntmps299 fun hO=>?_
   repeat' first|refine st ?_|(refine ca ?_;apply hck)|(refine br ?_ ?_<;>intro hb)|refine sd ?_|refine sx ?_|apply au|(apply aF;(· decide +kernel))|refine bd ?_ ?_|(refine cd ?_;apply hck)|fail
   refine fR results299 ?_
   exact H.out
 rw [if_neg c1] at h
 have f1:((c:Int)==59)=false:=by rw [beq_eq_false_iff_ne];omega
 by_cases c2:c=58
 ·subst c2
  rw [if_pos rfl] at h
  by_cases hp:q.length<5
  ·rw [if_pos hp] at h
   have d1:decide (((q.length+1:Nat):Int)<6)=true:=by simp;omega
   have hle:((q.length+1:Nat):Int)≤((q.length+1:Nat):Int):=Eu _
   have hbe:(q.length+1==q.length+1)=true:=by simp
   have hb8:(q.length+1+1) * 8≤140737488355328:=by omega
   have htk:pi (q.length+1) (bx eE (q++[n]))=bx eE (q++[n]):=dV (by simp)
   have hch2:=fun S'=>hch S' (q++[n,-1])
   have e:bx eE (q++[n,-1])=bx eE (q++[n])++[.int .i64 (-1)]:=by simp [eE]
   rw [e] at hch2
   have H:=ab h
   clear h hp h1 h2 hch hci e
   refine eN func299 rfl ntmps299 fun hO=>?_
   repeat' ((fail_if_success (apply dp 64 rfl));first|refine st ?_|(refine ca ?_;apply hck)|(refine br ?_ ?_<;>intro hb)|fail)
   have hl2:(q.length+1+1=(bx eE (q++[n])++[AV.int .i64 (-1)]).length)=True:=by simp
   refine po (t:=63) (a:=S.length+2) rfl ss ss ?_
   repeat' first|refine st ?_|(refine ca ?_;(apply hch2;(· simp only [go_sem, *];try rfl)))|(refine br ?_ ?_<;>intro hb)|fail
   refine fR results299 ?_
   exact H.out
  ·rw [if_neg hp] at h
   have d1:decide (((q.length+1:Nat):Int)<6)=false:=by simp;omega
   have H:=ab h
   clear h hp h1 h2 hch hci
   refine eN func299 rfl ntmps299 fun hO=>?_
   repeat' first|refine st ?_|(refine ca ?_;apply hck)|(refine br ?_ ?_<;>intro hb)|refine sd ?_|refine sx ?_|apply au|(apply aF;(· decide +kernel))|refine bd ?_ ?_|(refine cd ?_;apply hck)|fail
   refine fR results299 ?_
   exact H.out
 rw [if_neg c2] at h
 have f2:((c:Int)==58)=false:=by rw [beq_eq_false_iff_ne];omega
 by_cases c3:48≤c∧c≤57
 ·rw [if_pos c3] at h
  have g1:decide ((48:Int)≤(c:Int))=true:=by simp;omega
  have g2:decide ((c:Int)≤57)=true:=by simp;omega
  have hwc:aX.wrap ((c:Int) - 48)=(c:Int) - 48:=di _ (by omega)
  have hwd:ae.wrap ((c:Int) - 48)=(c:Int) - 48:=ah _ (by omega)
  obtain⟨m,hm⟩:∃ m:Int,(if (0:Int)<n then n else 0)=m:=⟨_,rfl⟩
  have hm2:m=max 0 n∧0≤m∧m≤9999:=by have:=H3.out;subst hm;split<;>omega
  have hwm:ae.wrap (m * 10)=m * 10:=ah _ (by omega)
  have hwa:ae.wrap (m * 10+((c:Int) - 48))=m * 10+((c:Int) - 48):=ah _ (by omega)
  obtain⟨v,hv⟩:∃ v:Int,(if (9999:Int)<m * 10+((c:Int) - 48) then 9999 else m * 10+((c:Int) - 48))=v:=⟨_,rfl⟩
  have hv2:v=min (max 0 n * 10+((c:Int) - 48)) 9999:=by subst hv;rw [← hm2.1];split<;>omega
  rw [← hv2] at h
  have hch2:=fun S'=>hch S' (q++[v])
  have hci2:=fun S'=>hci S' v
  have H:=ab h
  clear h c1 c2 c3 h1 h2 hch hci hv2 hm2
  refine eN func299 rfl ntmps299 fun hO=>?_
  repeat' first|refine st ?_|(refine ca ?_;first|apply hck|(apply hch2;(· simp only [go_sem, *];try rfl))|apply hci2)|(refine br ?_ ?_<;>intro hb)|fail
  refine fR results299 ?_
  exact H.out
 ·rw [if_neg c3] at h
  have H:=ab h
  clear h h1 h2 hch hci
  by_cases c4:48≤c
  ·have g1:decide ((48:Int)≤(c:Int))=true:=by simp;omega
   have g2:decide ((c:Int)≤57)=false:=by simp;omega
   clear c1 c2 c3 c4
   refine eN func299 rfl ntmps299 fun hO=>?_
   repeat' first|refine st ?_|(refine ca ?_;apply hck)|(refine br ?_ ?_<;>intro hb)|fail
   refine fR results299 ?_
   exact H.out
  ·have g1:decide ((48:Int)≤(c:Int))=false:=by simp;omega
   clear c1 c2 c3 c4
   refine eN func299 rfl ntmps299 fun hO=>?_
   repeat' first|refine st ?_|(refine ca ?_;apply hck)|(refine br ?_ ?_<;>intro hb)|fail
   refine fR results299 ?_
   exact H.out
theorem kP(l:List (List Int)):(dD l).length≤l.length:=by
 induction l with
 | nil=>simp [dD]
 | cons s r ih =>
  match s with
  | []=>simp [dD]
  | [n]=>simp only [dD,aB];omega
  | _::_::_=>simp [dD]
theorem nu{s:List Int}(r:List (List Int))(h:s.length≠1):dD (s::r)=[]:=by
 match s,h with
 | [],_=>rfl
 | _::_::_,_=>rfl
theorem kn(l:List (List Int))(hl:l.length≤1000000)(R:Rt)(h:R (.ret (.sval false ((dD l).map eE))) S):aj prog w0 295 [.sval false (l.map cB)] S R:=by
 refine eN func295 rfl ntmps295 fun hO=>?_
 repeat' first|refine st ?_|(refine br ?_ ?_<;>intro hb)|fail
 have HO:=ab hO
 clear hO
 refine jp (t:=2) 3 1 ss (by decide) ?_
 try simp only [go_sem, *]
 refine cW (fun (p:Nat × List Int) env S'=>p.1≤l.length∧dD l=p.2++dD (l.drop p.1)∧p.2.length=p.1∧env 1000000=.dfr []∧env 2=.sown S.length p.1 p.1∧env 5=.sval false (l.map cB)∧env 6=.int .i64 l.length∧env 7=.int .i64 (p.1:Int) ∧
  S'=S++[.arr 3 1 0 p.1 (p.2.map eE)]) (fun p=>l.length - p.1) (0,[]) ?_ ?_
 ·exact⟨bf _,rfl,rfl,ss,ss,ss,ss,ss,rfl⟩
 ·rintro⟨k,vs⟩ env S' ⟨hk,hv,hvl,e0,f2,f5,f6,f7,rfl⟩ IH
  have HI:=ab IH
  have H:=ab h
  clear IH h
  simp only at hk hv hvl f2 f7 ⊢
  have hlm:(vs.map eE).length=k:=by simp [hvl]
  by_cases hlt:k<l.length
  ·obtain⟨x,hx⟩:∃ x,l[k]? = some x:=⟨_,al hlt⟩
   have hd:l.drop k=x::l.drop (k+1):=by
    rw [p9 hlt]
    congr 1
    rw [al hlt] at hx
    exact bc hx
   have h1:decide ((k:Int)<(l.length:Int))=true:=by simpa using hlt
   by_cases hx1:x.length=1
   ·obtain⟨n,rfl⟩:=p8.1 hx1
    have hw:ae.wrap ((k:Int)+1)=((k+1:Nat):Int):=by rw [ah _ (by omega)];omega
    have hm:(if n>0 then n else 0)=max 0 n:=by split<;>omega
    have hv2:dD l=(vs++[max 0 n])++dD (l.drop (k+1)):=by rw [hv,hd];simp [dD]
    have hp:cB [n]=.agg [.sval false [.int .i64 n]]:=rfl
    have hb8:(k+1) * 8≤140737488355328:=by omega
    have hb9:k+1≤17592186044416:=by omega
    generalize max 0 n=q at *
    have Hv:=ab (a6 hv2 (a6 hvl hlt))
    clear hk hv hvl hlt hd hx1 hv2
    repeat' first|refine st ?_|(refine br ?_ ?_<;>intro hb)|fail
    refine cw HO.out 1 [2,5,6,7] rfl ss ss ss ?_
    simp only [aZ,aP]
    refine HI.out (k+1,vs++[q]) _ _ (by have:=Hv.out.2.2;simp only;omega) ⟨Hv.out.2.2,Hv.out.1,by simp [Hv.out.2.1],ss,ss,ss,ss,ss, ?_⟩
    rw [aY];first|done|rfl
   ·have hvv:dD l=vs:=by rw [hv,hd,nu _ hx1,aG]
    have hh:=H.out
    rw [hvv] at hh
    have hp:cB x=.agg [.sval false (x.map eE)]:=rfl
    have hd1:((x.length:Int) != 1)=true:=by rw [bne_iff_ne];omega
    clear hk hv hvl hlt hd hx1 HI hvv
    repeat' first|refine st ?_|(refine br ?_ ?_<;>intro hb)|fail
    refine fR results295 ?_
    exact hh
  ·have h1:decide ((k:Int)<(l.length:Int))=false:=by simpa using hlt
   have hvv:dD l=vs:=by rw [hv,jz (by omega)];simp [dD]
   have hh:=H.out
   rw [hvv] at hh
   clear hk hv hvl hlt HI hvv
   repeat' first|refine st ?_|(refine br ?_ ?_<;>intro hb)|fail
   refine fR results295 ?_
   exact hh
theorem E0(s:List Int)(h1:1≤s.length)(h6:s.length≤6)(R:Rt)(h:PR R S (dy s)):aj prog w0 296 [.sval false (s.map eE)] S R:=by
 match s,h1,h6 with
 | [a],_,_=>exact E9 w0 S a R h
 | [a,b],_,_=>exact E8 w0 S a b R h
 | [a,b,c],_,_=>exact E7 w0 S a b c R h
 | [a,b,c,d],_,_=>exact E6 w0 S a b c d R h
 | [a,b,c,d,e],_,_=>exact E5 w0 S a b c d e R h
 | [a,b,c,d,e,f],_,_=>exact E4 w0 S a b c d e f R h
 | _::_::_::_::_::_::_::_,_,h=>simp at h
theorem ED(n:Nat)(h:n<108):ir (n:Int)=(rh.find? fun p=>(n:Int)==p.1).map (·.2):=by
 have:(ba 108).all (fun n=>decide (ir (n:Int)=(rh.find? fun p=>(n:Int)==p.1).map (·.2)))=true:=by decide +kernel
 simpa using aC.1 this n (dI.2 h)
theorem Ce:rh.all (fun p=>decide (0≤p.1)&&decide (p.1<108))=true:=by decide +kernel
theorem uw(v:Int):ir v=(rh.find? fun p=>v==p.1).map (·.2):=by
 by_cases hv:0≤v∧v<108
 ·obtain⟨n,rfl⟩:=ng hv.1
  exact ED n (by omega)
 ·have h1:(rh.find? fun p=>v==p.1)=none:=by
   rw [jN]
   intro p hp hq
   have:=aC.1 Ce p hp
   simp only [ao,decide_eq_true_eq] at this
   simp only [beq_iff_eq] at hq
   omega
  rw [h1]
  unfold ir
  iterate 26 rw [if_neg (by omega)]
  rfl
theorem pw(c:Int):(g7.find? (fun e=>ku (.int .i64 c) e.1)=(rh.find? fun p=>c==p.1).map fun p=>((.int .i64 p.1:AV),p.2.av))∧g7.all (fun e=>eX prog 3 e.1)=true:=by
 constructor
 ·exact rO c rh
 ·unfold g7
  rw [bu]
  exact aC.2 fun p _=>by simp only [eX,aU,go_sem]
def FR(R:Rt)(S:List aH)(q:Option Ac × Nat):Prop:=match q with
 | (some a,n)=>R (.ret (.tup [a.av,.bool true,.int .i64 n])) S
 | (none,n)=>∀ a:Ac,R (.ret (.tup [a.av,.bool false,.int .i64 n])) S
theorem Fe(s:List Int)(r:List (List Int))(hs:s.length≠1)(h1:1≤s.length)(h6:s.length≤6)(hl:r.length≤100)(R:Rt)(h:FR R S (dy s,1)):aj prog w0 256 [.sval false ((s::r).map cB),.mval g7] S R:=by
 have hva:=fun S'=>kn w0 S' (s::r) (by simp;omega)
 rw [nu r hs] at hva
 have hsi:g7=g7:=rfl
 simp only [ap,aq,cB] at hva ⊢
 generalize g7=M at *
 have HP:=fun S' R=>E0 w0 S' s h1 h6 R
 cases hps:dy s with
 | none =>
  rw [hps] at h HP
  simp only [FR,PR] at h HP
  clear hps hs h1 h6 hl
  refine eN func256 rfl ntmps256 fun hO=>?_
  repeat' first|refine st ?_|(refine ca ?_;first|apply hva|apply HP)|(refine br ?_ ?_<;>intro hb)|fail
  rintro⟨ak,an,am,ack,acn,tx⟩
  simp only [Ac.av,aV,putA]
  repeat' first|refine st ?_|(refine br ?_ ?_<;>intro hb)|fail
  refine fR results256 ?_
  exact h ⟨ak,an,am,ack,acn,tx⟩
 | some a =>
  obtain⟨ak,an,am,ack,acn,tx⟩:=a
  rw [hps] at h HP
  simp only [FR,PR,Ac.av] at h HP
  clear hps hs h1 h6 hl
  refine eN func256 rfl ntmps256 fun hO=>?_
  repeat' first|refine st ?_|(refine ca ?_;first|apply hva|apply HP)|(refine br ?_ ?_<;>intro hb)|fail
  refine fR results256 ?_
  exact h
def looks(x:Int)(r:List Int):Prop:=bR x=none∨(∃ n,bR x=some n)∧(r=[]∨∃ h t,r=h::t∧h≠5∧h≠2)
theorem Fb(l:List (List Int))(x:Int)(r:List Int)(hv:dD l=x::r)(hl:l.length≤100)(hw:bR x=none)(R:Rt)(h:FR R S (ir x,1)):aj prog w0 256 [.sval false (l.map cB),.mval g7] S R:=by
 have hva:=fun S'=>kn w0 S' l (by omega)
 have hof:=fun S'=>Aw w0 S' x
 rw [hv] at hva
 rw [hw] at hof
 simp only [ap,qh,eE] at hva hof
 clear hv hw hl
 obtain⟨hf,ha⟩:=pw x
 rw [uw x] at h
 rcases iM (fun p=>x==p.1) rh with hk|⟨j,a,hk⟩
 ·rw [hk] at hf h
  simp only [jM,FR] at hf h
  simp only [go_sem] at hf ha
  clear hk
  generalize g7=M at *
  refine eN func256 rfl ntmps256 fun hO=>?_
  repeat' first|refine st ?_|(refine ca ?_;first|apply hva|apply hof)|(refine br ?_ ?_<;>intro hb)|fail
  refine fR results256 ?_
  exact h ⟨0,0,0,0,0,[]⟩
 ·rw [hk] at hf h
  obtain⟨k1,k2,k3,k4,k5,k6⟩:=a
  simp only [dd,FR,Ac.av] at hf h
  simp only [go_sem] at hf ha
  clear hk
  generalize g7=M at *
  refine eN func256 rfl ntmps256 fun hO=>?_
  repeat' first|refine st ?_|(refine ca ?_;first|apply hva|apply hof)|(refine br ?_ ?_<;>intro hb)|fail
  refine fR results256 ?_
  exact h
theorem Fc(l:List (List Int))(x:Int)(n:Int)(hv:dD l=x::[])(hl:l.length≤100)(hw:bR x=some n)(R:Rt)(h:FR R S (ir x,1)):aj prog w0 256 [.sval false (l.map cB),.mval g7] S R:=by
 have hva:=fun S'=>kn w0 S' l (by omega)
 have hof:=fun S'=>Aw w0 S' x
 rw [hv] at hva
 rw [hw] at hof
 simp only [ap,aq,qh,eE] at hva hof
 clear hv hw hl
 obtain⟨hf,ha⟩:=pw x
 rw [uw x] at h
 rcases iM (fun p=>x==p.1) rh with hk|⟨j,a,hk⟩
 ·rw [hk] at hf h
  simp only [jM,FR] at hf h
  simp only [go_sem] at hf ha
  clear hk
  generalize g7=M at *
  refine eN func256 rfl ntmps256 fun hO=>?_
  repeat' first|refine st ?_|(refine ca ?_;first|apply hva|apply hof)|(refine br ?_ ?_<;>intro hb)|fail
  refine fR results256 ?_
  exact h ⟨0,0,0,0,0,[]⟩
 ·rw [hk] at hf h
  obtain⟨k1,k2,k3,k4,k5,k6⟩:=a
  simp only [dd,FR,Ac.av] at hf h
  simp only [go_sem] at hf ha
  clear hk
  generalize g7=M at *
  refine eN func256 rfl ntmps256 fun hO=>?_
  repeat' first|refine st ?_|(refine ca ?_;first|apply hva|apply hof)|(refine br ?_ ?_<;>intro hb)|fail
  refine fR results256 ?_
  exact h
theorem Fa(l:List (List Int))(x:Int)(n g:Int)(t:List Int)(hv:dD l=x::g::t)(hl:l.length≤100)(hw:bR x=some n)(h5:g≠5)(h2:g≠2)(R:Rt)(h:FR R S (ir x,1)):aj prog w0 256 [.sval false (l.map cB),.mval g7] S R:=by
 have hva:=fun S'=>kn w0 S' l (by omega)
 have hof:=fun S'=>Aw w0 S' x
 rw [hv] at hva
 rw [hw] at hof
 simp only [ap,qh,eE] at hva hof
 have d5:(g==5)=false:=by simpa using h5
 have d2:(g==2)=false:=by simpa using h2
 have dl:decide ((1:Int)<((t.length+1+1:Nat):Int))=true:=by simp only [decide_eq_true_eq];omega
 clear hv hw hl h5 h2
 obtain⟨hf,ha⟩:=pw x
 rw [uw x] at h
 rcases iM (fun p=>x==p.1) rh with hk|⟨j,a,hk⟩
 ·rw [hk] at hf h
  simp only [jM,FR] at hf h
  simp only [go_sem] at hf ha
  clear hk
  generalize g7=M at *
  refine eN func256 rfl ntmps256 fun hO=>?_
  repeat' first|refine st ?_|(refine ca ?_;first|apply hva|apply hof)|(refine br ?_ ?_<;>intro hb)|fail
  refine fR results256 ?_
  exact h ⟨0,0,0,0,0,[]⟩
 ·rw [hk] at hf h
  obtain⟨k1,k2,k3,k4,k5,k6⟩:=a
  simp only [dd,FR,Ac.av] at hf h
  simp only [go_sem] at hf ha
  clear hk
  generalize g7=M at *
  refine eN func256 rfl ntmps256 fun hO=>?_
  repeat' first|refine st ?_|(refine ca ?_;first|apply hva|apply hof)|(refine br ?_ ?_<;>intro hb)|fail
  refine fR results256 ?_
  exact h
theorem Ct(l:List (List Int))(x:Int)(n:Int)(t:List Int)(hv:dD l=x::5::t)(hl:l.length≤100)(hw:bR x=some n)(ht:t.length<1)(R:Rt)(h:FR R S (none,min 3 l.length)):aj prog w0 256 [.sval false (l.map cB),.mval g7] S R:=by
 have hvl:=kP l
 rw [hv] at hvl
 simp only [aB] at hvl
 have hva:=fun S'=>kn w0 S' l (by omega)
 have hof:=fun S'=>Aw w0 S' x
 rw [hv] at hva
 rw [hw] at hof
 simp only [ap,qh,eE] at hva hof
 have dl:decide ((1:Int)<((t.length+1+1:Nat):Int))=true:=by simp only [decide_eq_true_eq];omega
 have dn:decide ((3:Int)≤((t.length+1+1:Nat):Int))=false:=by simp only [decide_eq_false_iff_not];omega
 have hmn:(if (l.length:Int)<3 then (l.length:Int) else 3)=((min 3 l.length:Nat):Int):=by split<;>omega
 simp only [FR] at h
 clear hv hw hl ht hvl
 generalize g7=M at *
 refine eN func256 rfl ntmps256 fun hO=>?_
 repeat' first|refine st ?_|(refine ca ?_;first|apply hva|apply hof)|(refine br ?_ ?_<;>intro hb)|fail
 refine fR results256 ?_
 exact h ⟨0,0,0,0,0,[]⟩
theorem Cu(l:List (List Int))(x:Int)(n:Int)(a:Int)(t:List Int)(hv:dD l=x::5::a::t)(hl:l.length≤100)(hw:bR x=some n)(R:Rt)(h:FR R S (dG n 5 [a],3)):aj prog w0 256 [.sval false (l.map cB),.mval g7] S R:=by
 have hvl:=kP l
 rw [hv] at hvl
 simp only [aB] at hvl
 have hva:=fun S'=>kn w0 S' l (by omega)
 have hof:=fun S'=>Aw w0 S' x
 have hsh:=fun S'=>nw w0 S' n 5 [a] (by simp)
 rw [hv] at hva
 rw [hw] at hof
 simp only [ap,aq,qh,eE] at hva hof hsh
 have dl:decide ((1:Int)<((t.length+1+1+1:Nat):Int))=true:=by simp only [decide_eq_true_eq];omega
 have dn:(3:Int)≤((t.length+1+1+1:Nat):Int):=by omega
 have okC:=eE.all1 t
 simp only [AV.cells] at okC
 have hmn:(if (l.length:Int)<3 then (l.length:Int) else 3)=3:=by split<;>omega
 clear hv hw hl hvl
 cases hs:dG n 5 [a] with
 | none =>
  rw [hs] at h hsh
  simp only [FR,rz] at h hsh
  clear hs
  generalize g7=M at *
  refine eN func256 rfl ntmps256 fun hO=>?_
  repeat' first|refine st ?_|(refine ca ?_;first|apply hva|apply hof|apply hsh)|(refine br ?_ ?_<;>intro hb)|refine sd ?_|apply au|(apply aF;(· decide +kernel))|refine bd ?_ ?_|(refine cd ?_;first|apply hva|apply hof|apply hsh)|fail
  refine fR results256 ?_
  exact h ⟨0,0,0,0,0,[]⟩
 | some y =>
  obtain⟨k1,k2,k3,k4,k5,k6⟩:=y
  rw [hs] at h hsh
  simp only [FR,rz,Ac.av] at h hsh
  clear hs
  generalize g7=M at *
  refine eN func256 rfl ntmps256 fun hO=>?_
  repeat' first|refine st ?_|(refine ca ?_;first|apply hva|apply hof|apply hsh)|(refine br ?_ ?_<;>intro hb)|refine sd ?_|apply au|(apply aF;(· decide +kernel))|refine bd ?_ ?_|(refine cd ?_;first|apply hva|apply hof|apply hsh)|fail
  refine fR results256 ?_
  exact h
theorem rl(l:List (List Int))(x:Int)(n:Int)(t:List Int)(hv:dD l=x::2::t)(hl:l.length≤100)(hw:bR x=some n)(ht:t.length<3)(R:Rt)(h:FR R S (none,min 5 l.length)):aj prog w0 256 [.sval false (l.map cB),.mval g7] S R:=by
 have hvl:=kP l
 rw [hv] at hvl
 simp only [aB] at hvl
 have hva:=fun S'=>kn w0 S' l (by omega)
 have hof:=fun S'=>Aw w0 S' x
 rw [hv] at hva
 rw [hw] at hof
 simp only [ap,qh,eE] at hva hof
 have dl:decide ((1:Int)<((t.length+1+1:Nat):Int))=true:=by simp only [decide_eq_true_eq];omega
 have dn:decide ((5:Int)≤((t.length+1+1:Nat):Int))=false:=by simp only [decide_eq_false_iff_not];omega
 have hmn:(if (l.length:Int)<5 then (l.length:Int) else 5)=((min 5 l.length:Nat):Int):=by split<;>omega
 simp only [FR] at h
 clear hv hw hl ht hvl
 generalize g7=M at *
 refine eN func256 rfl ntmps256 fun hO=>?_
 repeat' first|refine st ?_|(refine ca ?_;first|apply hva|apply hof)|(refine br ?_ ?_<;>intro hb)|fail
 refine fR results256 ?_
 exact h ⟨0,0,0,0,0,[]⟩
theorem Cv(l:List (List Int))(x:Int)(n:Int)(a b c:Int)(t:List Int)(hv:dD l=x::2::a::b::c::t)(hl:l.length≤100)(hw:bR x=some n)(R:Rt)(h:FR R S (dG n 2 [a,b,c],5)):aj prog w0 256 [.sval false (l.map cB),.mval g7] S R:=by
 have hvl:=kP l
 rw [hv] at hvl
 simp only [aB] at hvl
 have hva:=fun S'=>kn w0 S' l (by omega)
 have hof:=fun S'=>Aw w0 S' x
 have hsh:=fun S'=>nw w0 S' n 2 [a,b,c] (by simp)
 rw [hv] at hva
 rw [hw] at hof
 simp only [ap,aq,qh,eE] at hva hof hsh
 have dl:decide ((1:Int)<((t.length+1+1+1+1+1:Nat):Int))=true:=by simp only [decide_eq_true_eq];omega
 have dn:(5:Int)≤((t.length+1+1+1+1+1:Nat):Int):=by omega
 have okC:=eE.all1 t
 simp only [AV.cells] at okC
 have hmn:(if (l.length:Int)<5 then (l.length:Int) else 5)=5:=by split<;>omega
 clear hv hw hl hvl
 cases hs:dG n 2 [a,b,c] with
 | none =>
  rw [hs] at h hsh
  simp only [FR,rz] at h hsh
  clear hs
  generalize g7=M at *
  refine eN func256 rfl ntmps256 fun hO=>?_
  repeat' first|refine st ?_|(refine ca ?_;first|apply hva|apply hof|apply hsh)|(refine br ?_ ?_<;>intro hb)|refine sd ?_|apply au|(apply aF;(· decide +kernel))|refine bd ?_ ?_|(refine cd ?_;first|apply hva|apply hof|apply hsh)|fail
  refine fR results256 ?_
  exact h ⟨0,0,0,0,0,[]⟩
 | some y =>
  obtain⟨k1,k2,k3,k4,k5,k6⟩:=y
  rw [hs] at h hsh
  simp only [FR,rz,Ac.av] at h hsh
  clear hs
  generalize g7=M at *
  refine eN func256 rfl ntmps256 fun hO=>?_
  repeat' first|refine st ?_|(refine ca ?_;first|apply hva|apply hof|apply hsh)|(refine br ?_ ?_<;>intro hb)|refine sd ?_|apply au|(apply aF;(· decide +kernel))|refine bd ?_ ?_|(refine cd ?_;first|apply hva|apply hof|apply hsh)|fail
  refine fR results256 ?_
  exact h
theorem IK(l:List (List Int))(hne:l≠[])(hl:l.length≤100)(hs:∀ s∈l,1≤s.length∧s.length≤6)(R:Rt)(h:FR R S (dM l)):aj prog w0 256 [.sval false (l.map cB),.mval g7] S R:=by
 unfold dM at h
 cases hv:dD l with
 | nil =>
  rw [hv] at h
  match l,hne,hl,hs,hv,h with
  | s::r,_,hl,hs,hv,h =>
   have h1:=hs s (by simp)
   have hn:s.length≠1:=by
    intro e
    obtain⟨n,rfl⟩:=p8.1 e
    simp [dD] at hv
   exact Fe w0 S s r hn h1.1 h1.2 (by simp at hl;omega) R h
 | cons x r =>
  rw [hv] at h
  cases hw:bR x with
  | none =>
   simp only [hw] at h
   exact Fb w0 S l x r hv hl hw R h
  | some n =>
   simp only [hw] at h
   match r,hv,h with
   | [],hv,h=>exact Fc w0 S l x n hv hl hw R h
   | g::t,hv,h =>
    simp only at h
    by_cases h5:g=5
    ·subst h5
     rw [if_pos rfl] at h
     match t,hv,h with
     | [],hv,h=>exact Ct w0 S l x n [] hv hl hw (by simp) R h
     | a::t,hv,h =>
      rw [if_pos (by simp)] at h
      exact Cu w0 S l x n a t hv hl hw R h
    ·rw [if_neg h5] at h
     by_cases h2:g=2
     ·subst h2
      rw [if_pos rfl] at h
      match t,hv,h with
      | [],hv,h=>exact rl w0 S l x n [] hv hl hw (by simp) R h
      | [a],hv,h=>exact rl w0 S l x n [a] hv hl hw (by simp) R h
      | [a,b],hv,h=>exact rl w0 S l x n [a,b] hv hl hw (by simp) R h
      | a::b::c::t,hv,h =>
       rw [if_pos (by simp)] at h
       exact Cv w0 S l x n a b c t hv hl hw R h
     ·rw [if_neg h2] at h
      exact Fa w0 S l x n g t hv hl hw h5 h2 R h
theorem qY{l:List (List Int)}(h:l≠[]):1≤(dM l).2∧(dM l).2≤l.length:=by
 have hl:1≤l.length:=nt.2 h
 have hv:=kP l
 unfold dM
 split
 ·exact⟨by simp,by simpa using hl⟩
 ·next v r hvr =>
  rw [hvr] at hv
  split
  ·next n g t _ =>
   simp only [aB] at hv
   split
   ·split
    ·exact⟨by simp,by simp only;omega⟩
    ·exact⟨by simp only;omega,by simp only;omega⟩
   ·split
    ·split
     ·exact⟨by simp,by simp only;omega⟩
     ·exact⟨by simp only;omega,by simp only;omega⟩
    ·exact⟨by simp,by simpa using hl⟩
  ·exact⟨by simp,by simpa using hl⟩
theorem ru:∀ (k:Nat) (l:List (List Int)),(gR k l).length≤k
 | 0,_=>a8 _
 | k+1,l=>by
  unfold gR
  split
  ·simp
  ·have:=ru k (l.drop (dM l).2)
   cases (dM l).1<;>simp only [fa,ip,ai,aB,aL]<;>omega
theorem IL(l:List (List Int))(R:Rt)(h:R (.ret (.fn (.func 254) [] [.own S.length 0])) (S++[.cells [.sval false (l.map cB)]])):aj prog w0 211 [.sval false (l.map cB)] S R:=by
 refine DC func211 rfl (by decide +kernel) (by rw [ntmps211];simp) (by rw [ntmps211];decide) (fun hO=>?_);rw [ntmps211]
 repeat' first|refine st ?_|(refine br ?_ ?_<;>intro hb)|fail
 (apply Dz;iterate 4 (· simp only [go_sem, *,results211];try rfl))
 exact h
theorem IM(w0:World)(hA:kD w0)(l0:List (List Int))(hl0:l0.length≤100)(hs0:∀ s∈l0,1≤s.length∧s.length≤6)(a b n:Nat)(ha:decide (a<n)=true)(hb:decide (b<n)=true)(I:List Ac→List (List Int)→List aH→Prop)
  (hI:∀ ys rem S,I ys rem S→S.length=n∧bD S∧S[b]? = some (.cells [.sval false (rem.map cB)]))
  (hset:∀ ys rem rem' S,I ys rem S→I ys rem' (S.set b (.cells [.sval false (rem'.map cB)])))
  (hround:∀ ys rem S c,ys.length<l0.length→I ys rem S→∀ (E:List aH) (R':gC→List aH→Prop),(∀ S2 E2,I (ys++[c]) rem S2→R' (.ret (.bool true)) (S2++(E++E2)))→YA prog w0 a [c.av] (S++E) R')
  (S:List aH) (h0:I [] l0 S) (R:Rt) (h:∀ S',I (gR l0.length l0) [] S'→R (.ret (.tup [])) S') :
  aj prog w0 254 [.yld a,.own b 0] S R:=by
 have hn:=(hI _ _ _ h0).1
 have hsi:=EZ w0 hA
 have hMp:Go.Fen.plainP g7=true:=by decide +kernel
 have hMl:∀ n,mR n g7=true:=fun n=>by rfl
 generalize hM:g7=M at hsi hMp hMl
 refine eN func254 rfl ntmps254 fun hO=>?_
 repeat' first|refine st ?_|(refine ca ?_;apply hsi)|(refine br ?_ ?_<;>intro hb)|fail
 clear hsi
 refine cW (fun (p:List Ac × List (List Int) × Nat) env S'=>p.2.1.length≤p.2.2∧gR l0.length l0=p.1++gR p.2.2 p.2.1∧(p.2.1.length≤100∧∀ s∈p.2.1,1≤s.length∧s.length≤6)∧env 1000000=.dfr []∧env 0=.yld a∧env 1=.own b 0∧env 3=.mval M∧I p.1 p.2.1 S') (fun p=>p.2.1.length) ([],l0,l0.length) ?_ ?_
 ·exact⟨a8 _,rfl,⟨hl0,hs0⟩,ss,ss,ss,ss,h0⟩
 ·rintro⟨ys,rem,k⟩ env S' ⟨hk,hp,hsz,e0,ey,e1,e3,hIi⟩ IH
  have HI:=ab IH
  have HIi:=ab hIi
  have Hn:=ab hn
  have Hr:=ab hround
  have HJ:=ab hI
  have HS:=ab hset
  have H:=ab h
  obtain⟨q1,q2,hbS⟩:=hI _ _ _ hIi
  have Hq:=ab (a6 q1 q2)
  have hbl:b<S'.length:=by rw [q1];simpa using hb
  have hla:decide (a<S'.length)=true:=by rw [q1];exact ha
  have hlb:decide (b<S'.length)=true:=by rw [q1];exact hb
  clear IH hIi hn hround hI hset h h0 hs0 hl0 q1 q2 hO
  simp only at hk hp hsz hbS
  by_cases hne:rem=[]
  ·subst hne
   have hh:=H.out S' (by rw [hp];cases k<;>simpa [gR] using HIi.out)
   clear hp hsz hk HI HS Hr
   simp only [aq] at hbS
   repeat' first|refine st ?_|(refine br ?_ ?_<;>intro hb)|fail
   refine JI results254 ?_ ?_ ?_
   ·exact Hq.out.2
   ·exact Hq.out.1.trans Hn.out.symm
   ·exact hh
  ·have hlp:0<rem.length:=nt.2 hne
   have h1:decide ((0:Int)<(rem.length:Int))=true:=by simp only [decide_eq_true_eq];omega
   obtain⟨k',rfl⟩:∃ k',k=k'+1:=⟨k - 1,by omega⟩
   have hfn:=qY hne
   have hfr:=fun S' R=>IK w0 S' rem hne hsz.1 hsz.2 R
   have hpp:gR (k'+1) rem=(dM rem).1.toList++gR k' (rem.drop (dM rem).2):=by
    show (if rem=[] then [] else _)=_
    rw [if_neg hne]
   rw [hpp] at hp
   rw [hM] at hfr
   rcases hfo:dM rem with⟨o,m⟩
   rw [hfo] at hp hfn hfr
   simp only at hp hfn
   have hbA:∀ L,(S'++L)[b]? = some (.cells [.sval false (rem.map cB)]):=fun L=>by rw [az hbl];exact hbS
   have hbU:∀ L X,(S'++L).set b X=S'.set b X++L:=fun L X=>by rw [qt _ _ hbl]
   have okP:=cB.all1 rem
   simp only [AV.cells] at okP
   have hmi:(m:Int)≤(rem.length:Int):=by omega
   have hdl:(rem.drop m).length<rem.length:=by rw [BJ];omega
   have Hd:=ab (show (rem.drop m).length≤k'∧((rem.drop m).length≤100∧∀ s∈rem.drop m,1≤s.length∧s.length≤6) by
    exact⟨by omega,by omega,fun s hs=>hsz.2 s (List.mem_of_mem_drop hs)⟩)
   have Hdl:=ab hdl
   have Hp:=ab hp
   have hdm:List.drop m (pi rem.length (rem.map cB))=(rem.drop m).map cB:=by
    rw [dV (by simp)];exact List.map_drop.symm
   clear hpp hfo hp hk hsz hne hlp hfn hdl H
   cases o with
   | none =>
    simp only [FR] at hfr
    have hI2:=HS.out _ _ (rem.drop m) _ HIi.out
    repeat' first|refine st ?_|(refine ca ?_;apply hfr)|(refine br ?_ ?_<;>intro hb)|fail
    rintro⟨ak,an,am,ack,acn,tx⟩
    simp only [Ac.av,aV,putA]
    repeat' first|refine st ?_|(refine br ?_ ?_<;>intro hb)|fail
    refine n7 (HJ.out _ _ _ hI2).2.1 0 [0,1,3] (Hn.out.trans (HJ.out _ _ _ hI2).1.symm) ss ss ss ?_
    refine HI.out (ys,rem.drop m,k') _ _ Hdl.out ⟨Hd.out.1,by simpa using Hp.out,Hd.out.2,ss,ss,ss,ss, ?_⟩
    simpa only [aP,aG] using hI2
   | some c =>
    obtain⟨ak,an,am,ack,acn,tx⟩:=c
    simp only [FR,Ac.av] at hfr
    repeat' first|refine st ?_|(refine ca ?_;apply hfr)|(refine br ?_ ?_<;>intro hb)|fail
    apply ug
    ·(simp only [go_sem, *];try rfl)
    ·rfl
    ·(simp only [go_sem, *];try rfl)
    ·rfl
    ·(simp only [go_sem, *];try rfl)
    have hyl:ys.length<l0.length:=by
     have e1:=congrArg iz Hp.out
     have e2:=ru l0.length l0
     simp only [ip,ft,fS,ai,aB] at e1
     omega
    refine Hr.out ys rem S' ⟨ak,an,am,ack,acn,tx⟩ hyl HIi.out _ _ ?_
    clear hyl
    intro S3 E3 hI3
    obtain⟨q1,q2,hb3⟩:=HJ.out _ _ _ hI3
    have hbl3:b<S3.length:=by rw [q1];simpa using hb
    have hla3:decide (a<S3.length)=true:=by rw [q1];exact ha
    have hlb3:decide (b<S3.length)=true:=by rw [q1];exact hb
    have hbA3:∀ L,(S3++L)[b]? = some (.cells [.sval false (rem.map cB)]):=fun L=>by rw [az hbl3];exact hb3
    have hbU3:∀ L X,(S3++L).set b X=S3.set b X++L:=fun L X=>by rw [qt _ _ hbl3]
    have hI2:=HS.out _ _ (rem.drop m) _ hI3
    clear hbA hbU hbS hb3 hbl hbl3 hla hlb q1 q2 hI3 hfr
    simp only [aV,putA]
    repeat' first|refine st ?_|(refine br ?_ ?_<;>intro hb)|fail
    refine n7 (HJ.out _ _ _ hI2).2.1 0 [0,1,3] (Hn.out.trans (HJ.out _ _ _ hI2).1.symm) ss ss ss ?_
    refine HI.out (ys++[⟨ak,an,am,ack,acn,tx⟩],rem.drop m,k') _ _ Hdl.out ⟨Hd.out.1,by simpa using Hp.out,Hd.out.2,ss,ss,ss,ss, ?_⟩
    simpa only [aP,aG] using hI2
theorem kq{l:List (List Int)}(h:dQ l=true):l.length≤16∧∀ s∈l,1≤s.length∧s.length≤6:=by
 unfold dQ at h
 simp only [ao,aw,Eg,decide_eq_true_eq] at h
 refine⟨h.1,fun s hs=>?_⟩
 have:=h.2.2 s hs
 unfold iw at this
 simp only [eF,not_or,beq_iff_eq,decide_eq_true_eq] at this
 omega
theorem EF(w0:World)(hA:kD w0):sy w0:=by
 intro S l hok R h
 obtain⟨hl,hs⟩:=kq hok
 have hck:=fun S'=>ry w0 S' l ⟨by omega,fun s h=>by have:=hs s h;omega⟩
 unfold oz at hck
 rw [if_pos hok] at hck
 unfold jS at h
 by_cases hne:l=[]
 ·subst hne
  rw [if_pos rfl] at h
  have hpn:=IJ w0
  simp only [df,Ac.av,ap,aq] at h hpn hck ⊢
  clear hl hs hok
  refine eN func155 rfl ntmps155 fun hO=>?_
  repeat' first|refine st ?_|(refine ca ?_;first|apply hck|apply hpn)|(refine br ?_ ?_<;>intro hb)|fail
  refine fR results155 ?_
  exact h
 ·rw [if_neg hne] at h
  have hle:((l.length:Int)==0)=false:=by
   have:=nt.2 hne
   simp only [beq_eq_false_iff_ne];omega
  have hek:=fun S'=>IL w0 S' l
  have H:=ab h
  clear h hok hne
  refine eN func155 rfl ntmps155 fun hO=>?_
  repeat' first|refine st ?_|(refine ca ?_;first|apply hck|apply hek)|(refine br ?_ ?_<;>intro hb)|fail
  refine mL (a:=S.length) (j:=0) 25 6 ss ss (by decide) ?_
  simp only [go_sem, *]
  apply vN [2]
  ·rfl
  ·(simp only [go_sem, *];try rfl)
  ·rfl
  ·(simp only [go_sem, *];try rfl)
  ·(simp only [go_sem, *];try rfl)
  intro LB hLB
  have hLB2:∀ m,LB.ltB (S.length+(1+m))=true:=by intro m;rw [hLB];(simp only [go_sem, *];try rfl);simp;omega
  have HLB:=ab hLB
  have HO:=ab hO
  clear hLB hck hek hle hO
  refine IM w0 hA l (by omega) hs (S.length+4) (S.length+1) (S.length+5) (by simp) (by simp) (fun ys rem S'=>ys.length≤100∧S'=S++[.cells [.sown (S.length+2) ys.length ys.length],.cells [.sval false (rem.map cB)],.arr 25 6 0 ys.length (ys.map Ac.av),.obj (.deferred (some [])),LB]) ?_ ?_ ?_ _ ?_ _ ?_
  ·rintro ys rem _ ⟨_,rfl⟩
   have h7:=hLB2 4
   clear hA hl hs
   refine⟨by simp,bD.app HO.out ?_,ss⟩
   (simp only [go_sem, *];try rfl)
  ·rintro ys rem rem' _ ⟨h1,rfl⟩
   exact⟨h1,ss⟩
  ·rintro ys rem _ c hyl ⟨h1,rfl⟩ E R' hR1
   have hb:(ys.length+1) * 56≤140737488355328:=by omega
   have hcl:(ys.map Ac.av).length=ys.length:=by simp
   have HR:=ab hR1
   have hyl2:ys.length+1≤100:=by omega
   have Hy:=ab hyl2
   obtain⟨ak,an,am,ack,acn,tx⟩:=c
   have okC:=Ac.ok ys
   simp only [cN,AV.cells] at okC
   simp only [Ac.av]
   clear hA hl hs hyl h1 hR1 hyl2
   apply vM HLB.out
   ·(simp only [go_sem, *];try rfl)
   ·rfl
   ·decide
   ·rfl
   ·rfl
   ·(simp only [go_sem, *];try rfl)
   intro rb BB hBB
   have HBB:=ab hBB
   clear hBB
   repeat' first|refine st ?_|(refine br ?_ ?_<;>intro hb)|fail
   apply vL
   ·(simp only [go_sem, *];try rfl)
   ·(simp only [go_sem, *];try rfl)
   repeat' first|refine st ?_|(refine br ?_ ?_<;>intro hb)|fail
   apply Ks HLB.out HBB.out
   ·(simp only [go_sem, *];try rfl)
   ·(simp only [go_sem, *];try rfl)
   have key:=HR.out (S++[.cells [.sown (S.length+2) (ys.length+1) (ys.length+1)],.cells [.sval false (rem.map cB)],.arr 25 6 0 (ys.length+1) (ys.map Ac.av++[.agg [.int .i64 ak,.int .i64 an,.int .i64 am,.int .i64 ack,.int .i64 acn,.str tx]]),.obj (.deferred (some [])),LB]) [.cells [.int .i64 ak,.int .i64 an,.int .i64 am,.int .i64 ack,.int .i64 acn,.str tx],.arr 25 6 0 0 [.agg [.int .i64 ak,.int .i64 an,.int .i64 am,.int .i64 ack,.int .i64 acn,.str tx]]] ⟨by rw [ai];exact Hy.out,by rw [ai,aY];rfl⟩
   simpa only [mY,ft,fS] using key
  ·exact⟨by simp,ss⟩
  ·rintro _ ⟨_,rfl⟩
   have hh:=H.out
   generalize gR l.length l=ys at hh ⊢
   clear hA hl hs H
   have okC:=Ac.ok ys
   apply zS HLB.out rfl
   ·(simp only [go_sem, *];try rfl)
   ·(simp only [go_sem, *];try rfl)
   repeat' first|refine st ?_|(refine br ?_ ?_<;>intro hb)|fail
   refine fR results155 ?_
   exact hh
end Go.Proofs.YthdbijpefkapnaaGreatDoor
