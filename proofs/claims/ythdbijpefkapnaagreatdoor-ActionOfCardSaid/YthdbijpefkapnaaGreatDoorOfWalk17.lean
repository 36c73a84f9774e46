/- A part of the proof. -/
import Derived.Test.YthdbijpefkapnaaGreatDoorOfWalk21
set_option linter.all false
set_option maxHeartbeats 40000000
open And renaming intro → a7
open Bool renaming and_eq_true → aq
open Go.IntKind renaming i64 → ae
open Go.IntWalk renaming i64_in → ai
open Go.Lib renaming hid → ab
open Go.Value renaming oneCell' → zX
open List renaming append_nil → aG, getElem?_eq_getElem → ap, length_cons → aB, length_map → bi, length_nil → aI, length_take → pU, map_append → aM, map_cons → al, mem_cons_of_mem → iv, mem_cons_self → dG, mem_filter → Cv, mem_map → aN, take → rg, take_add_one → jW, take_length → bC, take_of_length_le → dJ, take_succ_cons → aR, take_take → yA, take_zero → aO
open Nat renaming le_trans → fc, le_zero → tJ, min_comm → zZ, zero_le → bf
open Option renaming bind_some → Jl
open Option.some renaming inj → bg
namespace Go.Proofs.YthdbijpefkapnaaGreatDoor
open Go Go.Fen Go.Proofs.Tryz
attribute [local irreducible] aX WP ao dS i7 cJ aU cC
set_option maxRecDepth 8000
variable (w0:World) (S:List aH)
def mJ(e:Ev):Ev:={ e with inter:=e.inter.take 6,text:=e.text.take 600,pars:=(e.pars.take 20).map (·.take 10) }
theorem vd{ops:Array Oper}{pl:List (Option (Nat × AV))}{M i q n:Nat}(hq:q≤C3 ops pl M i)(h:(C3 ops pl M i==n)=true):q≤n:=by
 rw [beq_iff_eq] at h;omega
def P5(k c:Int)(pv fi:Nat)(ps:List (List Int))(it tx:List UInt8):Nat→List AV
 | 0=>[.int .i64 k,.int .i64 c,.int .u8 pv,.int .u8 fi,.sval false (ps.map ct),.str it,.str tx]
 | 1=>[.int .i64 k,.int .i64 c,.int .u8 pv,.int .u8 fi,.sval false (ps.map ct),.str (it.take 6),.str tx]
 | _=>[.int .i64 k,.int .i64 c,.int .u8 pv,.int .u8 fi,.sval false (ps.map ct),.str (it.take 6),.str (tx.take 600)]
theorem KS(e:Ev)(R:Rt)(h:R (.ret (mJ e).av) S):ao prog w0 14 [e.av] S R:=by
 obtain⟨k,c,pv,fi,ps,it,tx⟩:=e
 have H:=ab h
 clear h
 have m6:(if (6:Int)<(it.length:Int) then 6 else (it.length:Int))=((min it.length 6:Nat):Int):=by split<;>omega
 have m6b:((min it.length 6:Nat):Int)≤(it.length:Int):=ω
 have m6c:rg (min it.length 6) it=it.take 6:=by rw [zZ,← yA,bC]
 have m7:(if (600:Int)<(tx.length:Int) then 600 else (tx.length:Int))=((min tx.length 600:Nat):Int):=by split<;>omega
 have m7b:((min tx.length 600:Nat):Int)≤(tx.length:Int):=ω
 have m7c:rg (min tx.length 600) tx=tx.take 600:=by rw [zZ,← yA,bC]
 simp only [Ev.av]
 refine eN func14 rfl ntmps14 fun hO=>?_
 have HO:=ab hO
 clear hO
 repeat' ((fail_if_success (apply ci 1));first|refine st ?_|(refine br ?_ ?_<;>intro hb)|fail)
 refine gy (n:=18) mixed rfl ?_
 refine Im [some (5,.own S.length 5),some (6,.str it),some (7,.own S.length 5),some (8,.str it),some (9,.int .i64 (it.length:Int)),some (10,.int .i64 ((min it.length 6:Nat):Int)),some (11,.str (it.take 6)),some (12,.own S.length 6),some (13,.str tx),some (14,.own S.length 6),some (15,.str tx),some (16,.int .i64 (tx.length:Int)),some (17,.int .i64 ((min tx.length 600:Nat):Int)),some (18,.str (tx.take 600)),some (19,.own S.length 5),none,some (20,.own S.length 6),none] (fun q=>S++[.cells (P5 k c pv fi ps it tx q) none,.cells [.int .i64 0,.int .i64 0,.int .u8 0,.int .u8 0,.snil,.str [],.str []] none]) 2 rfl rfl rfl rfl (by decide +kernel) (by kernel_rfl) ⟨?s0, ?s1, ?s2, ?s3, ?s4, ?s5, ?s6, ?s7, ?s8, ?s9, ?s10, ?s11, ?s12, ?s13, ?s14, ?s15, ?s16, ?s17,trivial⟩ ?z
 case s0|s2|s7|s9|s14|s16 =>
  intro q hq env hd
  clear hq
  have q1:=hd.2 1 rfl
  simp only [go_sem, *] at q1
  clear hd
  refine Δ0 ?_
  first|exact⟨rfl,rfl⟩|exact⟨trivial,trivial⟩|exact⟨trivial,rfl⟩
 case s1 =>
  intro q hq env hd
  obtain rfl:q=0:=tJ.1 (vd (n:=0) hq (by kernel_rfl))
  clear hq
  show i7 _ _ _ _ _ _ _ env (S++[.cells [.int .i64 k,.int .i64 c,.int .u8 pv,.int .u8 fi,.sval false (ps.map ct),.str it,.str tx] none,_])
  have r0:=hd.1 0 (by decide +kernel) _ _ rfl
  have q1:=hd.2 1 rfl
  simp only [go_sem, *] at q1
  clear hd
  refine Δ0 ?_
  first|exact⟨rfl,rfl⟩|exact⟨trivial,trivial⟩|exact⟨trivial,rfl⟩
 case s3 =>
  intro q hq env hd
  obtain rfl:q=0:=tJ.1 (vd (n:=0) hq (by kernel_rfl))
  clear hq
  show i7 _ _ _ _ _ _ _ env (S++[.cells [.int .i64 k,.int .i64 c,.int .u8 pv,.int .u8 fi,.sval false (ps.map ct),.str it,.str tx] none,_])
  have r2:=hd.1 2 (by decide +kernel) _ _ rfl
  have q1:=hd.2 1 rfl
  simp only [go_sem, *] at q1
  clear hd
  refine Δ0 ?_
  first|exact⟨rfl,rfl⟩|exact⟨trivial,trivial⟩|exact⟨trivial,rfl⟩
 case s4 =>
  intro q hq env hd
  clear hq
  have r3:=hd.1 3 (by decide +kernel) _ _ rfl
  have q1:=hd.2 1 rfl
  simp only [go_sem, *] at q1
  clear hd
  refine Δ0 ?_
  first|exact⟨rfl,rfl⟩|exact⟨trivial,trivial⟩|exact⟨trivial,rfl⟩
 case s5 =>
  intro q hq env hd
  clear hq
  have r4:=hd.1 4 (by decide +kernel) _ _ rfl
  have q1:=hd.2 1 rfl
  simp only [go_sem, *] at q1
  clear hd
  refine Δ0 ?_
  first|exact⟨rfl,rfl⟩|exact⟨trivial,trivial⟩|exact⟨trivial,rfl⟩
 case s6 =>
  intro q hq env hd
  clear hq
  have r1:=hd.1 1 (by decide +kernel) _ _ rfl
  have r5:=hd.1 5 (by decide +kernel) _ _ rfl
  have q1:=hd.2 1 rfl
  simp only [go_sem, *] at q1
  clear hd
  refine Δ0 ?_
  first|exact⟨rfl,rfl⟩|exact⟨trivial,trivial⟩|exact⟨trivial,rfl⟩
 case s8 =>
  intro q hq env hd
  obtain rfl:q=0:=tJ.1 (vd (n:=0) hq (by kernel_rfl))
  clear hq
  show i7 _ _ _ _ _ _ _ env (S++[.cells [.int .i64 k,.int .i64 c,.int .u8 pv,.int .u8 fi,.sval false (ps.map ct),.str it,.str tx] none,_])
  have r7:=hd.1 7 (by decide +kernel) _ _ rfl
  have q1:=hd.2 1 rfl
  simp only [go_sem, *] at q1
  clear hd
  refine Δ0 ?_
  first|exact⟨rfl,rfl⟩|exact⟨trivial,trivial⟩|exact⟨trivial,rfl⟩
 case s10 =>
  intro q hq env hd
  obtain rfl:q=0:=tJ.1 (vd (n:=0) hq (by kernel_rfl))
  clear hq
  show i7 _ _ _ _ _ _ _ env (S++[.cells [.int .i64 k,.int .i64 c,.int .u8 pv,.int .u8 fi,.sval false (ps.map ct),.str it,.str tx] none,_])
  have r9:=hd.1 9 (by decide +kernel) _ _ rfl
  have q1:=hd.2 1 rfl
  simp only [go_sem, *] at q1
  clear hd
  refine Δ0 ?_
  first|exact⟨rfl,rfl⟩|exact⟨trivial,trivial⟩|exact⟨trivial,rfl⟩
 case s11 =>
  intro q hq env hd
  clear hq
  have r10:=hd.1 10 (by decide +kernel) _ _ rfl
  have q1:=hd.2 1 rfl
  simp only [go_sem, *] at q1
  clear hd
  refine Δ0 ?_
  first|exact⟨rfl,rfl⟩|exact⟨trivial,trivial⟩|exact⟨trivial,rfl⟩
 case s12 =>
  intro q hq env hd
  clear hq
  have r11:=hd.1 11 (by decide +kernel) _ _ rfl
  have q1:=hd.2 1 rfl
  simp only [go_sem, *] at q1
  clear hd
  refine Δ0 ?_
  first|exact⟨rfl,rfl⟩|exact⟨trivial,trivial⟩|exact⟨trivial,rfl⟩
 case s13 =>
  intro q hq env hd
  clear hq
  have r8:=hd.1 8 (by decide +kernel) _ _ rfl
  have r12:=hd.1 12 (by decide +kernel) _ _ rfl
  have q1:=hd.2 1 rfl
  simp only [go_sem, *] at q1
  clear hd
  refine Δ0 ?_
  first|exact⟨rfl,rfl⟩|exact⟨trivial,trivial⟩|exact⟨trivial,rfl⟩
 case s15 =>
  intro env hd
  show i7 _ _ _ _ _ _ _ env (S++[.cells [.int .i64 k,.int .i64 c,.int .u8 pv,.int .u8 fi,.sval false (ps.map ct),.str it,.str tx] none,_])
  have r14:=hd.1 14 (by decide +kernel) _ _ rfl
  have r6:=hd.1 6 (by decide +kernel) _ _ rfl
  have q1:=hd.2 1 rfl
  simp only [go_sem, *] at q1
  clear hd
  refine Δ0 ?_
  first|exact⟨rfl,rfl⟩|exact⟨trivial,trivial⟩|exact⟨trivial,rfl⟩
 case s17 =>
  intro env hd
  show i7 _ _ _ _ _ _ _ env (S++[.cells [.int .i64 k,.int .i64 c,.int .u8 pv,.int .u8 fi,.sval false (ps.map ct),.str (it.take 6),.str tx] none,_])
  have r16:=hd.1 16 (by decide +kernel) _ _ rfl
  have r13:=hd.1 13 (by decide +kernel) _ _ rfl
  have q1:=hd.2 1 rfl
  simp only [go_sem, *] at q1
  clear hd
  refine Δ0 ?_
  first|exact⟨rfl,rfl⟩|exact⟨trivial,trivial⟩|exact⟨trivial,rfl⟩
 case z =>
  intro env hs hk
  have q1:=hk 1 rfl
  have q2:=hk 2 rfl
  have q9:=hk 1000000 rfl
  clear hs hk
  simp only [go_sem, *] at q1 q2 q9
  simp only [P5]
  clear m6 m6b m6c m7 m7b m7c
  generalize hit:it.take 6=it'
  generalize htx:tx.take 600=tx'
  refine ε0 ?_
  refine ij (t:=3) 63 1 ss δ ?_
  refine cD (fun (i:Nat) env S'=>i≤20∧i≤ps.length∧env 1000000=.dfr []∧env 1=.own S.length 0∧env 2=.own (S.length+1) 0∧env 3=.sown (S.length+2) i i∧env 4=.int .i64 (i:Int) ∧
   S'=S++[.cells [.int .i64 k,.int .i64 c,.int .u8 pv,.int .u8 fi,.sval false (ps.map ct),.str it',.str tx'] none,.cells [.int .i64 0,.int .i64 0,.int .u8 0,.int .u8 0,.snil,.str [],.str []] none,.arr 63 1 0 i (((ps.take i).map (·.take 10)).map ct)]) (fun i=>20 - i) 0 ?_ ?_
  ·exact⟨ω,bf _,ss,ss,ss,ss,ss,ss⟩
  ·rintro i env S' ⟨hi,hil,e0,e1,e2,e3,e4,rfl⟩ IH
   have HI:=ab IH
   clear IH q1 q2 q9
   have hml:(((ps.take i).map (·.take 10)).map ct).length=i:=κ
   by_cases hlt:i<ps.length
   ·have h1:decide ((i:Int)<(ps.length:Int))=true:=by simpa using hlt
    by_cases hl2:i<20
    ·have h2:decide ((i:Int)<20)=true:=τ
     obtain⟨x,hx⟩:∃ x,ps[i]? = some x:=⟨_,ap hlt⟩
     have hw:ae.wrap ((i:Int)+1)=((i+1:Nat):Int):=by rw [ai _ ω];omega
     have hp:ct x=.agg [.sval false (x.map ea)]:=rfl
     have m8:(if (10:Int)<(x.length:Int) then 10 else (x.length:Int))=((min x.length 10:Nat):Int):=by split<;>omega
     have m8b:((min x.length 10:Nat):Int)≤(x.length:Int):=ω
     have m8c:rg (min x.length 10) (x.map ea)=(x.take 10).map ea:=by rw [← List.map_take];congr 1;rw [zZ,← yA,bC]
     have okC:=ea.all1 x
     have hb8:(i+1) * 24≤140737488355328:=ω
     have okP:=ct.all1 ((ps.take i).map (·.take 10))
     simp only [AV.cells] at okC okP
     have Ht:=ab (show (ps.take (i+1)).map (·.take 10)=(ps.take i).map (·.take 10)++[x.take 10] by rw [jW,hx,aM];rfl)
     have Hlt:=ab (a7 hlt hl2)
     generalize (ps.take i).map (·.take 10)=q at *
     clear hlt hl2 hi hil H
     refine Δ0 ?_
     refine bX HO.out 3 [1,2,3,4] rfl ss ss ss ?_
     simp only [aR,aO]
     refine HI.out (i+1) _ _ (by have:=Hlt.out.2;omega) ⟨Hlt.out.2,Hlt.out.1,ss,ss,ss,ss,ss, ?_⟩
     rw [Ht.out,aM];first|done|rfl
    ·have h2:decide ((i:Int)<20)=false:=τ2
     have ht:ps.take i=ps.take 20:=by congr 1;omega
     have hh:=H.out
     simp only [mJ,Ev.av,hit,htx,← ht] at hh
     clear hlt hl2 hi hil H HI hit htx ht
     refine ε0 ?_
     refine fR results14 ?_
     exact hh
   ·have h1:decide ((i:Int)<(ps.length:Int))=false:=by simpa using hlt
    have ht:ps.take i=ps.take 20:=by rw [dJ ω,dJ ω]
    have hh:=H.out
    simp only [mJ,Ev.av,hit,htx,← ht] at hh
    clear hlt hi hil H HI hit htx ht
    refine ε0 ?_
    refine fR results14 ?_
    exact hh
theorem Cj{e:Ev}(h:j7 e=true):(rp e).length≤16:=by
 unfold j7 db at h
 simp only [aq,decide_eq_true_eq] at h
 have hl:=h.2.1
 unfold rp
 split
 ·simp
 ·split
  ·have:=jb (tY e.code);omega
  ·split
   ·have:=jb (rl ⟨0,e.inter,e.fin⟩);omega
   ·split
    ·unfold wl
     split
     ·next q _ =>
      cases q
      all_goals simp only [jN,aB,aI,bi,List.length_range]
      all_goals (try omega)
      ·split<;>simp
      ·unfold kq
       split
       ·simp
       ·have:=qd e.pars.length e.pars;omega
     ·simp
    ·split
     ·have:=jb (er e.text);omega
     ·simp
theorem BL(e:Ev):(vN e).length≤16∧(∀ a∈vN e,fm a=true∧yG a)∧(j7 e=false→vN e=[]):=by
 unfold vN
 split
 ·next h =>
  refine⟨fc (List.length_filter_le _ _) (Cj h),fun a ha=>?_,fun hf=>by rw [h] at hf;cases hf⟩
  obtain⟨h1,h2⟩:=Cv.1 ha
  exact⟨h2,E5 h a h1⟩
 ·exact⟨χ,χ,fun _=>rfl⟩
theorem xe(e:Ev):oE (mJ e).pars∧(mJ e).text.length≤600:=by
 refine⟨⟨by simp only [mJ,bi,pU];omega,fun s hs=>?_⟩,by simp only [mJ,pU];omega⟩
 obtain⟨x,_,rfl⟩:=aN.1 hs
 simp only [pU];omega
theorem KW{W:World}{nm:String}{g:Nat}{cs:Array Value}(hg:prog.globalNamed nm=some g)(h:W.var? prog nm=some cs)(hall:cs.toList.all zX=true):gl W g=.pro (cs.toList.map sG):=by
 unfold World.var? at h
 rw [hg] at h
 simp only [Jl] at h
 unfold gl
 split at h
 ·next c T fz hh =>
  cases h
  rw [hh]
  simp only [hall,if_true]
 ·cases h
theorem MI:prog.globalNamed "fenestra/sgr.attrs" = some 3:=by kernel_rfl
theorem Lv{W:World}(h:laidMetH prog dh W):kX W:=by
 rw [MakeChecks.laidMetH_plain _ _ _ (by kernel_rfl)] at h
 obtain⟨ps,hl,_⟩:=h
 obtain⟨g,t,cs,fuel,p,h1,h2,h3,h4⟩:=jC (nm := "fenestra/sgr.attrs") (d:=Rows.laid_fenestra_sgr_attrs) hl (by simp [dh])
 obtain rfl:=bg (MI.symm.trans h1)
 obtain rfl:=bg ((show (prog.globals[3]?).map (·.type)=some 308 by kernel_rfl).symm.trans h2)
 have h5:=Bi fuel 5 308 (Sk.rep (.cons (.int .i64) (.cons (.int .i64) (.cons (.int .i64) .nil))) 8) _ _ (by kernel_rfl) rfl h4 (fuel+5) ω
 unfold kX
 rw [KW MI h3 (by rw [← h5];rfl),← h5]
 rfl
theorem Ii:∀ els:List (List AV),(∀ y∈els,(Sk.int .i64).has y)→∃ l:List Int,els.map (Sk.int .i64).mk=l.map ea:=by
 intro els
 induction els with
 | nil=>intro _;exact⟨[],rfl⟩
 | cons y els ih =>
  intro hh
  obtain⟨x,rfl,_⟩:=hh y (dG ..)
  obtain⟨l,hl⟩:=ih fun z hz=>hh z (iv _ hz)
  exact⟨x::l,by simp only [al,hl];rfl⟩
def GN:Sk:=.cons (.sl (.int .i64)) .nil
def Ic:Sk:=.cons (.int .i64) (.cons (.int .i64) (.cons (.int .u8) (.cons (.int .u8) (.cons (.sl GN) (.cons .str (.cons .str .nil))))))
theorem Lb:∀ els:List (List AV),(∀ y∈els,GN.has y)→∃ l:List (List Int),els.map GN.mk=l.map ct:=by
 intro els
 induction els with
 | nil=>intro _;exact⟨[],rfl⟩
 | cons y els ih =>
  intro hh
  obtain⟨_,_,rfl,⟨zs,rfl,_,hz⟩,rfl⟩:=hh y (dG ..)
  obtain⟨l,hl⟩:=ih fun z hz=>hh z (iv _ hz)
  obtain⟨s,hs⟩:=Ii zs hz
  refine⟨s::l, ?_⟩
  simp only [al,hl]
  congr 1
  simp only [GN,Sk.mk,Sk.isAgg,if_true,ct,aG,hs]
theorem GY(y:List AV)(h:Ic.has y):∃ e:Ev,Ic.mk y=e.av:=by
 obtain⟨_,_,rfl,⟨a,rfl,_⟩,_,_,rfl,⟨b,rfl,_⟩,_,_,rfl,⟨c,rfl,hc⟩,_,_,rfl,⟨d,rfl,hd⟩,_,_,rfl,⟨els,rfl,_,he⟩,_,_,rfl,⟨s,rfl,_⟩,_,_,rfl,⟨t,rfl,_⟩,rfl⟩:=h
 obtain⟨l,hl⟩:=Lb els he
 refine⟨⟨a,b,c.toNat,d.toNat,l,s,t⟩, ?_⟩
 simp [Sk.mk,Ic,Sk.isAgg,Ev.av,yM hc rfl,yM hd rfl,hl]
end Go.Proofs.YthdbijpefkapnaaGreatDoor
