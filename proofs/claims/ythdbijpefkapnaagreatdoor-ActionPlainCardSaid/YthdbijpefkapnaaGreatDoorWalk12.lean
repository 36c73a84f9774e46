/- YthdbijpefkapnaaGreatDoorWalk12. Texts of the proof of a law about texts: a layer of abstract values above the worlds, the types, the walks of the functions that the law reaches, the law and its card. Own work of an AI agent. -/
import Derived.Test.YthdbijpefkapnaaGreatDoorWalk11
import Derived.Test.YthdbijpefkapnaaGreatDoorWalk7
import Derived.Test.YthdbijpefkapnaaGreatDoorCore4
import Derived.Test.YthdbijpefkapnaaGreatDoorCards
import Derived.Test.YthdbijpefkapnaaGreatDoorTie
import Derived.ProofKit
import Derived.OpenShut
import Derived.LaidMore
import Derived.Lay
import Derived.SevenTiedAt
import Derived.Stop.Joined
set_option linter.all false
set_option maxHeartbeats 40000000
open Array renaming getElem?_toList → bR
open Bool renaming and_eq_true → aB, eq_false_iff → mr
open Go.Lib renaming cells_of_tab → tr, mapM_at → qv, mapM_length → oM
open Go.Value renaming int → eT, oneCell' → zB
open Go.World renaming var?_cell → EP
open List renaming all_eq_true → aF, find?_eq_none → ym, flatMap_cons → kY, getElem?_drop → dr, getElem?_eq_none → cT, getElem?_map → aQ, getElem?_take → bu, length → lz, length_append → ab, length_cons → ah, length_nil → aj, map_append → co, map_cons → aG, mem_cons → dj, mem_map → aX, mem_of_find?_eq_some → qu
open List.cons renaming injEq → np
open Option renaming bind_some → Iu, map_eq_none_iff → yc, map_eq_some_iff → aW, map_some → dF
open Option.some renaming inj → bp, injEq → bM
open Prod renaming fst → cK
namespace Go.Proofs.YthdbijpefkapnaaGreatDoor
open Go Go.Fen
attribute [local irreducible] ba WP az dI ie cU aR cw
set_option maxRecDepth 8000
theorem yL (n m rgb:Nat):ou (ua n m rgb):=by
 have h7:n % 7=0∨n % 7=1∨n % 7=2∨n % 7=3∨n % 7=4∨n % 7=5∨n % 7=6:=by omega
 have hcol:∀ x:Nat,4≤x→iX (n7 x m rgb).1 (n7 x m rgb).2=true:=by
  intro x hx
  have h8:m % 4=0∨m % 4=1∨m % 4=2∨m % 4=3:=by omega
  unfold n7
  rw [if_pos hx]
  rcases h8 with f | f | f | f<;>simp only [f,iX,vF,aB,decide_eq_true_eq]
  ·simp
  all_goals simp
  all_goals omega
 have hpl:∀ x:Nat,x<4→n7 x m rgb=(0,0):=fun x hx=>by unfold n7;rw [if_neg (by omega)]
 have hm8:∀ y,y<8→n9 ([4,8,16,32,64,128,1,2].getD y 0)=true∧0≤([4,8,16,32,64,128,1,2].getD y (0:Int))∧([4,8,16,32,64,128,1,2].getD y (0:Int))≤70000:=by decide
 have hm7:∀ y,y<7→ql ([4,8,16,32,64,128,3].getD y 0)=true∧0≤([4,8,16,32,64,128,3].getD y (0:Int))∧([4,8,16,32,64,128,3].getD y (0:Int))≤70000:=by decide
 have h1:=hm8 (m % 8) (by omega)
 have h2:=hm7 (m % 7) (by omega)
 have h3:pQ ((m % 6:Nat):Int)=true:=by unfold pQ;simp only [aB,decide_eq_true_eq];omega
 unfold ou ua
 rw [tf]
 simp only [mR]
 refine⟨?_,by decide, ?_,by decide⟩
 ·rcases h7 with e | e | e | e | e | e | e<;>rw [e]
  ·rw [hpl 0 (by omega)];rfl
  ·rw [hpl 1 (by omega),show xe 1 m=[4,8,16,32,64,128,1,2].getD (m % 8) 0 from rfl]
   generalize ([4,8,16,32,64,128,1,2]:List Int).getD (m % 8) 0=v at h1 ⊢
   simp [iH,dJ,h1.1]
  ·rw [hpl 2 (by omega),show xe 2 m=[4,8,16,32,64,128,3].getD (m % 7) 0 from rfl]
   generalize ([4,8,16,32,64,128,3]:List Int).getD (m % 7) 0=v at h2 ⊢
   simp [iH,dJ,h2.1]
  ·rw [hpl 3 (by omega),show xe 3 m=((m % 6:Nat):Int) from rfl]
   generalize ((m % 6:Nat):Int)=v at h3 ⊢
   simp [iH,dJ,h3]
  ·have h:=hcol 4 (by omega)
   generalize n7 4 m rgb=v at h ⊢
   show (true&&(true&&iH 4 0 v.1 v.2))=true
   simp [iH,h]
  ·have h:=hcol 5 (by omega)
   generalize n7 5 m rgb=v at h ⊢
   show (true&&(true&&iH 5 0 v.1 v.2))=true
   simp [iH,h]
  ·have h:=hcol 6 (by omega)
   generalize n7 6 m rgb=v at h ⊢
   show (true&&(true&&iH 6 0 v.1 v.2))=true
   simp [iH,h]
 ·rcases h7 with e | e | e | e | e | e | e<;>rw [e]<;>simp only [xe]<;>omega
theorem Du (n rgb:Nat):ou ⟨45,((n % 256:Nat):Int),0,2,((rgb % 16777216:Nat):Int),[]⟩:=by
 refine⟨?_,by simp,by simp,by simp⟩
 rw [pB (.inr (.inl rfl))]
 unfold dc
 rw [if_neg (by intro h;cases h.1),if_pos ⟨rfl,by constructor<;>(simp only;omega),by constructor<;>(simp only;omega)⟩]
 rfl
theorem w9 (w0:World) (S:List aH) (k n m rgb:Nat) (t:List UInt8) (hn:n<65536) (hm:m<65536) (R:Rt) (h:∀ a,ou a→R (.ret a.av) S):az Tryz.prog w0 10 [bf k n m rgb t] S R:=by
 have hk:(k:Int).tmod 46=((k % 46:Nat):Int):=gm k 46
 by_cases c1:k % 46=43
 ·rw [c1] at hk;exact wZ w0 S k n m rgb t hk R h
 by_cases c2:k % 46=44
 ·rw [c2] at hk;exact Be w0 S k n m rgb t hk R (h _ (Du n rgb))
 by_cases c3:k % 46=45
 ·rw [c3] at hk;exact wY w0 S k n m rgb t hk R h
 by_cases c4:k % 46=38
 ·rw [c4] at hk;exact Bd w0 S k n m rgb t hk R (h _ (yL n m rgb))
 exact yF w0 S k n m rgb (k % 46) t hk (by omega) ⟨c1,c2,c3,c4⟩ hn hm R h
theorem B2 (k n m c:Int) (t:List UInt8):dU ⟨k,n,m,7,c,t⟩=false:=by
 rcases yZ k with rfl | rfl | hk | ⟨c1,c2,c3,c4,c5⟩
 ·rw [AB];simp [dJ]
 ·rw [tf];unfold mR iH iX;simp [dJ]
 ·rw [pB hk]
  unfold dc
  rw [if_neg (by intro h;have:=congrArg Ac.ck h.1;simp at this),if_neg (by intro h;have:=congrArg Ac.ck h.1;simp at this),if_neg (by intro h;have:=congrArg Ac.ck h.1;simp at this)]
  rfl
 ·rw [pC c1 c2 c3 c4 c5]
  cases jD k with
  | none=>rfl
  | some p=>obtain⟨x,y⟩:=p;simp [ud,dJ]
theorem Gr {k:Int}{x y:Sp} (h:jD k=some (x,y)):∃ c d,y=.rng c d∧0≤c:=by
 unfold jD at h
 obtain⟨p,hp,e⟩:=aW.1 h
 have hall:(vA.all fun p=>match p.2.2 with | .rng c _=>decide (0≤c) | .zt=>false)=true:=by decide
 have:=aF.1 hall p (qu hp)
 rw [e] at this
 cases y with
 | rng c d=>exact⟨c,d,rfl,by simpa using this⟩
 | zt=>cases this
theorem Mh (k n m ck cn:Int) (t:List UInt8) (hm:m<0):dU ⟨k,n,m,ck,cn,t⟩=false:=by
 have m0:(m==0)=false:=by simp only [beq_eq_false_iff_ne];omega
 have m1:n9 m=false:=by
  rw [mr];intro h;have:=uc h;omega
 rcases yZ k with rfl | rfl | hk | ⟨c1,c2,c3,c4,c5⟩
 ·rw [AB,m0];simp
 ·rw [tf]
  have m3:ql m=false:=by unfold ql;rw [m1];simp;omega
  have m4:pQ m=false:=by unfold pQ;simp;omega
  unfold mR iH
  simp only [m0,m1,m3,m4]
  simp
 ·rw [pB hk]
  unfold dc
  rw [if_neg (by intro h;have:=congrArg Ac.m h.1;simp at this;omega),if_neg (by intro h;have:=congrArg Ac.m h.1;simp at this;omega),if_neg (by intro h;have:=congrArg Ac.m h.1;simp at this;omega)]
  rfl
 ·rw [pC c1 c2 c3 c4 c5]
  cases h:jD k with
  | none=>rfl
  | some p =>
   obtain⟨x,y⟩:=p
   obtain⟨c,d,rfl,hc⟩:=Gr h
   have:decide (c≤m)=false:=by simp only [decide_eq_false_iff_not];omega
   simp [ud,Sp.ok,this]
theorem Eu (k n m ck cn:Int) (t:List UInt8) (hk:47≤k):dU ⟨k,n,m,ck,cn,t⟩=false:=by
 have e:∀ j:Int,j<47→(k==j)=false:=fun j hj=>by simp only [beq_eq_false_iff_ne];omega
 rw [pC (e 1 (by omega)) (e 39 (by omega)) (e 44 (by omega)) (e 45 (by omega)) (e 46 (by omega))]
 have:jD k=none:=by
  unfold jD
  rw [yc,ym]
  intro p hp hb
  have hall:(vA.all fun p=>decide (p.1<47))=true:=by decide
  have:=aF.1 hall p hp
  rw [e p.1 (by simpa using this)] at hb
  cases hb
 rw [this];rfl
open Go.ChangeShapes Go.WideShapes Go.ChangeAt Go.RowKit
theorem own:ownKnob Tryz.prog.godebug=none:=by kernel_rfl
theorem jE {P:Program}{W:World}{nm:String}{d:DataW Unit}:∀ {l:List (String × DataW Unit)}{ps:List MemPlace},DataW.LaidVars P W l ps→(nm,d)∈l →
  ∃ g t cs fuel p,P.globalNamed nm=some g∧(P.globals[g]?).map (·.type)=some t∧W.var? P nm=some cs∧DataW.trod (fun _=>()) P W 0 (fun _=>true) false fuel t cs.toList=some (d,p):=by
 intro l
 induction l with
 | nil=>intro ps _ h;cases h
 | cons x l ih =>
  intro ps h hm
  obtain⟨nm',d'⟩:=x
  obtain⟨g,t,cs,fuel,p,q,h1,h2,h3,h4,h5,_⟩:=h
  rcases dj.1 hm with e | hm
  ·cases e;exact⟨g,t,cs,fuel,p,h1,h2,h3,h4⟩
  ·exact ih h5 hm
def bW:List (String × DataW Unit):=[("math/bits.deBruijn32tab",Rows.laid_math_bits_deBruijn32tab),("math/bits.deBruijn64tab",Rows.laid_math_bits_deBruijn64tab),("internal/strconv.uint64pow10",Rows.laid_internal_strconv_uint64pow10),("unicode/utf8.acceptRanges",Rows.laid_unicode_utf8_acceptRanges),("strconv.ErrRange",Rows.laid_strconv_ErrRange),("strconv.ErrSyntax",Rows.laid_strconv_ErrSyntax),("fenestra/color.named",Rows.laid_fenestra_color_named),("fenestra/sgr.attrs",Rows.laid_fenestra_sgr_attrs),("fenestra/width.marks",Rows.laid_fenestra_width_marks),("fenestra/width.wides",Rows.laid_fenestra_width_wides),("unicode/utf8.first",Rows.laid_unicode_utf8_first)]
theorem Ni:Tryz.prog.globalNamed "internal/strconv.uint64pow10" = some 4:=by kernel_rfl
theorem LU:Tryz.prog.globalNamed "strconv.ErrSyntax" = some 6:=by kernel_rfl
theorem CP {W:World} (h:laidMetH Tryz.prog bW W):Cl W:=by
 rw [MakeChecks.laidMetH_plain _ _ _ (by kernel_rfl)] at h
 obtain⟨ps,hl,_⟩:=h
 obtain⟨g,t,cs,fuel,p,h1,h2,h3,h4⟩:=jE (nm := "internal/strconv.uint64pow10") (d:=Rows.laid_internal_strconv_uint64pow10) hl (by simp [bW])
 obtain rfl:=bp (Ni.symm.trans h1)
 obtain rfl:=bp ((show (Tryz.prog.globals[4]?).map (·.type)=some 314 by kernel_rfl).symm.trans h2)
 have h5:=tr (k:=.u64) (zs:=Lib.pow10Tab) (IJ) (IM) (by kernel_rfl) (by kernel_rfl) h4
 unfold Cl Lib.TabIs
 rw [h3,← h5]
theorem IZ {W:World} (h:laidMetH Tryz.prog bW W):EB W:=by
 rw [MakeChecks.laidMetH_plain _ _ _ (by kernel_rfl)] at h
 obtain⟨ps,hl,_⟩:=h
 obtain⟨g,t,cs,fuel,p,h1,h2,h3,h4⟩:=jE (nm := "strconv.ErrSyntax") (d:=Rows.laid_strconv_ErrSyntax) hl (by simp [bW])
 obtain rfl:=bp (LU.symm.trans h1)
 obtain rfl:=bp ((show (Tryz.prog.globals[6]?).map (·.type)=some 95 by kernel_rfl).symm.trans h2)
 cases fuel with
 | zero=>simp [DataW.trod] at h4
 | succ fuel =>
 simp only [DataW.trod,HZ] at h4
 have hc:=EP LU h3 0
 match hcs:cs.toList,h4 with
 | [.nilIface],_=>exact⟨.nilIface,by rw [hc,← bR,hcs];rfl,.inl rfl⟩
 | [.iface u v],_=>exact⟨.iface u v,by rw [hc,← bR,hcs];rfl,.inr ⟨u,v,rfl⟩⟩
theorem LV:Tryz.prog.globalNamed "strconv.ErrRange" = some 7:=by kernel_rfl
theorem Je {W:World} (h:laidMetH Tryz.prog bW W):KS W:=by
 rw [MakeChecks.laidMetH_plain _ _ _ (by kernel_rfl)] at h
 obtain⟨ps,hl,_⟩:=h
 obtain⟨g,t,cs,fuel,p,h1,h2,h3,h4⟩:=jE (nm := "strconv.ErrRange") (d:=Rows.laid_strconv_ErrRange) hl (by simp [bW])
 obtain rfl:=bp (LV.symm.trans h1)
 obtain rfl:=bp ((show (Tryz.prog.globals[7]?).map (·.type)=some 95 by kernel_rfl).symm.trans h2)
 cases fuel with
 | zero=>simp [DataW.trod] at h4
 | succ fuel =>
 simp only [DataW.trod,HZ] at h4
 have hc:=EP LV h3 0
 match hcs:cs.toList,h4 with
 | [.nilIface],_=>exact⟨.nilIface,by rw [hc,← bR,hcs];rfl,.inl rfl⟩
 | [.iface u v],_=>exact⟨.iface u v,by rw [hc,← bR,hcs];rfl,.inr ⟨u,v,rfl⟩⟩
theorem DW {W:World}{nm:String}{g:Nat}{cs:Array Value}{k:IntKind}{zs:List Int} (hg:Tryz.prog.globalNamed nm=some g) (h:W.var? Tryz.prog nm=some cs) (hc:cs.toList=zs.map fun z=>eT k z):gl W g=.pro (zs.map fun z=>AV.int k z):=by
 unfold World.var? at h
 rw [hg] at h
 simp only [Iu] at h
 unfold gl
 split at h
 ·next c T fz hh =>
  cases h
  rw [hh]
  simp only [hc]
  have hall:(zs.map fun z=>eT k z).all zB=true:=by
   rw [aF]
   intro x hx
   obtain⟨z,_,rfl⟩:=aX.1 hx
   rfl
  rw [hall,if_pos rfl,List.map_map]
  rfl
 ·cases h
theorem LZ:Tryz.prog.globalNamed "math/bits.deBruijn64tab" = some 11:=by kernel_rfl
theorem LX:Tryz.prog.globalNamed "fenestra/color.named" = some 2:=by kernel_rfl
theorem KC {W:World} (h:laidMetH Tryz.prog bW W):AD W:=by
 rw [MakeChecks.laidMetH_plain _ _ _ (by kernel_rfl)] at h
 obtain⟨ps,hl,_⟩:=h
 obtain⟨g,t,cs,fuel,p,h1,h2,h3,h4⟩:=jE (nm := "math/bits.deBruijn64tab") (d:=Rows.laid_math_bits_deBruijn64tab) hl (by simp [bW])
 obtain rfl:=bp (LZ.symm.trans h1)
 obtain rfl:=bp ((show (Tryz.prog.globals[11]?).map (·.type)=some 340 by kernel_rfl).symm.trans h2)
 have h5:=tr (k:=.u8) (zs:=[0,1,56,2,57,49,28,3,61,58,42,50,38,29,17,4,62,47,59,36,45,43,51,22,53,39,33,30,24,18,12,5,63,55,48,27,60,41,37,16,46,35,44,21,52,32,23,11,54,26,40,15,34,20,31,10,25,14,19,9,13,8,7,6]) (II) (MI) (by kernel_rfl) (by kernel_rfl) h4
 exact DW LZ h3 h5
theorem Kf {W:World} (h:laidMetH Tryz.prog bW W):EO W:=by
 rw [MakeChecks.laidMetH_plain _ _ _ (by kernel_rfl)] at h
 obtain⟨ps,hl,_⟩:=h
 obtain⟨g,t,cs,fuel,p,h1,h2,h3,h4⟩:=jE (nm := "fenestra/color.named") (d:=Rows.laid_fenestra_color_named) hl (by simp [bW])
 obtain rfl:=bp (LX.symm.trans h1)
 obtain rfl:=bp ((show (Tryz.prog.globals[2]?).map (·.type)=some 285 by kernel_rfl).symm.trans h2)
 have h5:=tr (k:=.i64) (zs:=[0,13434880,52480,13487360,238,13435085,52685,15066597,8355711,16711680,65280,16776960,6053119,16711935,65535,16777215]) (IL) (IK) (by kernel_rfl) (by kernel_rfl) h4
 exact DW LX h3 h5
theorem Dt {W:World} (h:laidMetH Tryz.prog bW W):lX W:=F1 W (IZ h) (Je h)
theorem Dq {W:World} (h:laidMetH Tryz.prog bW W):nJ W:=FV W (CP h) (KC h) (Kf h)
def xh {H:Type} (l:List (Int × Int)):DataW H:=.agg (l.map fun p=>.agg [.lit (.int .i64 p.1),.lit (.int .i64 p.2)])
theorem Bj (l:List (Int × Int)):(l.flatMap fun q=>[eT .i64 q.1,eT .i64 q.2]).length=l.length * 2:=by
 induction l with
 | nil=>rfl
 | cons a l ih=>simp only [kY,ab,ih,ah,aj];omega
theorem yN (l:List (Int × Int)):(l.flatMap fun q=>[eT .i64 q.1,eT .i64 q.2]).map sr=eH (l.map ti):=by
 induction l with
 | nil=>rfl
 | cons a l ih=>simp only [kY,co,ih,aG,kh];rfl
theorem na {H:Type}{enc:TypeId × Value→H}{P:Program}{w:World}{base:Nat}{sp:Nat→Bool}{held:Bool}{fuel:Nat}{t e i:TypeId}{f0 f1:Field}{n:Nat}{cs:List Value}{l:List (Int × Int)}{p:List MemPlace}
  (ht:P.underlying t=some (.array n e)) (he:P.underlying e=some (.struct #[f0,f1])) (h0:f0.type=i∧f0.offset=0) (h1:f1.type=i∧f1.offset=1) (hi:P.underlying i=some (.int .i64)) (hci:P.cellsOf i=1) (hce:P.cellsOf e=2) (hct:P.cellsOf t=n * 2)
  (h:DataW.trod enc P w base sp held fuel t cs=some (xh l,p)):cs=l.flatMap fun q=>[eT .i64 q.1,eT .i64 q.2]:=by
 cases fuel with
 | zero=>simp [DataW.trod] at h
 | succ fuel =>
  simp only [DataW.trod,ht,hce,hct] at h
  split at h
  ·rename_i hl
   obtain⟨xs,hm,hx⟩:=aW.1 h
   have hxs:xs.map (·.1)=l.map fun q=>(DataW.agg [.lit (.int .i64 q.1),.lit (.int .i64 q.2)]:DataW H):=by
    have:=congrArg cK hx
    simpa [xh] using this
   have hxl:xs.length=n:=by simpa using oM hm
   have hzl:l.length=n:=by
    have:=congrArg lz hxs
    simp at this
    omega
   have hfl:=Bj l
   have hat:∀ k,k<n→∃ q,l[k]? = some q∧cs[k * 2]? = some (.int .i64 q.1)∧cs[k * 2+1]? = some (.int .i64 q.2):=by
    intro k hk
    obtain⟨b,hb,hf⟩:=qv hm k k (by simp [hk])
    obtain⟨y0,y1,m,rfl,_,hy0,hy1⟩:=trod_struct2 he hf
    rw [h0.1,h0.2,hci] at hy0
    rw [h1.1,h1.2,hci] at hy1
    obtain⟨z0,c0,rfl,_⟩:=DataW.trod_int hi hy0
    obtain⟨z1,c1,rfl,_⟩:=DataW.trod_int hi hy1
    have g0:cs[k * 2]? = some (.int .i64 z0):=by
     have:=congrArg (·[0]?) c0
     simpa [bu,dr] using this
    have g1:cs[k * 2+1]? = some (.int .i64 z1):=by
     have:=congrArg (·[0]?) c1
     simpa [bu,dr] using this
    have h2:=congrArg (·[k]?) hxs
    simp only [aQ,hb,dF] at h2
    cases hq:l[k]? with
    | none=>rw [hq] at h2;cases h2
    | some q =>
     rw [hq] at h2
     simp only [dF,bM,DataW.agg.injEq,np,DataW.lit.injEq,Lit.int.injEq,true_and,and_true] at h2
     exact⟨q,rfl,by rw [g0,h2.1],by rw [g1,h2.2]⟩
   have hfat:∀ (l:List (Int × Int)) (k:Nat) (q:Int × Int),l[k]? = some q→(l.flatMap fun q=>[eT .i64 q.1,eT .i64 q.2])[k * 2]? = some (.int .i64 q.1)∧(l.flatMap fun q=>[eT .i64 q.1,eT .i64 q.2])[k * 2+1]? = some (.int .i64 q.2):=by
    intro l
    induction l with
    | nil=>intro k q hq;cases hq
    | cons a l ih =>
     intro k q hq
     cases k with
     | zero=>cases hq;exact⟨rfl,rfl⟩
     | succ k =>
      have:=ih k q (by simpa using hq)
      rw [show (k+1) * 2=k * 2+2 by omega]
      simpa [kY] using this
   apply List.ext_getElem?
   intro j
   by_cases hj:j<n * 2
   ·obtain⟨q,hq,a,b⟩:=hat (j / 2) (by omega)
    obtain⟨a',b'⟩:=hfat l (j / 2) q hq
    rcases(by omega:j=j / 2 * 2∨j=j / 2 * 2+1) with e | e
    ·rw [e,a,a']
    ·rw [e,b,b']
   ·rw [cT (by omega),cT (by omega)]
  ·cases h
theorem xz {W:World}{nm:String}{g:Nat}{cs:Array Value}{l:List (Int × Int)} (hg:Tryz.prog.globalNamed nm=some g) (h:W.var? Tryz.prog nm=some cs) (hc:cs.toList=l.flatMap fun q=>[eT .i64 q.1,eT .i64 q.2]):gl W g=.pro (eH (l.map ti)):=by
 unfold World.var? at h
 rw [hg] at h
 simp only [Iu] at h
 unfold gl
 split at h
 ·next c T fz hh =>
  cases h
  rw [hh]
  simp only [hc]
  have hall:(l.flatMap fun q=>[eT .i64 q.1,eT .i64 q.2]).all zB=true:=by
   rw [aF]
   intro x hx
   obtain⟨q,_,hx⟩:=List.mem_flatMap.1 hx
   rcases dj.1 hx with rfl | hx
   ·rfl
   ·rcases dj.1 hx with rfl | hx
    ·rfl
    ·cases hx
  rw [hall,if_pos rfl]
  rw [yN]
 ·cases h
theorem LY:Tryz.prog.globalNamed "fenestra/width.marks" = some 0:=by kernel_rfl
theorem LS:Tryz.prog.globalNamed "fenestra/width.wides" = some 1:=by kernel_rfl
theorem Kj {W:World} (h:laidMetH Tryz.prog bW W):lY W:=by
 rw [MakeChecks.laidMetH_plain _ _ _ (by kernel_rfl)] at h
 obtain⟨ps,hl,_⟩:=h
 obtain⟨g,t,cs,fuel,p,h1,h2,h3,h4⟩:=jE (nm := "fenestra/width.marks") (d:=Rows.laid_fenestra_width_marks) hl (by simp [bW])
 obtain rfl:=bp (LY.symm.trans h1)
 obtain rfl:=bp ((show (Tryz.prog.globals[0]?).map (·.type)=some 103 by kernel_rfl).symm.trans h2)
 have h5:=na (l:=iU) (yu) (CC) ⟨rfl,rfl⟩ ⟨rfl,rfl⟩ (IK) (by kernel_rfl) (by kernel_rfl) (by kernel_rfl) h4
 exact xz LY h3 h5
theorem IE {W:World} (h:laidMetH Tryz.prog bW W):lW W:=by
 rw [MakeChecks.laidMetH_plain _ _ _ (by kernel_rfl)] at h
 obtain⟨ps,hl,_⟩:=h
 obtain⟨g,t,cs,fuel,p,h1,h2,h3,h4⟩:=jE (nm := "fenestra/width.wides") (d:=Rows.laid_fenestra_width_wides) hl (by simp [bW])
 obtain rfl:=bp (LS.symm.trans h1)
 obtain rfl:=bp ((show (Tryz.prog.globals[1]?).map (·.type)=some 105 by kernel_rfl).symm.trans h2)
 have h5:=na (l:=kl) (CB) (CC) ⟨rfl,rfl⟩ ⟨rfl,rfl⟩ (IK) (by kernel_rfl) (by kernel_rfl) (by kernel_rfl) h4
 exact xz LS h3 h5
theorem ru {W:World} (h:laidMetH Tryz.prog bW W):lx W:=⟨Kj h,IE h,Dq h,Dt h⟩
theorem rl:laidOutB Tryz.prog=true:=by kernel_rfl
end Go.Proofs.YthdbijpefkapnaaGreatDoor
namespace Go.Proofs.YthdbijpefkapnaaGreatDoor
open Go Go.Fen
attribute [local irreducible] ba WP az dI ie cU aR cw
set_option maxRecDepth 8000
theorem lF {k:IntKind}{n:Int} (h:(Lit.int k n).wf=true) (hk:k.min=0):((n.toNat:Nat):Int)=n:=by
 simp only [Lit.wf,aB,decide_eq_true_eq,hk] at h
 omega
theorem rH {k:IntKind}{n:Int} (h:(Lit.int k n).wf=true):n≤k.max:=by
 simp only [Lit.wf,aB,decide_eq_true_eq] at h
 omega
def lk:Sk:=.cons (.int .u16) (.cons (.int .u16) (.cons (.int .u16) (.cons (.int .u32) (.cons .str .nil))))
theorem o6 (y:List AV) (h:lk.has y):∃ (k n m r:Nat) (t:List UInt8),n<65536∧m<65536∧lk.mk y=bf k n m r t:=by
 obtain⟨_,_,rfl,⟨a,rfl,ha⟩,_,_,rfl,⟨b,rfl,hb⟩,_,_,rfl,⟨c,rfl,hc⟩,_,_,rfl,⟨d,rfl,hd⟩,_,_,rfl,⟨s,rfl,_⟩,rfl⟩:=h
 have h2:IntKind.u16.max=65535:=by decide
 have h1:=rH hb
 have h5:=rH hc
 have h3:=lF hb rfl
 have h4:=lF hc rfl
 refine⟨a.toNat,b.toNat,c.toNat,d.toNat,s,by omega,by omega, ?_⟩
 simp [Sk.mk,lk,Sk.isAgg,bf,lF ha rfl,h3,h4,lF hd rfl]
 try rfl
end Go.Proofs.YthdbijpefkapnaaGreatDoor
