/- YthdbijpefkapnaaGreatDoorWalk2. Texts of the proof of a law about texts: a layer of abstract values above the worlds, the types, the walks of the functions that the law reaches, the law and its card. Own work of an AI agent. -/
import Derived.Test.YthdbijpefkapnaaGreatDoorWalk0
import Derived.Test.YthdbijpefkapnaaGreatDoorWalk1
import Derived.Lib.ItoaMem
set_option linter.all false
set_option maxHeartbeats 40000000
open Bool renaming and_eq_true → aB, eq_iff_iff → dT, false_and → bX, not_eq_false' → aA, not_eq_true' → ax, true_and → cA
open Go.IntKind renaming i64 → ar
open Go.IntWalk renaming i64_in → ay
open Go.Lib renaming hid → au, itoa → cO
open List renaming all_eq_true → aF, append_nil → aP, cons_append → al, dropWhile_cons_of_neg → uN, dropWhile_cons_of_pos → uM, foldl_cons → h_, getElem?_eq_getElem → aC, getElem?_eq_some_iff → aw, getElem?_map → aQ, getElem?_of_mem → bh, length → lz, length_append → ab, length_cons → ah, length_map → bB, length_replicate → Cp, map_append → co, map_cons → aG, mem_append → dg, mem_cons → dj, mem_cons_of_mem → ia, mem_map → aX, mem_of_getElem? → aI, replicate → bL, replicate_succ → mn, reverse_append → Ce, reverse_replicate → yl, reverse_reverse → AE, take → qR, toList_toArray → aU
open Nat renaming mod_lt → fa, zero_le → bI
open UInt8 renaming ofNat → aN, toNat → aV
namespace Go.Proofs.YthdbijpefkapnaaGreatDoor
open Go Go.Fen
attribute [local irreducible] ba WP az dI ie cU aR cw
set_option maxRecDepth 8000
def fZ:List Nat→List Nat
 | []=>[]
 | [a]=>[a / 4,a % 4 * 16]
 | [a,b]=>[a / 4,a % 4 * 16+b / 16,b % 16 * 4]
 | a::b::c::r=>a / 4::(a % 4 * 16+b / 16)::(b % 16 * 4+c / 64)::c % 64::fZ r
structure nM where
 out:List Nat
 wait:Nat
 rest:Nat
def eZ (q:nM) (c:Nat):nM :=
 if q.wait=0 then ⟨q.out++[(q.rest * 256+c) / 4],2,(q.rest * 256+c) % 4⟩
 else if q.wait=2 then ⟨q.out++[(q.rest * 256+c) / 16],4,(q.rest * 256+c) % 16⟩
 else ⟨q.out++[(q.rest * 256+c) / 64,(q.rest * 256+c) % 64],0,0⟩
def lS (q:nM):List Nat:=if q.wait=0 then q.out else if q.wait=2 then q.out++[q.rest * 16] else q.out++[q.rest * 4]
def Kx (s:List Nat):nM:=s.foldl eZ ⟨[],0,0⟩
theorem xG:∀ (s:List Nat) (o:List Nat),(∀ x∈s,x<256)→lS (s.foldl eZ ⟨o,0,0⟩)=o++fZ s
 | [],o,_=>by simp [lS,fZ]
 | [a],o,h=>by
  have ha:=h a (by simp)
  simp [eZ,lS,fZ]
 | [a,b],o,h=>by
  have ha:=h a (by simp)
  have hb:=h b (by simp)
  simp [eZ,lS,fZ]
  omega
 | a::b::c::r,o,h=>by
  have ha:=h a (by simp)
  have hb:=h b (by simp)
  have hc:=h c (by simp)
  have ih:=xG r (o++[a / 4,a % 4 * 16+b / 16,b % 16 * 4+c / 64,c % 64]) (fun x hx=>h x (by simp [hx]))
  have e:(a::b::c::r).foldl eZ ⟨o,0,0⟩=r.foldl eZ ⟨o++[a / 4,a % 4 * 16+b / 16,b % 16 * 4+c / 64,c % 64],0,0⟩:=by
   simp only [h_]
   congr 1
   simp [eZ]
   omega
  rw [e,ih]
  simp [fZ]
theorem Eb (s:List Nat) (h:∀ x∈s,x<256):lS (Kx s)=fZ s:=by
 have:=xG s [] h
 simpa [Kx] using this
def k9 (s:List Nat) (k:Nat):Nat:=match s[k / 8]? with | some b=>b / 2 ^ (7 - k % 8) % 2 | none=>0
def jC (s:List Nat) (p:Nat):Nat:=2 * (2 * (2 * (2 * (2 * (2 * 0+k9 s p)+k9 s (p+1))+k9 s (p+2))+k9 s (p+3))+k9 s (p+4))+k9 s (p+5)
theorem BX (a b c:Nat) (r:List Nat) (k:Nat):k9 (a::b::c::r) (k+24)=k9 r k:=by
 unfold k9
 rw [show (k+24) / 8=k / 8+3 by omega,show (k+24) % 8=k % 8 by omega]
 simp
theorem yA (a b c:Nat) (r:List Nat) (p:Nat):jC (a::b::c::r) (p+24)=jC r p:=by
 unfold jC
 rw [show p+24+1=p+1+24 by omega,show p+24+2=p+2+24 by omega,show p+24+3=p+3+24 by omega,show p+24+4=p+4+24 by omega,show p+24+5=p+5+24 by omega]
 simp only [BX]
theorem nH {s:List Nat}{i b:Nat} (h:s[i]? = some b) (j:Nat) (hj:j<8):k9 s (8 * i+j)=b / 2 ^ (7 - j) % 2:=by
 unfold k9
 rw [show (8 * i+j) / 8=i by omega,show (8 * i+j) % 8=j by omega,h]
theorem AA {s:List Nat}{i:Nat} (h:s[i]? = none) (j:Nat) (hj:j<8):k9 s (8 * i+j)=0:=by
 unfold k9
 rw [show (8 * i+j) / 8=i by omega,h]
theorem Av:∀ (s:List Nat),(∀ x∈s,x<256)→∀ j,(fZ s)[j]? = if 6 * j<8 * s.length then some (jC s (6 * j)) else none
 | [],_,j=>by simp [fZ]
 | [a],h,j=>by
  have ha:=h a (by simp)
  have b0:=fun j hj=>nH (s:=[a]) (i:=0) (b:=a) rfl j hj
  have b1:=fun j hj=>AA (s:=[a]) (i:=1) rfl j hj
  match j with
  | 0 =>
   have:=b0 0 (by decide);have:=b0 1 (by decide);have:=b0 2 (by decide);have:=b0 3 (by decide);have:=b0 4 (by decide);have:=b0 5 (by decide)
   simp [fZ,jC] at *
   omega
  | 1 =>
   have:=b0 6 (by decide);have:=b0 7 (by decide);have:=b1 0 (by decide);have:=b1 1 (by decide);have:=b1 2 (by decide);have:=b1 3 (by decide)
   simp [fZ,jC] at *
   omega
  | j+2=>simp [fZ];omega
 | [a,b],h,j=>by
  have ha:=h a (by simp)
  have hb:=h b (by simp)
  have b0:=fun j hj=>nH (s:=[a,b]) (i:=0) (b:=a) rfl j hj
  have b1:=fun j hj=>nH (s:=[a,b]) (i:=1) (b:=b) rfl j hj
  have b2:=fun j hj=>AA (s:=[a,b]) (i:=2) rfl j hj
  match j with
  | 0 =>
   have:=b0 0 (by decide);have:=b0 1 (by decide);have:=b0 2 (by decide);have:=b0 3 (by decide);have:=b0 4 (by decide);have:=b0 5 (by decide)
   simp [fZ,jC] at *
   omega
  | 1 =>
   have:=b0 6 (by decide);have:=b0 7 (by decide);have:=b1 0 (by decide);have:=b1 1 (by decide);have:=b1 2 (by decide);have:=b1 3 (by decide)
   simp [fZ,jC] at *
   omega
  | 2 =>
   have:=b1 4 (by decide);have:=b1 5 (by decide);have:=b1 6 (by decide);have:=b1 7 (by decide);have:=b2 0 (by decide);have:=b2 1 (by decide)
   simp [fZ,jC] at *
   omega
  | j+3=>simp [fZ];omega
 | a::b::c::r,h,j=>by
  have ha:=h a (by simp)
  have hb:=h b (by simp)
  have hc:=h c (by simp)
  have ih:=Av r (fun x hx=>h x (by simp [hx]))
  have b0:=fun j hj=>nH (s:=a::b::c::r) (i:=0) (b:=a) rfl j hj
  have b1:=fun j hj=>nH (s:=a::b::c::r) (i:=1) (b:=b) rfl j hj
  have b2:=fun j hj=>nH (s:=a::b::c::r) (i:=2) (b:=c) rfl j hj
  match j with
  | 0 =>
   have:=b0 0 (by decide);have:=b0 1 (by decide);have:=b0 2 (by decide);have:=b0 3 (by decide);have:=b0 4 (by decide);have:=b0 5 (by decide)
   simp [fZ,jC] at *
   omega
  | 1 =>
   have:=b0 6 (by decide);have:=b0 7 (by decide);have:=b1 0 (by decide);have:=b1 1 (by decide);have:=b1 2 (by decide);have:=b1 3 (by decide)
   simp [fZ,jC] at *
   omega
  | 2 =>
   have:=b1 4 (by decide);have:=b1 5 (by decide);have:=b1 6 (by decide);have:=b1 7 (by decide);have:=b2 0 (by decide);have:=b2 1 (by decide)
   simp [fZ,jC] at *
   omega
  | 3 =>
   have:=b2 2 (by decide);have:=b2 3 (by decide);have:=b2 4 (by decide);have:=b2 5 (by decide);have:=b2 6 (by decide);have:=b2 7 (by decide)
   simp [fZ,jC] at *
   omega
  | j+4 =>
   rw [show 6 * (j+4)=6 * j+24 by omega,yA]
   simp only [fZ,List.getElem?_cons_succ,ah]
   rw [ih j]
   by_cases hh:6 * j<8 * r.length
   ·rw [if_pos hh,if_pos (by omega)]
   ·rw [if_neg hh,if_neg (by omega)]
def eC (q:nM) (v:Nat):nM :=
 if q.wait=0 then ⟨q.out,6,q.rest * 64+v⟩
 else if q.wait=6 then ⟨q.out++[(q.rest * 64+v) / 16],4,(q.rest * 64+v) % 16⟩
 else if q.wait=4 then ⟨q.out++[(q.rest * 64+v) / 4],2,(q.rest * 64+v) % 4⟩
 else ⟨q.out++[q.rest * 64+v],0,0⟩
def d9:List Nat→nM
 | []=>⟨[],0,0⟩
 | [a]=>⟨[],6,a⟩
 | [a,b]=>⟨[a * 4+b / 16],4,b % 16⟩
 | [a,b,c]=>⟨[a * 4+b / 16,b % 16 * 16+c / 4],2,c % 4⟩
 | a::b::c::d::r=>⟨(a * 4+b / 16)::(b % 16 * 16+c / 4)::(c % 4 * 64+d)::(d9 r).out,(d9 r).wait,(d9 r).rest⟩
theorem xK:∀ (s:List Nat) (o:List Nat),(∀ x∈s,x<64)→s.foldl eC ⟨o,0,0⟩=⟨o++(d9 s).out,(d9 s).wait,(d9 s).rest⟩
 | [],o,_=>by simp [d9]
 | [a],o,h=>by simp [eC,d9]
 | [a,b],o,h=>by
  have hb:=h b (by simp)
  simp [eC,d9]
  omega
 | [a,b,c],o,h=>by
  have hb:=h b (by simp)
  have hc:=h c (by simp)
  simp [eC,d9]
  omega
 | a::b::c::d::r,o,h=>by
  have hb:=h b (by simp)
  have hc:=h c (by simp)
  have hd:=h d (by simp)
  have ih:=xK r (o++[a * 4+b / 16,b % 16 * 16+c / 4,c % 4 * 64+d]) (fun x hx=>h x (by simp [hx]))
  have e:(a::b::c::d::r).foldl eC ⟨o,0,0⟩=r.foldl eC ⟨o++[a * 4+b / 16,b % 16 * 16+c / 4,c % 4 * 64+d],0,0⟩:=by
   simp only [h_]
   congr 1
   simp [eC]
   omega
  rw [e,ih]
  simp [d9]
theorem Aw:∀ (s:List Nat),(∀ x∈s,x<64)→(d9 s).wait≠6→(d9 s).rest=0→fZ (d9 s).out=s
 | [],_,_,_=>by simp [d9,fZ]
 | [a],_,h1,_=>by simp [d9] at h1
 | [a,b],h,_,h2=>by
  have hb:=h b (by simp)
  simp [d9] at h2
  simp [d9,fZ]
  omega
 | [a,b,c],h,_,h2=>by
  have hb:=h b (by simp)
  have hc:=h c (by simp)
  simp [d9] at h2
  simp [d9,fZ]
  omega
 | a::b::c::d::r,h,h1,h2=>by
  have hb:=h b (by simp)
  have hc:=h c (by simp)
  have hd:=h d (by simp)
  have ih:=Aw r (fun x hx=>h x (by simp [hx])) (by simpa [d9] using h1) (by simpa [d9] using h2)
  simp only [d9,fZ,ih]
  simp
  omega
theorem vX:∀ (t:List Nat),(∀ x∈t,x<256)→(d9 (fZ t)).out=t∧(d9 (fZ t)).wait≠6∧(d9 (fZ t)).rest=0
 | [],_=>by simp [d9,fZ]
 | [a],h=>by
  have ha:=h a (by simp)
  simp [d9,fZ]
  omega
 | [a,b],h=>by
  have ha:=h a (by simp)
  have hb:=h b (by simp)
  simp [d9,fZ]
  omega
 | a::b::c::r,h=>by
  have ha:=h a (by simp)
  have hb:=h b (by simp)
  have hc:=h c (by simp)
  obtain⟨h1,h2,h3⟩:=vX r (fun x hx=>h x (by simp [hx]))
  simp only [d9,fZ,h1,h3]
  refine⟨?_,h2,trivial⟩
  simp
  omega
theorem qe:∀ (t:List Nat),(∀ x∈t,x<256)→∀ v∈fZ t,v<64
 | [],_=>by simp [fZ]
 | [a],h=>by
  have ha:=h a (by simp)
  simp [fZ]
  omega
 | [a,b],h=>by
  have ha:=h a (by simp)
  have hb:=h b (by simp)
  simp [fZ]
  omega
 | a::b::c::r,h=>by
  have ha:=h a (by simp)
  have hb:=h b (by simp)
  have hc:=h c (by simp)
  have ih:=qe r (fun x hx=>h x (by simp [hx]))
  intro v hv
  simp only [fZ,dj] at hv
  rcases hv with rfl | rfl | rfl | rfl | hv
  ·omega
  ·omega
  ·omega
  ·omega
  ·exact ih v hv
theorem Ee:∀ (s:List Nat),(∀ x∈s,x<64)→∀ v∈(d9 s).out,v<256
 | [],_=>by simp [d9]
 | [a],_=>by simp [d9]
 | [a,b],h=>by
  have ha:=h a (by simp)
  have hb:=h b (by simp)
  simp [d9]
  omega
 | [a,b,c],h=>by
  have ha:=h a (by simp)
  have hb:=h b (by simp)
  have hc:=h c (by simp)
  simp [d9]
  omega
 | a::b::c::d::r,h=>by
  have ha:=h a (by simp)
  have hb:=h b (by simp)
  have hc:=h c (by simp)
  have hd:=h d (by simp)
  have ih:=Ee r (fun x hx=>h x (by simp [hx]))
  intro v hv
  simp only [d9,dj] at hv
  rcases hv with rfl | rfl | rfl | hv
  ·omega
  ·omega
  ·omega
  ·exact ih v hv
theorem pq:∀ (t:List Nat),(fZ t).length=(8 * t.length+5) / 6
 | []=>by simp [fZ]
 | [a]=>by simp [fZ]
 | [a,b]=>by simp [fZ]
 | a::b::c::r=>by
  have ih:=pq r
  simp only [fZ,ah,ih]
  omega
def pU:List UInt8:=[65,66,67,68,69,70,71,72,73,74,75,76,77,78,79,80,81,82,83,84,85,86,87,88,89,90,97,98,99,100,101,102,103,104,105,106,107,108,109,110,111,112,113,114,115,116,117,118,119,120,121,122,48,49,50,51,52,53,54,55,56,57,43,47]
def bO (v:Nat):UInt8:=pU.getD v 0
def mu (c:UInt8):Option Nat:=pU.findIdx? (fun x=>x==c)
theorem wE:∀ v,v<64→mu (bO v)=some v:=by decide +kernel
theorem A5:∀ v,v<64→bO v≠61:=by decide +kernel
theorem Cz:mu 61=none:=by decide +kernel
theorem wD {c:UInt8}{v:Nat} (h:mu c=some v):v<64∧bO v=c:=by
 unfold mu at h
 rw [List.findIdx?_eq_some_iff_getElem] at h
 obtain⟨h1,h2,_⟩:=h
 refine⟨h1, ?_⟩
 unfold bO
 rw [List.getD_eq_getElem?_getD,aC h1]
 simpa using h2
def ig:List UInt8→Option (List Nat)
 | []=>some []
 | c::r=>match mu c with
  | some v=>(ig r).map (v::·)
  | none=>none
def tW:List UInt8→List Nat
 | []=>[]
 | c::r=>match mu c with
  | some v=>v::tW r
  | none=>[]
def iK (s:List UInt8):List UInt8:=(s.reverse.dropWhile (fun b=>b==61)).reverse
def gY (s:List UInt8):List UInt8:=(fZ (s.map aV)).map bO
def jf (n:Nat):Nat:=(4 - n % 4) % 4
def iW (s:List UInt8):List UInt8:=gY s++bL (jf (gY s).length) 61
def sR (s:List UInt8):Option (List UInt8) :=
 if (iK s).length≠s.length∧(s.length % 4≠0∨2<s.length - (iK s).length) then none else
  match ig (iK s) with
  | none=>none
  | some V=>if (d9 V).wait=6∨(d9 V).rest≠0 then none else some ((d9 V).out.map aN)
def xL (s:List UInt8):List UInt8:=(d9 (tW s)).out.map aN
def Eg (s:List UInt8):Option (List UInt8):=if s≠gY (xL s)∧s≠iW (xL s) then none else some (xL s)
theorem wA:∀ (V:List Nat),(∀ v∈V,v<64)→ig (V.map bO)=some V
 | [],_=>rfl
 | v::V,h=>by
  rw [aG,ig,wE v (h v (by simp)),wA V (fun x hx=>h x (by simp [hx]))]
  rfl
theorem pO:∀ {s:List UInt8}{V:List Nat},ig s=some V→s=V.map bO∧∀ v∈V,v<64
 | [],V,h=>by cases h;simp
 | c::r,V,h=>by
  rw [ig] at h
  cases hc:mu c with
  | none=>rw [hc] at h;cases h
  | some v =>
   rw [hc] at h
   simp only at h
   cases hr:ig r with
   | none=>rw [hr] at h;cases h
   | some W =>
    rw [hr] at h
    cases h
    obtain⟨h1,h2⟩:=pO hr
    obtain⟨h3,h4⟩:=wD hc
    refine⟨by rw [aG,h4,← h1], ?_⟩
    intro x hx
    rcases dj.1 hx with rfl | hx
    ·exact h3
    ·exact h2 x hx
theorem mH:∀ (V:List Nat) (k:Nat),(∀ v∈V,v<64)→tW (V.map bO++bL k 61)=V
 | [],k,_=>by
  cases k with
  | zero=>rfl
  | succ k=>simp [mn,tW,Cz]
 | v::V,k,h=>by
  rw [aG,al,tW,wE v (h v (by simp))]
  simp only
  rw [mH V k (fun x hx=>h x (by simp [hx]))]
theorem Ec (l:List UInt8) (k:Nat):(bL k (61:UInt8)++l).dropWhile (fun b=>b==61)=l.dropWhile (fun b=>b==61):=by
 induction k with
 | zero=>rfl
 | succ k ih=>rw [mn,al,uM (by rfl),ih]
theorem CH (V:List Nat) (k:Nat) (h:∀ v∈V,v<64):iK (V.map bO++bL k 61)=V.map bO:=by
 unfold iK
 rw [Ce,yl,Ec]
 cases hV:(V.map bO).reverse with
 | nil=>have:=congrArg List.reverse hV;simp at this;simp [this]
 | cons c r =>
  have hc:c∈V.map bO:=by rw [← List.mem_reverse,hV];simp
  obtain⟨v,hv,rfl⟩:=aX.1 hc
  have hn:=A5 v (h v hv)
  rw [uN (by simpa using hn),← hV,AE]
theorem sL:∀ (l:List UInt8),∃ k,l=bL k 61++l.dropWhile (fun b=>b==61)
 | []=>⟨0,rfl⟩
 | c::r=>by
  by_cases hc:c=61
  ·subst hc
   obtain⟨k,hk⟩:=sL r
   refine⟨k+1, ?_⟩
   rw [uM (by rfl),mn,al,← hk]
  ·refine⟨0, ?_⟩
   rw [uN (by simpa using hc)]
   rfl
theorem rL (s:List UInt8):∃ k,s=iK s++bL k 61:=by
 obtain⟨k,hk⟩:=sL s.reverse
 refine⟨k, ?_⟩
 have:=congrArg List.reverse hk
 rw [AE,Ce,yl] at this
 exact this
theorem sP:∀ V:List Nat,(d9 V).wait=6↔V.length % 4=1
 | []=>by simp [d9]
 | [a]=>by simp [d9]
 | [a,b]=>by simp [d9]
 | [a,b,c]=>by simp [d9]
 | a::b::c::d::r=>by
  have ih:=sP r
  simp only [d9,ah,ih]
  omega
theorem kN:∀ (l:List Nat),(∀ v∈l,v<256)→(l.map aN).map aV=l
 | [],_=>rfl
 | a::l,h=>by
  have ha:=h a (by simp)
  rw [aG,aG,kN l (fun x hx=>h x (by simp [hx]))]
  congr 1
  simp [UInt8.toNat_ofNat']
  omega
theorem toNat_lt (t:List UInt8):∀ v∈t.map aV,v<256:=by
 intro v hv
 obtain⟨c,_,rfl⟩:=aX.1 hv
 exact c.toNat_lt
theorem Ed (s:List UInt8):sR s=Eg s:=by
 by_cases hs:∃ (V:List Nat) (k:Nat),(∀ v∈V,v<64)∧s=V.map bO++bL k 61
 ·obtain⟨V,k,hV,rfl⟩:=hs
  unfold sR Eg xL
  rw [mH V k hV,CH V k hV,wA V hV]
  have ho:=Ee V hV
  have hw:=sP V
  by_cases hq:(d9 V).wait=6∨(d9 V).rest≠0
  ·simp only
   rw [if_pos hq]
   have hno:¬ ((V.map bO++bL k 61=gY ((d9 V).out.map aN))∨(V.map bO++bL k 61=iW ((d9 V).out.map aN))):=by
    intro he
    have he':∃ j,V.map bO++bL k 61=gY ((d9 V).out.map aN)++bL j 61:=by
     rcases he with he | he
     ·exact⟨0,by simpa using he⟩
     ·exact⟨_,he⟩
    obtain⟨j,he⟩:=he'
    have ht:=congrArg tW he
    unfold gY at ht
    rw [mH V k hV,kN _ ho,mH _ j (qe _ ho)] at ht
    obtain⟨_,h2,h3⟩:=vX _ ho
    rw [← ht] at h2 h3
    rcases hq with hq | hq
    ·exact h2 hq
    ·exact hq h3
   split
   ·rw [if_pos ⟨fun e=>hno (.inl e),fun e=>hno (.inr e)⟩]
   ·rw [if_pos ⟨fun e=>hno (.inl e),fun e=>hno (.inr e)⟩]
  ·have h1:(d9 V).wait≠6:=fun e=>hq (.inl e)
   have h2:(d9 V).rest=0:=Decidable.byContradiction fun e=>hq (.inr e)
   have hb:gY ((d9 V).out.map aN)=V.map bO:=by
    unfold gY
    rw [kN _ ho,Aw V hV h1 h2]
   simp only
   rw [if_neg hq]
   unfold iW
   rw [hb]
   simp only [ab,bB,Cp]
   have hl:V.length % 4≠1:=fun e=>h1 (hw.2 e)
   have hk0:(V.map bO++bL k 61=V.map bO)↔k=0:=by
    constructor
    ·intro e
     have:=congrArg lz e
     simp at this
     exact this
    ·rintro rfl;simp
   have hkp:(V.map bO++bL k 61=V.map bO++bL (jf V.length) 61)↔k=jf V.length:=by
    constructor
    ·intro e
     have:=congrArg lz e
     simp at this
     exact this
    ·rintro rfl;rfl
   by_cases hg:k=0∨k=jf V.length
   ·rw [if_neg (by unfold jf at hg;omega),if_neg (by rw [ne_eq,ne_eq,hk0,hkp];omega)]
   ·rw [if_pos (by unfold jf at hg;omega),if_pos (by rw [ne_eq,ne_eq,hk0,hkp];omega)]
 ·have e1:sR s=none:=by
   unfold sR
   split
   ·rfl
   ·cases hv:ig (iK s) with
    | none=>rfl
    | some V =>
     exfalso
     obtain⟨k,hk⟩:=rL s
     obtain⟨h1,h2⟩:=pO hv
     exact hs ⟨V,k,h2,by rw [← h1];exact hk⟩
  have e2:Eg s=none:=by
   unfold Eg
   rw [if_pos]
   constructor
   ·intro e
    exact hs ⟨_,0,qe _ (toNat_lt (xL s)),by rw [List.replicate_zero,aP];exact e⟩
   ·intro e
    exact hs ⟨_,_,qe _ (toNat_lt (xL s)),e⟩
  rw [e1,e2]
def n_ (c:Nat):Bool:=decide (32≤c)&&!(decide (127≤c)&&decide (c≤159))
def ue (s:List UInt8):Bool:=(eb s).all n_&&decide (fW (eb s)=s)
def gZ (s:List UInt8):Bool:=decide (s.length≤510)&&ue s
theorem AZ (l:List Nat):(fW l).map aV=H6 l:=by
 induction l with
 | nil=>rfl
 | cons c l ih =>
  show (pY c++fW l).map aV=tF c++H6 l
  rw [co,ih]
  congr 1
  unfold pY
  exact kN _ (Bh c)
theorem yG (c:Nat) (hc:n_ c=true):∀ x∈tF c,32≤x∧x≠127:=by
 unfold n_ at hc
 simp at hc
 intro x hx
 unfold tF at hx
 split at hx
 ·unfold kK at hx
  repeat' split at hx
  all_goals (simp at hx;omega)
 ·simp [kK] at hx
  omega
def v7 (s:List UInt8):Prop:=∀ b∈s,32≤b.toNat∧b.toNat≠127
theorem xm {s:List UInt8} (h:ue s=true):v7 s:=by
 unfold ue at h
 rw [aB,aF,decide_eq_true_eq] at h
 obtain⟨h1,h2⟩:=h
 intro b hb
 rw [← h2] at hb
 have hm:b.toNat∈(fW (eb s)).map aV:=aX.2 ⟨b,hb,rfl⟩
 rw [AZ] at hm
 obtain⟨c,hc,hx⟩:=List.mem_flatMap.1 hm
 exact yG c (h1 c hc) _ hx
def kJ (n:Nat):List UInt8:=[114,103,98,58,ej (n / 1048576),ej (n / 65536 % 16),47,ej (n / 4096 % 16),ej (n / 256 % 16),47,ej (n / 16 % 16),ej (n % 16)]
def lr:List UInt8→Option Nat
 | [p0,p1,p2,p3,a,b,q,c,d,r,e,f]=>if p0=114∧p1=103∧p2=98∧p3=58∧q=47∧r=47 then
   (match j9 a b,j9 c d,j9 e f with
   | some x,some y,some z=>some (x * 65536+y * 256+z)
   | _,_,_=>none) else none
 | _=>none
theorem vM:∀ x,x<16→∀ y,y<16→j9 (ej x) (ej y)=some (x * 16+y):=by decide +kernel
theorem Bv:∀ x,x<16→32≤(ej x).toNat∧(ej x).toNat≠127∧ej x≠59:=by decide +kernel
theorem G2 {n:Nat} (h:n≤16777215):lr (kJ n)=some n:=by
 unfold kJ lr
 simp only
 rw [if_pos (by simp),vM _ (by omega) _ (by omega),vM _ (by omega) _ (by omega),vM _ (by omega) _ (by omega)]
 simp only
 congr 1
 omega
theorem KH {s:List UInt8}{n:Nat} (h:lr s=some n):n≤16777215:=by
 unfold lr at h
 split at h
 ·split at h
  ·split at h
   ·next x y z hx hy hz =>
    have:=ro hx
    have:=ro hy
    have:=ro hz
    cases h
    omega
   ·cases h
  ·cases h
 ·cases h
theorem Bb {n:Nat} (h:n≤16777215):v7 (kJ n):=by
 intro b hb
 simp only [kJ,dj,List.not_mem_nil,or_false] at hb
 have g:=fun x hx=>Bv x hx
 rcases hb with rfl | rfl | rfl | rfl | rfl | rfl | rfl | rfl | rfl | rfl | rfl | rfl
 all_goals first
  | decide
  | exact⟨(g _ (by omega)).1,(g _ (by omega)).2.1⟩
def Ax (b:UInt8):Bool:=decide (48≤b.toNat)&&decide (b.toNat≤57)
def qV (w:List UInt8):Nat:=w.foldl (fun n b=>n * 10+(b.toNat - 48)) 0
def tK (w:List UInt8):Option Nat:=if w=[]∨3<w.length∨w.all Ax=false∨255<qV w then none else some (qV w)
theorem sA:∀ n:Nat,n<256→tK (cO (n:Int))=some n∧(cO (n:Int)).length≤3∧(cO (n:Int)).all (fun b=>decide (b≠59)&&(decide (32≤b.toNat)&&decide (b.toNat≠127)))=true:=by decide +kernel
theorem Kd {w:List UInt8}{n:Nat} (h:tK w=some n):n≤255:=by
 unfold tK at h
 split at h
 ·cases h
 ·next hh=>cases h;omega
def kD (s:List UInt8):Option (List UInt8 × List UInt8):=if s.dropWhile (fun b=>b != 59)=[] then none else some (s.takeWhile (fun b=>b != 59),(s.dropWhile (fun b=>b != 59)).drop 1)
theorem pu:∀ {w:List UInt8} (r:List UInt8),(∀ b∈w,b≠59)→kD (w++59::r)=some (w,r):=by
 intro w r hw
 have h:(w++59::r).takeWhile (fun b=>b != 59)=w∧(w++59::r).dropWhile (fun b=>b != 59)=59::r:=by
  induction w with
  | nil=>exact⟨rfl,rfl⟩
  | cons c w ih =>
   have hc:(c != 59)=true:=by simpa using hw c (by simp)
   obtain⟨h1,h2⟩:=ih (fun b hb=>hw b (ia _ hb))
   simp only [al]
   rw [List.takeWhile_cons,List.dropWhile_cons,if_pos hc,if_pos hc,h1,h2]
   exact⟨rfl,rfl⟩
 unfold kD
 rw [h.1,h.2]
 rfl
structure Ac where
 kind:Int
 n:Int
 m:Int
 ck:Int
 cn:Int
 text:List UInt8
 deriving DecidableEq
def zeroA:Ac:=⟨0,0,0,0,0,[]⟩
def dc (a:Ac):Option (List UInt8) :=
 if a=⟨44,0,0,0,0,a.text⟩∧gZ a.text=true then some (50::59::a.text)
 else if a=⟨45,a.n,0,2,a.cn,[]⟩∧(0≤a.n∧a.n≤255)∧(0≤a.cn∧a.cn≤16777215) then some (52::59::(cO a.n++59::kJ a.cn.toNat))
 else if a=⟨46,0,0,0,0,a.text⟩∧a.text.length≤378 then some (53::50::59::99::59::iW a.text)
 else none
def fO (s:List UInt8):Option Ac :=
 if 512<s.length then none else
  match kD s with
  | none=>none
  | some (k,r) =>
   if k=[48]∨k=[50] then (if gZ r then some ⟨44,0,0,0,0,r⟩ else none)
   else if k=[52] then
    (match kD r with
    | none=>none
    | some (h,t)=>match tK h,lr t with
     | some n,some c=>some ⟨45,n,0,2,c,[]⟩
     | _,_=>none)
   else if k=[53,50] then
    (match kD r with
    | none=>none
    | some (w,t)=>if w=[99] then
      (match sR t with
      | some c=>if c.length≤378 then some ⟨46,0,0,0,0,c⟩ else none
      | none=>none) else none)
   else none
theorem qB {a:Ac}{s:List UInt8} (h:dc a=some s) :
  (∃ t,a=⟨44,0,0,0,0,t⟩∧gZ t=true∧s=50::59::t) ∨
  (∃ n c:Nat,a=⟨45,n,0,2,c,[]⟩∧n<256∧c≤16777215∧s=52::59::(cO n++59::kJ c)) ∨
  (∃ t,a=⟨46,0,0,0,0,t⟩∧t.length≤378∧s=53::50::59::99::59::iW t):=by
 unfold dc at h
 split at h
 ·next hh=>cases h;exact .inl ⟨_,hh.1,hh.2,rfl⟩
 ·split at h
  ·next hh =>
   obtain⟨h1,⟨h2,h3⟩,h4,h5⟩:=hh
   cases h
   obtain⟨n,hn⟩:∃ n:Nat,a.n=n:=⟨a.n.toNat,by omega⟩
   obtain⟨c,hc⟩:∃ c:Nat,a.cn=c:=⟨a.cn.toNat,by omega⟩
   rw [hn,hc] at h1
   exact .inr (.inl ⟨n,c,h1,by omega,by omega,by rw [hn,hc];rfl⟩)
  ·split at h
   ·next hh=>cases h;exact .inr (.inr ⟨_,hh.1,hh.2,rfl⟩)
   ·cases h
theorem xH (t:List UInt8):(iW t).length=(t.length+2) / 3 * 4:=by
 unfold iW gY jf
 simp only [ab,bB,Cp,pq]
 omega
theorem yz:∀ v,v<64→32≤(bO v).toNat∧(bO v).toNat≠127:=by decide +kernel
theorem zg (t:List UInt8):v7 (iW t):=by
 intro b hb
 unfold iW gY at hb
 rcases dg.1 hb with hb | hb
 ·obtain⟨v,hv,rfl⟩:=aX.1 hb
  exact yz v (qe _ (toNat_lt t) v hv)
 ·rw [List.eq_of_mem_replicate hb];decide
theorem Ef (t:List UInt8):sR (iW t)=some t:=by
 rw [Ed]
 have hV:=qe _ (toNat_lt t)
 have hd:xL (iW t)=t:=by
  unfold xL iW gY
  rw [mH _ _ hV,(vX _ (toNat_lt t)).1,List.map_map]
  conv=>rhs;rw [← List.map_id t]
  apply List.map_congr_left
  intro c _
  simp
 unfold Eg
 rw [hd,if_neg (by simp)]
theorem xg {a:Ac}{s:List UInt8} (h:dc a=some s):fO s=some a∧0<s.length∧s.length≤512∧v7 s:=by
 rcases qB h with⟨t,rfl,ht,rfl⟩ | ⟨n,c,rfl,hn,hc,rfl⟩ | ⟨t,rfl,ht,rfl⟩
 ·have htl:t.length≤510∧ue t=true:=by unfold gZ at ht;simpa using ht
  refine⟨?_,by simp,by simp;omega, ?_⟩
  ·unfold fO
   have hcut:kD (50::59::t)=some ([50],t):=pu (w:=[50]) t (by simp)
   rw [if_neg (by simp;omega),hcut]
   simp [ht]
  ·intro b hb
   simp only [dj] at hb
   rcases hb with rfl | rfl | hb
   ·decide
   ·decide
   ·exact xm htl.2 b hb
 ·obtain⟨h1,h2,h3⟩:=sA n hn
  rw [aF] at h3
  have hw:∀ b∈cO (n:Int),b≠59:=fun b hb=>by have:=h3 b hb;simp at this;exact this.1
  have hl:(kJ c).length=12:=rfl
  refine⟨?_,by simp,by simp;omega, ?_⟩
  ·unfold fO
   have hcut:kD (52::59::(cO (n:Int)++59::kJ c))=some ([52],cO (n:Int)++59::kJ c):=pu (w:=[52]) _ (by simp)
   rw [if_neg (by simp;omega),hcut]
   simp only
   rw [if_neg (by decide),if_pos trivial,pu _ hw]
   simp only [h1,G2 hc]
  ·intro b hb
   simp only [dj,dg] at hb
   rcases hb with rfl | rfl | hb | rfl | hb
   ·decide
   ·decide
   ·have:=h3 b hb;simp at this;exact⟨this.2.1,this.2.2⟩
   ·decide
   ·exact Bb hc b hb
 ·have hl:=xH t
  refine⟨?_,by simp,by simp;omega, ?_⟩
  ·unfold fO
   have hcut:kD (53::50::59::99::59::iW t)=some ([53,50],99::59::iW t):=pu (w:=[53,50]) _ (by simp)
   have hcut2:kD (99::59::iW t)=some ([99],iW t):=pu (w:=[99]) _ (by simp)
   rw [if_neg (by simp;omega),hcut]
   simp only
   rw [if_neg (by decide),if_neg (by decide),if_pos trivial,hcut2]
   simp only [if_true,Ef,ht]
  ·intro b hb
   simp only [dj] at hb
   rcases hb with rfl | rfl | rfl | rfl | rfl | hb
   ·decide
   ·decide
   ·decide
   ·decide
   ·decide
   ·exact zg t b hb
theorem xf {s:List UInt8}{a:Ac} (h:fO s=some a):(∃ u,dc a=some u)∧s.length≤512:=by
 unfold fO at h
 split at h
 ·cases h
 next hl =>
 refine⟨?_,by omega⟩
 split at h
 ·cases h
 ·split at h
  ·split at h
   ·next ht=>cases h;exact⟨_,by unfold dc;rw [if_pos ⟨rfl,ht⟩]⟩
   ·cases h
  ·split at h
   ·split at h
    ·cases h
    ·split at h
     ·next n c hn hc =>
      cases h
      have h1:=Kd hn
      have h2:=KH hc
      exact⟨_,by unfold dc;rw [if_neg (by simp),if_pos ⟨rfl,⟨by simp,by simp;omega⟩,by simp,by simp;omega⟩]⟩
     ·cases h
   ·split at h
    ·split at h
     ·cases h
     ·split at h
      ·split at h
       ·split at h
        ·next hc=>cases h;exact⟨_,by unfold dc;rw [if_neg (by simp),if_neg (by simp),if_pos ⟨rfl,hc⟩]⟩
        ·cases h
       ·cases h
      ·cases h
    ·cases h
theorem Jf (w0:World) (S:List aH) (s:List UInt8) (hs:s.length≤10000000) (R:Rt) (h:R (.ret (.bool (gZ s))) S):az Tryz.prog w0 90 [.str s] S R:=by
 unfold gZ ue at h
 by_cases h40:s.length≤510
 case neg =>
  rw [decide_eq_false h40,bX] at h
  have d0:decide ((510:Int)<(s.length:Int))=true:=by simp;omega
  clear h40 hs
  refine eN Tryz.func90 rfl Tryz.ntmps90 fun hO=>?_
  repeat' first | refine st ?_ | (refine br ?_ ?_<;>intro hb) | fail
  refine fR Tryz.results90 ?_
  exact h
 rw [decide_eq_true h40,cA] at h
 have d0:decide ((510:Int)<(s.length:Int))=false:=by simp;omega
 have hco:=fun S'=>Jl w0 S' s (by omega)
 have hcl:=qk s
 have hte:=fun S'=>Lk w0 S' (eb s) (fun c hc=>by have:=hcl.1 c hc;omega) (by omega)
 have hll:(eb s).length≤100000000:=by omega
 generalize eb s=l at h hco hte hll
 have Hte:=au hte
 clear hcl hte h40 hs
 refine eN Tryz.func90 rfl Tryz.ntmps90 fun hO=>?_
 repeat' first | refine st ?_ | (refine ca ?_;apply hco) | (refine br ?_ ?_<;>intro hb) | fail
 refine dX (fun (k:Nat) env S'=>k≤l.length∧(∀ j c,j<k→l[j]? = some c→n_ c=true)∧env 1000000=.dfr []∧env 0=.str s∧env 3=.sval false (l.map Co)∧env 4=.int .i64 (k:Int)∧S'=S) (fun k=>l.length - k) 0 ?_ ?_
 ·exact⟨bI _,fun j c hj=>absurd hj (by omega),ss,ss,ss,ss,rfl⟩
 ·rintro k env S' ⟨hk,hall,e0,f0,e3,e4,rfl⟩ IH
  have HI:=au IH
  have Hall:=au hall
  have H:=au h
  clear IH hall h hco
  by_cases hlt:k<l.length
  ·obtain⟨c,hx⟩:∃ c,l[k]? = some c:=⟨_,aC hlt⟩
   have h1:decide ((k:Int)<(l.length:Int))=true:=by simpa using hlt
   have hw:ar.wrap ((k:Int)+1)=(k:Int)+1:=ay _ (by omega)
   have bad:n_ c=false→R (.ret (.bool false)) S':=fun hc=>by
    have e:l.all n_=false:=by
     rw [List.all_eq_false]
     exact⟨c,aI hx,by simp [hc]⟩
    have:=H.out
    rw [e,bX] at this
    exact this
   have good:n_ c=true→∀ j d,j<k+1→l[j]? = some d→n_ d=true:=fun hc j d hj hd=>by
    by_cases e:j=k
    ·rw [e,hx] at hd;cases hd;exact hc
    ·exact Hall.out j d (by omega) hd
   have Bad:=au bad
   have Good:=au good
   have Hlt:=au hlt
   clear bad good hlt hk hll
   by_cases q1:c<32
   ·have d1:decide ((c:Int)<32)=true:=by simp;omega
    have hc:n_ c=false:=by unfold n_;rw [decide_eq_false (by omega)];rfl
    have hb:=Bad.out hc
    clear q1 hc
    repeat' first | apply dM | apply cW | apply cj | apply cX | apply dN | apply bv | apply dQ | apply bx | apply bl | apply bF | apply bw | apply bj | apply aZ | apply dP | (apply a_;(· rfl)) | (apply bD;simp only [aU]) | (apply bZ;(· rfl);(· simp only [go_sem, *,Co];try rfl);(· rfl);simp only [putA]) | (apply cZ;simp only [putA]) | apply bG | (apply b_;(· simp only [go_sem, *,Co];try rfl);(· rfl);(· simp only [go_sem, *,Co];try rfl)) | (apply cF;(iterate 2 (· simp only [go_sem, *,Co];try rfl));(· rfl);simp only [putA]) | (apply bi;(· simp only [go_sem, *,Co];try rfl);(· rfl);simp only [putA]) | (apply ce;(· simp only [go_sem, *,Co];try rfl)) | (apply ci;(· simp only [go_sem, *,Co];try rfl)) | (apply bE;(· rfl);(fail_if_success (focus (show _=some true;(· simp only [go_sem, *,Co];try rfl))));(· simp only [go_sem, *,Co];try rfl);all_goals (intro hb;try simp only [ax,aA] at hb)) | (apply cg;(· simp only [go_sem, *,Co];try rfl);all_goals (intro hb;try simp only [ax,aA] at hb)) | fail
    refine fR Tryz.results90 ?_
    exact hb
   have d1:decide ((c:Int)<32)=false:=by simp;omega
   by_cases q2:127≤c
   ·have d2:decide ((127:Int)≤(c:Int))=true:=by simp;omega
    by_cases q3:c≤159
    ·have d3:decide ((c:Int)≤159)=true:=by simp;omega
     have hc:n_ c=false:=by unfold n_;rw [decide_eq_true q2,decide_eq_true q3];simp
     have hb:=Bad.out hc
     clear q1 q2 q3 hc
     repeat' first | apply dM | apply cW | apply cj | apply cX | apply dN | apply bv | apply dQ | apply bx | apply bl | apply bF | apply bw | apply bj | apply aZ | apply dP | (apply a_;(· rfl)) | (apply bD;simp only [aU]) | (apply bZ;(· rfl);(· simp only [go_sem, *,Co];try rfl);(· rfl);simp only [putA]) | (apply cZ;simp only [putA]) | apply bG | (apply b_;(· simp only [go_sem, *,Co];try rfl);(· rfl);(· simp only [go_sem, *,Co];try rfl)) | (apply cF;(iterate 2 (· simp only [go_sem, *,Co];try rfl));(· rfl);simp only [putA]) | (apply bi;(· simp only [go_sem, *,Co];try rfl);(· rfl);simp only [putA]) | (apply ce;(· simp only [go_sem, *,Co];try rfl)) | (apply ci;(· simp only [go_sem, *,Co];try rfl)) | (apply bE;(· rfl);(fail_if_success (focus (show _=some true;(· simp only [go_sem, *,Co];try rfl))));(· simp only [go_sem, *,Co];try rfl);all_goals (intro hb;try simp only [ax,aA] at hb)) | (apply cg;(· simp only [go_sem, *,Co];try rfl);all_goals (intro hb;try simp only [ax,aA] at hb)) | fail
     refine fR Tryz.results90 ?_
     exact hb
    ·have d3:decide ((c:Int)≤159)=false:=by simp;omega
     have hc:n_ c=true:=by unfold n_;rw [decide_eq_false q3,decide_eq_true (by omega)];simp
     clear q1 q2 q3
     repeat' first | apply dM | apply cW | apply cj | apply cX | apply dN | apply bv | apply dQ | apply bx | apply bl | apply bF | apply bw | apply bj | apply aZ | apply dP | (apply a_;(· rfl)) | (apply bD;simp only [aU]) | (apply bZ;(· rfl);(· simp only [go_sem, *,Co];try rfl);(· rfl);simp only [putA]) | (apply cZ;simp only [putA]) | apply bG | (apply b_;(· simp only [go_sem, *,Co];try rfl);(· rfl);(· simp only [go_sem, *,Co];try rfl)) | (apply cF;(iterate 2 (· simp only [go_sem, *,Co];try rfl));(· rfl);simp only [putA]) | (apply bi;(· simp only [go_sem, *,Co];try rfl);(· rfl);simp only [putA]) | (apply ce;(· simp only [go_sem, *,Co];try rfl)) | (apply ci;(· simp only [go_sem, *,Co];try rfl)) | (apply bE;(· rfl);(fail_if_success (focus (show _=some true;(· simp only [go_sem, *,Co];try rfl))));(· simp only [go_sem, *,Co];try rfl);all_goals (intro hb;try simp only [ax,aA] at hb)) | (apply cg;(· simp only [go_sem, *,Co];try rfl);all_goals (intro hb;try simp only [ax,aA] at hb)) | fail
     refine HI.out (k+1) _ _ (by have:=Hlt.out;omega) ⟨Hlt.out,Good.out hc, ?_, ?_, ?_, ?_,rfl⟩
     all_goals (simp only [go_sem, *];try rfl)
   ·have d2:decide ((127:Int)≤(c:Int))=false:=by simp;omega
    have hc:n_ c=true:=by unfold n_;rw [decide_eq_false q2,decide_eq_true (by omega)];rfl
    clear q1 q2
    repeat' first | apply dM | apply cW | apply cj | apply cX | apply dN | apply bv | apply dQ | apply bx | apply bl | apply bF | apply bw | apply bj | apply aZ | apply dP | (apply a_;(· rfl)) | (apply bD;simp only [aU]) | (apply bZ;(· rfl);(· simp only [go_sem, *,Co];try rfl);(· rfl);simp only [putA]) | (apply cZ;simp only [putA]) | apply bG | (apply b_;(· simp only [go_sem, *,Co];try rfl);(· rfl);(· simp only [go_sem, *,Co];try rfl)) | (apply cF;(iterate 2 (· simp only [go_sem, *,Co];try rfl));(· rfl);simp only [putA]) | (apply bi;(· simp only [go_sem, *,Co];try rfl);(· rfl);simp only [putA]) | (apply ce;(· simp only [go_sem, *,Co];try rfl)) | (apply ci;(· simp only [go_sem, *,Co];try rfl)) | (apply bE;(· rfl);(fail_if_success (focus (show _=some true;(· simp only [go_sem, *,Co];try rfl))));(· simp only [go_sem, *,Co];try rfl);all_goals (intro hb;try simp only [ax,aA] at hb)) | (apply cg;(· simp only [go_sem, *,Co];try rfl);all_goals (intro hb;try simp only [ax,aA] at hb)) | fail
    refine HI.out (k+1) _ _ (by have:=Hlt.out;omega) ⟨Hlt.out,Good.out hc, ?_, ?_, ?_, ?_,rfl⟩
    all_goals (simp only [go_sem, *];try rfl)
  ·have h1:decide ((k:Int)<(l.length:Int))=false:=by simpa using hlt
   have e:l.all n_=true:=by
    rw [aF]
    intro c hc
    obtain⟨j,hj⟩:=bh hc
    exact Hall.out j c (by have:=(aw.1 hj).1;omega) hj
   have hh:=H.out
   rw [e,cA] at hh
   have ht:=Hte.out
   clear hlt hk e Hall HI hll
   repeat' first | refine st ?_ | (refine ca ?_;apply ht) | (refine br ?_ ?_<;>intro hb) | fail
   refine fR Tryz.results90 ?_
   rw [show (fW l==s)=decide (fW l=s) by rw [dT];simp]
   exact hh
theorem gm (a b:Nat):(a:Int).tmod (b:Int)=((a % b:Nat):Int):=by rw [Int.tmod_eq_emod_of_nonneg (by omega)];omega
theorem A0 (a b:Nat) (h:a<4294967296):ar.wrap ((a:Int).tdiv (b:Int))=((a / b:Nat):Int):=by
 have:=Nat.div_le_self a b
 rw [Int.tdiv_eq_ediv_of_nonneg (by omega),← Int.natCast_ediv]
 generalize a / b=q at *
 exact ay _ (by omega)
theorem vk (w0:World) (S:List aH) (n:Int) (R:Rt) (h:R (.ret (.int .i64 (if 0≤n∧n≤16777215 then 0 else 130))) S):az Tryz.prog w0 89 [.agg [.int .i64 2,.int .i64 n]] S R:=by
 by_cases c1:0≤n
 ·have d1:decide (0≤n)=true:=decide_eq_true c1
  by_cases c2:n≤16777215
  ·have d2:decide (n≤16777215)=true:=decide_eq_true c2
   rw [if_pos ⟨c1,c2⟩] at h
   clear c1 c2
   refine eN Tryz.func89 rfl Tryz.ntmps89 fun hO=>?_
   repeat' first | refine st ?_ | (refine br ?_ ?_<;>intro hb) | fail
   refine fR Tryz.results89 ?_
   exact h
  ·have d2:decide (n≤16777215)=false:=decide_eq_false c2
   rw [if_neg (fun e=>c2 e.2)] at h
   clear c1 c2
   refine eN Tryz.func89 rfl Tryz.ntmps89 fun hO=>?_
   repeat' first | refine st ?_ | (refine br ?_ ?_<;>intro hb) | fail
   refine fR Tryz.results89 ?_
   exact h
 ·have d1:decide (0≤n)=false:=decide_eq_false c1
  rw [if_neg (fun e=>c1 e.1)] at h
  clear c1
  refine eN Tryz.func89 rfl Tryz.ntmps89 fun hO=>?_
  repeat' first | refine st ?_ | (refine br ?_ ?_<;>intro hb) | fail
  refine fR Tryz.results89 ?_
  exact h
theorem Lm (w0:World) (S:List aH) (n:Int) (hn:0≤n∧n≤16777215) (R:Rt) (h:R (.ret (.tup [.int .i64 n,.bool true])) S):az Tryz.prog w0 179 [.agg [.int .i64 2,.int .i64 n]] S R:=by
 have hc:=fun S'=>vk w0 S' n
 rw [if_pos hn] at hc
 clear hn
 refine eN Tryz.func179 rfl Tryz.ntmps179 fun hO=>?_
 repeat' first | refine st ?_ | (refine ca ?_;apply hc) | (refine br ?_ ?_<;>intro hb) | fail
 refine fR Tryz.results179 ?_
 exact h
theorem Dh (w0:World) (S:List aH) (n:Int) (hn:¬ (0≤n∧n≤16777215)) (R:Rt) (h:R (.ret (.tup [.str [],.int .i64 130])) S):az Tryz.prog w0 91 [.agg [.int .i64 2,.int .i64 n]] S R:=by
 have hc:=fun S'=>vk w0 S' n
 rw [if_neg hn] at hc
 clear hn
 refine eN Tryz.func91 rfl Tryz.ntmps91 fun hO=>?_
 repeat' first | refine st ?_ | (refine ca ?_;apply hc) | (refine br ?_ ?_<;>intro hb) | fail
 refine fR Tryz.results91 ?_
 exact h
theorem uo:∀ a:Nat,a<16→List.drop a ((48:UInt8)::qR a [49,50,51,52,53,54,55,56,57,97,98,99,100,101,102])=[ej a]:=by decide +kernel
theorem FJ (w0:World) (S:List aH) (n:Nat) (hn:n≤16777215) (R:Rt) (h:R (.ret (.tup [.str (kJ n),.int .i64 0])) S):az Tryz.prog w0 91 [.agg [.int .i64 2,.int .i64 n]] S R:=by
 have hc:=fun S'=>vk w0 S' n
 rw [if_pos (by omega)] at hc
 have hr:=fun S'=>Lm w0 S' n (by omega)
 unfold kJ at h
 have q0:ar.wrap ((n:Int).tdiv 1048576)=((n / 1048576:Nat):Int):=A0 n 1048576 (by omega)
 have r0:((n / 1048576:Nat):Int).tmod 16=((n / 1048576 % 16:Nat):Int):=gm _ 16
 have l0:n / 1048576 % 16<16:=fa _ (by decide)
 have q1:ar.wrap ((n:Int).tdiv 65536)=((n / 65536:Nat):Int):=A0 n 65536 (by omega)
 have r1:((n / 65536:Nat):Int).tmod 16=((n / 65536 % 16:Nat):Int):=gm _ 16
 have l1:n / 65536 % 16<16:=fa _ (by decide)
 have q2:ar.wrap ((n:Int).tdiv 4096)=((n / 4096:Nat):Int):=A0 n 4096 (by omega)
 have r2:((n / 4096:Nat):Int).tmod 16=((n / 4096 % 16:Nat):Int):=gm _ 16
 have l2:n / 4096 % 16<16:=fa _ (by decide)
 have q3:ar.wrap ((n:Int).tdiv 256)=((n / 256:Nat):Int):=A0 n 256 (by omega)
 have r3:((n / 256:Nat):Int).tmod 16=((n / 256 % 16:Nat):Int):=gm _ 16
 have l3:n / 256 % 16<16:=fa _ (by decide)
 have q4:ar.wrap ((n:Int).tdiv 16)=((n / 16:Nat):Int):=A0 n 16 (by omega)
 have r4:((n / 16:Nat):Int).tmod 16=((n / 16 % 16:Nat):Int):=gm _ 16
 have l4:n / 16 % 16<16:=fa _ (by decide)
 have q5:ar.wrap ((n:Int).tdiv 1)=((n / 1:Nat):Int):=A0 n 1 (by omega)
 have r5:((n / 1:Nat):Int).tmod 16=((n / 1 % 16:Nat):Int):=gm _ 16
 have l5:n / 1 % 16<16:=fa _ (by decide)
 have e0:n / 1048576=n / 1048576 % 16:=by omega
 have e5:n % 16=n / 1 % 16:=by rw [Nat.div_one]
 rw [e0,e5] at h
 obtain⟨a0,h0⟩:∃ a,n / 1048576 % 16=a:=⟨_,rfl⟩
 rw [h0] at r0 l0 h
 have s0:=uo a0 l0
 have kk0:ar.wrap ((a0:Int)+1)=((a0+1:Nat):Int):=by rw [ay _ (by omega)];omega
 have x0:((a0+1:Nat):Int)≤((16:Nat):Int):=by omega
 have y0:(a0:Int)≤((a0+1:Nat):Int):=by omega
 obtain⟨a1,h1⟩:∃ a,n / 65536 % 16=a:=⟨_,rfl⟩
 rw [h1] at r1 l1 h
 have s1:=uo a1 l1
 have kk1:ar.wrap ((a1:Int)+1)=((a1+1:Nat):Int):=by rw [ay _ (by omega)];omega
 have x1:((a1+1:Nat):Int)≤((16:Nat):Int):=by omega
 have y1:(a1:Int)≤((a1+1:Nat):Int):=by omega
 obtain⟨a2,h2⟩:∃ a,n / 4096 % 16=a:=⟨_,rfl⟩
 rw [h2] at r2 l2 h
 have s2:=uo a2 l2
 have kk2:ar.wrap ((a2:Int)+1)=((a2+1:Nat):Int):=by rw [ay _ (by omega)];omega
 have x2:((a2+1:Nat):Int)≤((16:Nat):Int):=by omega
 have y2:(a2:Int)≤((a2+1:Nat):Int):=by omega
 obtain⟨a3,h3⟩:∃ a,n / 256 % 16=a:=⟨_,rfl⟩
 rw [h3] at r3 l3 h
 have s3:=uo a3 l3
 have kk3:ar.wrap ((a3:Int)+1)=((a3+1:Nat):Int):=by rw [ay _ (by omega)];omega
 have x3:((a3+1:Nat):Int)≤((16:Nat):Int):=by omega
 have y3:(a3:Int)≤((a3+1:Nat):Int):=by omega
 obtain⟨a4,h4⟩:∃ a,n / 16 % 16=a:=⟨_,rfl⟩
 rw [h4] at r4 l4 h
 have s4:=uo a4 l4
 have kk4:ar.wrap ((a4:Int)+1)=((a4+1:Nat):Int):=by rw [ay _ (by omega)];omega
 have x4:((a4+1:Nat):Int)≤((16:Nat):Int):=by omega
 have y4:(a4:Int)≤((a4+1:Nat):Int):=by omega
 obtain⟨a5,h5⟩:∃ a,n / 1 % 16=a:=⟨_,rfl⟩
 rw [h5] at r5 l5 h
 have s5:=uo a5 l5
 have kk5:ar.wrap ((a5:Int)+1)=((a5+1:Nat):Int):=by rw [ay _ (by omega)];omega
 have x5:((a5+1:Nat):Int)≤((16:Nat):Int):=by omega
 have y5:(a5:Int)≤((a5+1:Nat):Int):=by omega
 clear hn e0 e5 h0 l0 h1 l1 h2 l2 h3 l3 h4 l4 h5 l5
 refine eN Tryz.func91 rfl Tryz.ntmps91 fun hO=>?_
 repeat' first | refine st ?_ | (refine ca ?_;first | apply hc | apply hr) | (refine br ?_ ?_<;>intro hb) | apply cP | apply eg | refine sd ?_ | apply aE | (apply aO;(· decide +kernel)) | refine bd ?_ ?_ | (refine cd ?_;first | apply hc | apply hr) | fail
 refine fR Tryz.results91 ?_
 exact h
def FU (s:List Nat) (p:Nat):Nat→Nat
 | 0=>0
 | t+1=>2 * FU s p t+k9 s (p+t)
theorem FT (s:List Nat) (p:Nat):FU s p 6=jC s p:=rfl
theorem KK (s:List Nat) (k:Nat):k9 s k<2:=by
 unfold k9
 split
 ·exact fa _ (by decide)
 ·decide
theorem yJ (s:List Nat) (p:Nat):∀ t,FU s p t<2 ^ t
 | 0=>by simp [FU]
 | t+1=>by
  have:=yJ s p t
  have:=KK s (p+t)
  rw [FU,Nat.pow_succ]
  omega
theorem Jn:∀ m:Nat,m<8→([AV.int .i64 128,.int .i64 64,.int .i64 32,.int .i64 16,.int .i64 8,.int .i64 4,.int .i64 2,.int .i64 1]:List AV)[m]? = some (.int .i64 ((2 ^ (7 - m):Nat):Int)):=by
 intro m hm
 match m,hm with
 | 0,_=>rfl
 | 1,_=>rfl
 | 2,_=>rfl
 | 3,_=>rfl
 | 4,_=>rfl
 | 5,_=>rfl
 | 6,_=>rfl
 | 7,_=>rfl
theorem E7:∀ v,v<64→([65,66,67,68,69,70,71,72,73,74,75,76,77,78,79,80,81,82,83,84,85,86,87,88,89,90,97,98,99,100,101,102,103,104,105,106,107,108,109,110,111,112,113,114,115,116,117,118,119,120,121,122,48,49,50,51,52,53,54,55,56,57,43,47]:List UInt8)[v]? = some (bO v):=by decide +kernel
theorem GW {s:List UInt8}{j:Nat} (h:6 * j<8 * s.length):jC (s.map aV) (6 * j)<64∧(gY s)[j]? = some (bO (jC (s.map aV) (6 * j))):=by
 have e:=Av (s.map aV) (toNat_lt s) j
 rw [if_pos (by simpa using h)] at e
 refine⟨yJ _ _ 6, ?_⟩
 unfold gY
 rw [aQ,e]
 rfl
end Go.Proofs.YthdbijpefkapnaaGreatDoor
