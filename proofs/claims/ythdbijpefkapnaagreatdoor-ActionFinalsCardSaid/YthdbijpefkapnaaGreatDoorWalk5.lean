/- YthdbijpefkapnaaGreatDoorWalk5: a part of the proof. -/
import Derived.Test.YthdbijpefkapnaaGreatDoorWalk4
import Derived.Test.YthdbijpefkapnaaGreatDoorWalk1
set_option linter.all false
set_option maxHeartbeats 40000000
open And renaming intro → a6
open Bool renaming eq_false_iff → sF, eq_iff_iff → eB
open Go.IntKind renaming i64 → ae, u64 → aR, u8 → aX
open Go.IntWalk renaming i64_in → ah, u8_in → di
open Go.Lib renaming hid → ab, itoa → gn
open List renaming append_assoc → aN, append_nil → aG, drop_eq_getElem_cons → p9, getElem?_eq_getElem → al, getElem?_eq_none → ce, getElem?_eq_some_iff → af, getElem?_map → aI, getElem?_of_mem → aQ, length → iz, length_append → ai, length_cons → aB, length_drop → BJ, length_map → be, length_nil → aL, map_append → aY, mem_of_getElem? → ax, replicate → a7, replicate_succ' → zZ, replicate_zero → Ep, take_add_one → sC, take_length → bt, take_succ_cons → aZ, take_zero → aP
open Nat renaming mod_lt → dY, pow_le_pow_right → gw, zero_le → bf
open UInt8 renaming ofNat → ay, toNat → aJ
namespace Go.Proofs.YthdbijpefkapnaaGreatDoor
open Go Go.Fen Go.Proofs.Tryz
attribute [local irreducible] aW WP aj dS jl cQ aV cV
set_option maxRecDepth 8000
variable (w0:World) (S:List aH)
theorem Ha(s:List UInt8)(hs:s.length≤100000)(R:Rt)(h:R (.ret (.str (gh s))) S):aj prog w0 180 [.str s] S R:=by
 have hel:(gh s).length=(8 * s.length+5) / 6:=by unfold gh;simp [mU]
 have hlm:ae.wrap (8 * (s.length:Int))=((8 * s.length:Nat):Int):=by rw [ah _ (by omega)];omega
 obtain⟨t,ht⟩:∃ t,s.map aJ=t:=⟨_,rfl⟩
 have hat:=fun j hj=>Gp (s:=s) (j:=j) hj
 rw [ht] at hat
 obtain⟨L,hL⟩:∃ L,gh s=L:=⟨_,rfl⟩
 rw [hL] at h hel hat
 have Hat:=ab hat
 clear hat hL
 refine eN func180 rfl ntmps180 fun hO=>?_
 repeat' first|refine st ?_|(refine br ?_ ?_<;>intro hb)|fail
 refine jp (t:=3) 5 1 ss (by decide) ?_
 try simp only [go_sem, *]
 refine cW (fun (j:Nat) env S'=>j≤L.length∧env 1000000=.dfr []∧env 0=.str s∧env 3=.sown S.length j j∧env 4=.int .i64 ((6 * j:Nat):Int) ∧
  S'=S++[.arr 5 1 0 j ((L.take j).map jj)]) (fun j=>L.length - j) 0 ?_ ?_
 ·exact⟨bf _,ss,ss,ss,ss,rfl⟩
 ·rintro j env S' ⟨hj,e0,f0,f3,f4,rfl⟩ IH
  have HI:=ab IH
  have H:=ab h
  clear IH h
  by_cases hlt:j<L.length
  ·have hlt8:6 * j<8 * s.length:=by omega
   have d0:decide (((6 * j:Nat):Int)<((8 * s.length:Nat):Int))=true:=by simp;omega
   have hw6:ae.wrap (((6 * j:Nat):Int)+6)=((6 * (j+1):Nat):Int):=by rw [ah _ (by omega)];omega
   have hlen:((L.take j).map jj).length=j:=by simp;omega
   have hjn:j≤1000000:=by omega
   repeat' first|refine st ?_|(refine br ?_ ?_<;>intro hb)|fail
   refine cW (fun (k:Nat) env2 S2=>k≤6∧env2 1000000=.dfr []∧env2 0=.str s∧env2 3=.sown S.length j j∧env2 4=.int .i64 ((6 * j:Nat):Int)∧env2 5=.int .i64 (Fw t (6 * j) k:Nat)∧env2 6=.int .i64 ((6 * j+k:Nat):Int) ∧
    S2=S++[.arr 5 1 0 j ((L.take j).map jj)]) (fun k=>6 - k) 0 ?_ ?_
   ·exact⟨bf _,ss,ss,ss,ss,ss,ss,rfl⟩
   ·rintro k env2 S2 ⟨hk,g0,h0,h3,h4,h5,h6,rfl⟩ IH2
    have HI2:=ab IH2
    clear IH2 e0 f0 f3 f4
    by_cases hk6:k<6
    ·have d1:decide (((6 * j+k:Nat):Int)<((6 * (j+1):Nat):Int))=true:=by simp;omega
     have hp:=x8 t (6 * j) k
     have hp6:2 ^ k≤64:=gw (by decide:2>0) (show k≤6 from hk)
     have hps:Fw t (6 * j) (k+1)=2 * Fw t (6 * j) k+kG t (6 * j+k):=rfl
     generalize Fw t (6 * j) k=n at h5 hp hps
     have hwk:ae.wrap (((6 * j+k:Nat):Int)+1)=((6 * j+(k+1):Nat):Int):=by rw [ah _ (by omega)];omega
     have hq:ae.wrap (((6 * j+k:Nat):Int).tdiv 8)=(((6 * j+k) / 8:Nat):Int):=Am _ 8 (by omega)
     have hm:((6 * j+k:Nat):Int).tmod 8=(((6 * j+k) % 8:Nat):Int):=vI _ 8
     have hm8:(6 * j+k) % 8<8:=dY _ (by decide)
     have k1:ae.wrap (2 * (n:Int))=((2 * n:Nat):Int):=by rw [ah _ (by omega)];omega
     by_cases hin:(6 * j+k) / 8<s.length
     ·obtain⟨c,hx⟩:∃ c,s[(6 * j+k) / 8]? = some c:=⟨_,al hin⟩
      have hct:c.toNat<256:=c.toNat_lt
      have hb:kG t (6 * j+k)=c.toNat / 2 ^ (7 - (6 * j+k) % 8) % 2:=by
       unfold kG
       rw [← ht,aI,hx]
       rfl
      rw [hb] at hps
      have d2:decide ((((6 * j+k) / 8:Nat):Int)<(s.length:Int))=true:=by simp;omega
      have hpa:=I2 _ hm8
      obtain⟨m,hmm⟩:∃ m,(6 * j+k) % 8=m:=⟨_,rfl⟩
      obtain⟨w,hww⟩:∃ w,2 ^ (7 - m)=w:=⟨_,rfl⟩
      rw [hmm] at hm hpa hps
      rw [hww] at hpa hps
      obtain⟨rr,hdr⟩:∃ rr,List.drop m ([AV.int .i64 128,.int .i64 64,.int .i64 32,.int .i64 16,.int .i64 8,.int .i64 4,.int .i64 2,.int .i64 1]:List AV)=.int .i64 (w:Int)::rr:=by
       obtain⟨g1,g2⟩:=af.1 hpa
       exact⟨_,by rw [p9 g1,g2]⟩
      have hdr1:List.drop (m * 1) ([AV.int .i64 128,.int .i64 64,.int .i64 32,.int .i64 16,.int .i64 8,.int .i64 4,.int .i64 2,.int .i64 1]:List AV)=.int .i64 (w:Int)::rr:=by rw [Nat.mul_one];exact hdr
      have hmi:(m:Int)<8:=by omega
      have hmi2:(m:Int)<((8:Nat):Int):=by omega
      have hw0:0<w:=by rw [← hww];exact Nat.pos_of_ne_zero (by simp)
      have hwz:((w:Int)=0)=False:=by simp;omega
      have kc:ae.wrap (c.toNat:Int)=(c.toNat:Int):=ah _ (by omega)
      have k2:ae.wrap ((c.toNat:Int).tdiv (w:Int))=((c.toNat / w:Nat):Int):=Am _ w (by omega)
      have k3:((c.toNat / w:Nat):Int).tmod 2=((c.toNat / w % 2:Nat):Int):=vI _ 2
      have hb2:c.toNat / w % 2<2:=dY _ (by decide)
      have k4:ae.wrap (((2 * n:Nat):Int)+((c.toNat / w % 2:Nat):Int))=((2 * n+c.toNat / w % 2:Nat):Int):=by rw [ah _ (by omega)];omega
      have Hf:=ab (a6 hk6 hps)
      have HH:=ab (a6 hlt (a6 hjn hlen))
      clear hpa hk hk6 hp hp6 hps hm8 hin hct hb hmm hww hw0 hb2 ht hel hs hlt hlt8 hj hjn
      repeat' first|refine st ?_|(refine br ?_ ?_<;>intro hb)|refine sd ?_|apply au|(apply aF;(· decide +kernel))|refine bd ?_ ?_|fail
      refine cw hO 1 [0,3,4,5,6] rfl ss ss ss ?_
      simp only [aZ,aP]
      refine HI2.out (k+1) _ _ (by have:=Hf.out.1;omega) ⟨Hf.out.1, ?_, ?_, ?_, ?_, ?_, ?_,rfl⟩
      ·(simp only [go_sem, *];try rfl)
      ·(simp only [go_sem, *];try rfl)
      ·(simp only [go_sem, *];try rfl)
      ·(simp only [go_sem, *];try rfl)
      ·rw [Hf.out.2];(simp only [go_sem, *];try rfl)
      ·(simp only [go_sem, *];try rfl)
     ·have hb:kG t (6 * j+k)=0:=by
       unfold kG
       rw [← ht,aI,ce (by omega)]
       rfl
      rw [hb] at hps
      have d2:decide ((((6 * j+k) / 8:Nat):Int)<(s.length:Int))=false:=by simp;omega
      have k4:ae.wrap (((2 * n:Nat):Int)+0)=((2 * n+0:Nat):Int):=by rw [ah _ (by omega)];omega
      have Hf:=ab (a6 hk6 hps)
      clear hk hk6 hp hp6 hps hm8 hin hb ht hel hs hlt hlt8 hj hjn
      repeat' first|refine st ?_|(refine br ?_ ?_<;>intro hb)|refine sd ?_|apply au|(apply aF;(· decide +kernel))|refine bd ?_ ?_|fail
      refine cw hO 1 [0,3,4,5,6] rfl ss ss ss ?_
      simp only [aZ,aP]
      refine HI2.out (k+1) _ _ (by have:=Hf.out.1;omega) ⟨Hf.out.1, ?_, ?_, ?_, ?_, ?_, ?_,rfl⟩
      ·(simp only [go_sem, *];try rfl)
      ·(simp only [go_sem, *];try rfl)
      ·(simp only [go_sem, *];try rfl)
      ·(simp only [go_sem, *];try rfl)
      ·rw [Hf.out.2];(simp only [go_sem, *];try rfl)
      ·(simp only [go_sem, *];try rfl)
    ·have hke:k=6:=by omega
     subst hke
     have d1:decide (((6 * j+6:Nat):Int)<((6 * (j+1):Nat):Int))=false:=by simp;omega
     obtain⟨hx1,qM⟩:=Hat.out j hlt8
     rw [Fv] at h5
     generalize jd t (6 * j)=v at h5 hx1 qM
     have hsg:=EE v hx1
     have htk:L.take (j+1)=L.take j++[bm v]:=by rw [sC,qM];rfl
     have hb1:(j+1) * 1≤140737488355328:=by omega
     have Hf:=ab (a6 hlt htk)
     clear hk hk6 hx1 qM htk ht hel hs hlt hlt8 hj hjn
     repeat' first|refine st ?_|(refine br ?_ ?_<;>intro hb)|fail
     refine cw hO 1 [0,3,4] rfl ss ss ss ?_
     simp only [aZ,aP]
     refine HI.out (j+1) _ _ (by have:=Hf.out.1;omega) ⟨Hf.out.1, ?_, ?_, ?_, ?_, ?_⟩
     ·(simp only [go_sem, *];try rfl)
     ·(simp only [go_sem, *];try rfl)
     ·(simp only [go_sem, *];try rfl)
     ·(simp only [go_sem, *];try rfl)
     ·rw [Hf.out.2,aY];rfl
  ·have hje:j=L.length:=by omega
   subst hje
   rw [bt]
   have d0:decide (((6 * L.length:Nat):Int)<((8 * s.length:Nat):Int))=false:=by simp;omega
   have hlen:(L.map jj).length=L.length:=by simp
   have hby:=mD L
   have hh:=H.out
   clear ht hel hs hlt hj HI H
   repeat' first|refine st ?_|(refine br ?_ ?_<;>intro hb)|fail
   refine fR results180 ?_
   exact hh
theorem zy(l p:Nat)(h:p≤gD l):(((l+p) % 4:Nat)=0↔p=gD l):=by
 unfold gD at *
 omega
theorem Fm(s:List UInt8)(hs:s.length≤4096)(R:Rt)(h:R (.ret (.tup [.str (hU s),.int .i64 0])) S):aj prog w0 93 [.str s] S R:=by
 have d0:decide ((4096:Int)<(s.length:Int))=false:=by simp;omega
 have hb:=fun S'=>Ha w0 S' s (by omega)
 have hel:(gh s).length≤10000:=by unfold gh;simp [mU];omega
 unfold hU at h
 generalize gh s=B at hb h hel
 clear hs
 refine eN func93 rfl ntmps93 fun hO=>?_
 repeat' first|refine st ?_|(refine ca ?_;apply hb)|(refine br ?_ ?_<;>intro hb)|fail
 refine cW (fun (p:Nat) env S'=>p≤gD B.length∧env 1000000=.dfr []∧env 4=.str (B++a7 p 61)∧S'=S) (fun p=>gD B.length - p) 0 ?_ ?_
 ·exact⟨bf _,ss,by rw [Ep,aG];(simp only [go_sem, *];try rfl),ss⟩
 ·rintro p env S' ⟨hp,e0,f4,rfl⟩ IH
  have HI:=ab IH
  have H:=ab h
  clear IH h
  have hl:(B++a7 p (61:UInt8)).length=B.length+p:=by simp
  have hpl:=zy B.length p hp
  have hp4:gD B.length≤3:=by unfold gD;omega
  have hsu:B++a7 (p+1) (61:UInt8)=(B++a7 p 61)++[61]:=by rw [zZ,aN]
  have Hsu:=ab hsu
  clear hsu
  by_cases hpe:p=gD B.length
  ·subst hpe
   generalize B++a7 (gD B.length) (61:UInt8)=X at f4 hl H
   have hm:(X.length:Int).tmod 4=((X.length % 4:Nat):Int):=vI _ 4
   have hz:X.length % 4=0:=by rw [hl];exact hpl.2 rfl
   rw [hz] at hm
   have hm:(X.length:Int).tmod 4=0:=hm
   have hh:=H.out
   clear hp hl hpl hp4 hz HI H hel Hsu
   repeat' first|refine st ?_|(refine br ?_ ?_<;>intro hb)|fail
   refine fR results93 ?_
   exact hh
  ·generalize B++a7 p (61:UInt8)=X at f4 hl Hsu
   have hm:(X.length:Int).tmod 4=((X.length % 4:Nat):Int):=vI _ 4
   have hz:X.length % 4≠0:=by rw [hl];exact fun e=>hpe (hpl.1 e)
   have d1:(((X.length % 4:Nat):Int) != 0)=true:=by rw [bne_iff_ne];omega
   have ha:X.length+1≤9223372036854775807:=by omega
   have Hf:=ab (show p+1≤gD B.length by omega)
   clear hp hl hpl hp4 hz hpe hel
   repeat' first|refine st ?_|(refine br ?_ ?_<;>intro hb)|fail
   refine HI.out (p+1) _ _ (by have:=Hf.out;omega) ⟨Hf.out, ?_, ?_,rfl⟩
   ·(simp only [go_sem, *];try rfl)
   ·rw [Hsu.out];(simp only [go_sem, *];try rfl)
theorem um:∀ (s:List UInt8) (i:Nat),i<(iy s).length→∃ c v,s[i]? = some c∧iC c=some v∧(iy s)[i]? = some v∧v<64
 | [],i,h=>by simp [iy] at h
 | c::s,i,h=>by
  rw [iy] at h ⊢
  cases hc:iC c with
  | none=>rw [hc] at h;simp at h
  | some v =>
   rw [hc] at h
   cases i with
   | zero=>exact⟨c,v,rfl,hc,rfl,(qZ hc).1⟩
   | succ i =>
    obtain⟨c2,v2,h1,h2,h3,h4⟩:=um s i (by simpa using h)
    exact⟨c2,v2,by simpa using h1,h2,by simpa using h3,h4⟩
theorem vY:∀ (s:List UInt8),(iy s).length≤s.length∧∀ c,s[(iy s).length]? = some c→iC c=none
 | []=>by simp [iy]
 | c::s=>by
  rw [iy]
  cases hc:iC c with
  | none=>simp only [aL];exact⟨bf _,fun d hd=>by simp at hd;rw [← hd];exact hc⟩
  | some v =>
   obtain⟨h1,h2⟩:=vY s
   simp only [aB]
   exact⟨by omega,fun d hd=>h2 d (by simpa using hd)⟩
def dst(V:List Nat)(i:Nat):m_:=(V.take i).foldl dT ⟨[],0,0⟩
theorem xb{V:List Nat}{i v:Nat}(h:V[i]? = some v):dst V (i+1)=dT (dst V i) v:=by
 unfold dst
 rw [sC,h,List.foldl_append];rfl
def sZ(q:m_):Prop:=(q.wait=0∧q.rest=0)∨(q.wait=6∧q.rest<64)∨(q.wait=4∧q.rest<16)∨(q.wait=2∧q.rest<4)
theorem wO{q:m_}{v:Nat}(h:sZ q)(hv:v<64):sZ (dT q v)∧(dT q v).out.length≤q.out.length+1:=by
 obtain⟨o,w,r⟩:=q
 unfold sZ dT at *
 simp only at *
 rcases h with⟨rfl,rfl⟩|⟨rfl,h⟩|⟨rfl,h⟩|⟨rfl,h⟩<;>simp<;>omega
theorem zE(V:List Nat)(hV:∀ v∈V,v<64):∀ i,i≤V.length→sZ (dst V i)∧(dst V i).out.length≤i
 | 0,_=>by unfold dst sZ;simp
 | i+1,h=>by
  obtain⟨h1,h2⟩:=zE V hV i (by omega)
  have hx:V[i]? = some (V[i]'(by omega)):=al (by omega)
  obtain⟨h3,h4⟩:=wO h1 (hV _ (ax hx))
  rw [xb hx]
  exact⟨h3,by omega⟩
theorem za(s:List UInt8):∀ v∈iy s,v<64:=by
 intro v hv
 obtain⟨i,hi⟩:=aQ hv
 obtain⟨c,v2,_,_,h3,h4⟩:=um s i (af.1 hi).1
 rw [hi] at h3;cases h3;exact h4
theorem Gr(s:List UInt8):((dst (iy s) (iy s).length).out.map ay)=sU s:=by
 unfold dst sU
 rw [bt,sc _ [] (za s)]
 rfl
theorem se{n r v w k:Nat}(hk:n % 2 ^ w=r)(hw:(w=6∧k=4)∨(w=4∧k=2)∨(w=2∧k=0))(hv:v<64) :
  (n * 64+v) % 1048576 / 2 ^ k % 256=(r * 64+v) / 2 ^ k∧(n * 64+v) % 1048576 % 2 ^ k=(r * 64+v) % 2 ^ k:=by
 rcases hw with⟨rfl,rfl⟩|⟨rfl,rfl⟩|⟨rfl,rfl⟩<;>simp at *<;>omega
def CA:Option (List UInt8)→AV
 | some t=>.tup [.str t,.int .i64 0]
 | none=>.tup [.str [],.int .i64 6]
theorem BR(x:Nat)(h:x<256):((x:Nat):Int)=((ay x).toNat:Int):=by
 simp [UInt8.toNat_ofNat']
 omega
theorem zr(s:List UInt8)(hs:s.length≤8192)(R:Rt)(h:R (.ret (CA (yB s))) S):aj prog w0 132 [.str s] S R:=by
 have d0:decide ((8192:Int)<(s.length:Int))=false:=by simp;omega
 obtain⟨hVl,hend⟩:=vY s
 have hall:=Gr s
 have hV:=za s
 have htk:=um s
 unfold yB at h
 rw [← hall] at h
 generalize iy s=V at hVl hend hV htk h
 have Hend:=ab hend
 have HV:=ab hV
 have Htk:=ab htk
 clear hend hV htk hall
 refine eN func132 rfl ntmps132 fun hO=>?_
 repeat' first|refine st ?_|(refine br ?_ ?_<;>intro hb)|fail
 refine jp (t:=6) 5 1 ss (by decide) ?_
 try simp only [go_sem, *]
 refine cW (fun (g:Nat × Nat × Nat) env S'=>g.1≤V.length∧g.2.1<1048576∧g.2.1 % 2 ^ (dst V g.1).wait=(dst V g.1).rest∧env 1000000=.dfr []∧env 0=.str s∧env 4=.int .i64 (g.2.1:Nat)∧env 5=.int .i64 ((dst V g.1).wait:Nat)∧env 6=.sown S.length g.2.2 ((dst V g.1).out.map ay).length∧env 7=.int .i64 (g.1:Nat) ∧
  S'=S++[.arr 5 1 0 g.2.2 (((dst V g.1).out.map ay).map jj)]) (fun g=>V.length - g.1) (0,0,0) ?_ ?_
 ·exact⟨bf _,by decide,rfl,ss,ss,ss,ss,ss,ss,rfl⟩
 ·rintro⟨i,n,g⟩ env S' ⟨hi,hn,hr,e0,f0,f4,f5,f6,f7,rfl⟩ IH
  simp only at hi hn hr f4 f5 f6 f7
  have HI:=ab IH
  have H:=ab h
  clear IH h
  obtain⟨hinv,hol⟩:=zE V HV.out i hi
  by_cases hlt:i<V.length
  ·obtain⟨c,v,hx,hcv,hVx,hv⟩:=Htk.out i hlt
   have hsucc:=xb hVx
   have hrv:=fun S'=>CC w0 S' c
   unfold BW at hrv
   rw [hcv] at hrv
   simp only at hrv
   have d1:decide ((i:Int)<(s.length:Int))=true:=by simp;omega
   have d2:decide ((0:Int)≤(v:Int))=true:=by simp
   have hw1:ae.wrap ((i:Int)+1)=((i+1:Nat):Int):=by rw [ah _ (by omega)];omega
   have k1:ae.wrap ((n:Int) * 64)=((n * 64:Nat):Int):=by rw [ah _ (by omega)];omega
   have k2:ae.wrap (((n * 64:Nat):Int)+(v:Int))=((n * 64+v:Nat):Int):=by rw [ah _ (by omega)];omega
   have k3:((n * 64+v:Nat):Int).tmod 1048576=(((n * 64+v) % 1048576:Nat):Int):=vI _ 1048576
   generalize hq:dst V i=q at hr f5 f6 hinv hol hsucc ⊢
   obtain⟨o,w,r⟩:=q
   simp only at hr f5 f6 hol ⊢
   unfold sZ at hinv
   simp only at hinv
   have hmap:(o.map ay).length=o.length:=by simp
   have hma2:((o.map ay).map jj).length=o.length:=by simp
   have hb1:(o.length+1) * 1≤140737488355328:=by omega
   unfold dT at hsucc
   simp only at hsucc
   rw [hmap] at f6
   rcases hinv with⟨rfl,rfl⟩|⟨rfl,hinv⟩|⟨rfl,hinv⟩|⟨rfl,hinv⟩
   ·skip
    rw [if_pos rfl] at hsucc
    have hm:(n * 64+v) % 1048576<1048576∧(n * 64+v) % 1048576 % 2 ^ 6=0 * 64+v:=by omega
    have u0:ae.wrap (((0:Nat):Int)+6)=6:=by decide
    generalize (n * 64+v) % 1048576=n2 at k3 hm
    have Hf:=ab (a6 hlt (a6 hm (a6 hsucc hmap)))
    clear  hi hn hr hol hlt hcv hVx hv hsucc hm hVl hs hq hmap
    repeat' first|refine st ?_|(refine ca ?_;apply hrv)|(refine br ?_ ?_<;>intro hb)|fail
    obtain⟨hlt,hm,hsucc,hmap⟩:=Hf.out
    refine cw hO 1 [0,4,5,6,7] rfl ss ss ss ?_
    simp only [aZ,aP]
    refine HI.out (i+1,n2,g) _ _ (by simp only;omega) ⟨hlt,hm.1, ?_, ?_, ?_, ?_, ?_, ?_, ?_, ?_⟩
    ·simp only;rw [hsucc];exact hm.2
    ·(simp only [go_sem, *];try rfl)
    ·(simp only [go_sem, *];try rfl)
    ·(simp only [go_sem, *];try rfl)
    ·rw [hsucc];(simp only [go_sem, *];try rfl)
    ·rw [hsucc];simp only [be];(simp only [go_sem, *];try rfl)
    ·(simp only [go_sem, *];try rfl)
    ·rw [hsucc]
   ·skip
    rw [if_neg (by decide),if_pos rfl] at hsucc
    obtain⟨hy1,hy2⟩:=se (v:=v) hr (.inl ⟨rfl,rfl⟩) hv
    have hm:(n * 64+v) % 1048576<1048576:=dY _ (by decide)
    have hbb:=l6 ((n * 64+v) % 1048576 / 2 ^ 4)
    rw [hy1] at hbb
    have hx8:(r * 64+v) / 2 ^ 4<256:=by omega
    rw [BR _ hx8] at hbb
    have hsh:=JE ((n * 64+v) % 1048576) 4 (by decide)
    have hout:(o++[(r * 64+v) / 2 ^ 4]).map ay=o.map ay++[ay ((r * 64+v) / 2 ^ 4)]:=by rw [aY];rfl
    have u0:ae.wrap (((6:Nat):Int)+6)=12:=by decide
    have u1:ae.wrap 12=12:=by decide
    have u2:ae.wrap 4=4:=by decide
    have u4:ae.wrap (12 - 8)=4:=by decide
    have u3:aR.wrap 4=4:=by decide
    generalize (n * 64+v) % 1048576=n2 at k3 hm hy1 hy2 hbb hsh
    generalize ay ((r * 64+v) / 2 ^ 4)=bd at hbb hout
    have Hf:=ab (a6 hlt (a6 hm (a6 hsucc (a6 hy2 (a6 hout hmap)))))
    clear hy1 hy2 hx8 hout hinv hi hn hr hol hlt hcv hVx hv hsucc hm hVl hs hq hmap
    repeat' first|refine st ?_|(refine ca ?_;apply hrv)|(refine br ?_ ?_<;>intro hb)|fail
    obtain⟨hlt,hm,hsucc,hy2,hout,hmap⟩:=Hf.out
    refine cw hO 1 [0,4,5,6,7] rfl ss ss ss ?_
    simp only [aZ,aP]
    refine HI.out (i+1,n2,g+1) _ _ (by simp only;omega) ⟨hlt,hm, ?_, ?_, ?_, ?_, ?_, ?_, ?_, ?_⟩
    ·simp only;rw [hsucc];exact hy2
    ·(simp only [go_sem, *];try rfl)
    ·(simp only [go_sem, *];try rfl)
    ·(simp only [go_sem, *];try rfl)
    ·rw [hsucc];(simp only [go_sem, *];try rfl)
    ·rw [hsucc];simp only;rw [hout,ai,hmap];(simp only [go_sem, *];try rfl)
    ·(simp only [go_sem, *];try rfl)
    ·rw [hsucc];simp only;rw [hout,aY];rfl
   ·skip
    rw [if_neg (by decide),if_neg (by decide),if_pos rfl] at hsucc
    obtain⟨hy1,hy2⟩:=se (v:=v) hr (.inr (.inl ⟨rfl,rfl⟩)) hv
    have hm:(n * 64+v) % 1048576<1048576:=dY _ (by decide)
    have hbb:=l6 ((n * 64+v) % 1048576 / 2 ^ 2)
    rw [hy1] at hbb
    have hx8:(r * 64+v) / 2 ^ 2<256:=by omega
    rw [BR _ hx8] at hbb
    have hsh:=JE ((n * 64+v) % 1048576) 2 (by decide)
    have hout:(o++[(r * 64+v) / 2 ^ 2]).map ay=o.map ay++[ay ((r * 64+v) / 2 ^ 2)]:=by rw [aY];rfl
    have u0:ae.wrap (((4:Nat):Int)+6)=10:=by decide
    have u1:ae.wrap 10=10:=by decide
    have u2:ae.wrap 2=2:=by decide
    have u4:ae.wrap (10 - 8)=2:=by decide
    have u3:aR.wrap 2=2:=by decide
    generalize (n * 64+v) % 1048576=n2 at k3 hm hy1 hy2 hbb hsh
    generalize ay ((r * 64+v) / 2 ^ 2)=bd at hbb hout
    have Hf:=ab (a6 hlt (a6 hm (a6 hsucc (a6 hy2 (a6 hout hmap)))))
    clear hy1 hy2 hx8 hout hinv hi hn hr hol hlt hcv hVx hv hsucc hm hVl hs hq hmap
    repeat' first|refine st ?_|(refine ca ?_;apply hrv)|(refine br ?_ ?_<;>intro hb)|fail
    obtain⟨hlt,hm,hsucc,hy2,hout,hmap⟩:=Hf.out
    refine cw hO 1 [0,4,5,6,7] rfl ss ss ss ?_
    simp only [aZ,aP]
    refine HI.out (i+1,n2,g+1) _ _ (by simp only;omega) ⟨hlt,hm, ?_, ?_, ?_, ?_, ?_, ?_, ?_, ?_⟩
    ·simp only;rw [hsucc];exact hy2
    ·(simp only [go_sem, *];try rfl)
    ·(simp only [go_sem, *];try rfl)
    ·(simp only [go_sem, *];try rfl)
    ·rw [hsucc];(simp only [go_sem, *];try rfl)
    ·rw [hsucc];simp only;rw [hout,ai,hmap];(simp only [go_sem, *];try rfl)
    ·(simp only [go_sem, *];try rfl)
    ·rw [hsucc];simp only;rw [hout,aY];rfl
   ·skip
    rw [if_neg (by decide),if_neg (by decide),if_neg (by decide)] at hsucc
    obtain⟨hy1,hy2⟩:=se (v:=v) hr (.inr (.inr ⟨rfl,rfl⟩)) hv
    have hm:(n * 64+v) % 1048576<1048576:=dY _ (by decide)
    have hbb:=l6 ((n * 64+v) % 1048576 / 2 ^ 0)
    rw [hy1] at hbb
    have hx8:(r * 64+v) / 2 ^ 0<256:=by omega
    rw [BR _ hx8] at hbb
    have hsh:=JE ((n * 64+v) % 1048576) 0 (by decide)
    have hout:(o++[(r * 64+v) / 2 ^ 0]).map ay=o.map ay++[ay ((r * 64+v) / 2 ^ 0)]:=by rw [aY];rfl
    have u0:ae.wrap (((2:Nat):Int)+6)=8:=by decide
    have u1:ae.wrap 8=8:=by decide
    have u2:ae.wrap 0=0:=by decide
    have u4:ae.wrap (8 - 8)=0:=by decide
    have u3:aR.wrap 0=0:=by decide
    generalize (n * 64+v) % 1048576=n2 at k3 hm hy1 hy2 hbb hsh
    generalize ay ((r * 64+v) / 2 ^ 0)=bd at hbb hout
    simp only [Nat.pow_zero,Nat.div_one] at hsh hbb hout hy1 hy2
    have Hf:=ab (a6 hlt (a6 hm (a6 hsucc (a6 hy2 (a6 hout hmap)))))
    clear hy1 hy2 hx8 hout hinv hi hn hr hol hlt hcv hVx hv hsucc hm hVl hs hq hmap
    repeat' first|refine st ?_|(refine ca ?_;apply hrv)|(refine br ?_ ?_<;>intro hb)|fail
    obtain⟨hlt,hm,hsucc,hy2,hout,hmap⟩:=Hf.out
    refine cw hO 1 [0,4,5,6,7] rfl ss ss ss ?_
    simp only [aZ,aP]
    refine HI.out (i+1,n2,g+1) _ _ (by simp only;omega) ⟨hlt,hm, ?_, ?_, ?_, ?_, ?_, ?_, ?_, ?_⟩
    ·simp only;rw [hsucc];simp only;omega
    ·(simp only [go_sem, *];try rfl)
    ·(simp only [go_sem, *];try rfl)
    ·(simp only [go_sem, *];try rfl)
    ·rw [hsucc];(simp only [go_sem, *];try rfl)
    ·rw [hsucc];simp only;rw [hout,ai,hmap];(simp only [go_sem, *];try rfl)
    ·(simp only [go_sem, *];try rfl)
    ·rw [hsucc];simp only;rw [hout,aY];rfl
  ·have hie:i=V.length:=by omega
   subst hie
   generalize hO:(dst V V.length).out.map ay=O at f6 H ⊢
   have hOl:O.length≤8192:=by rw [← hO,be];omega
   have hb:=fun S'=>Ha w0 S' O (by omega)
   have hby:=mD O
   have hlen:(O.map jj).length=O.length:=by simp
   have hel:(gh O).length≤20000:=by unfold gh;simp [mU];omega
   unfold hU at H
   generalize gh O=B at hb H hel
   have hq:(decide ((V.length:Int)<(s.length:Int))=false)∨∃ c,decide ((V.length:Int)<(s.length:Int))=true∧s[V.length]? = some c∧∀ S' (R:Rt),R (.ret (.int .i64 (-1))) S'→aj prog w0 200 [.int .u8 c.toNat] S' R:=by
    by_cases hh:V.length<s.length
    ·right
     obtain⟨c,hx⟩:∃ c,s[V.length]? = some c:=⟨_,al hh⟩
     refine⟨c,by simp;omega,hx,fun S' R hr=>CC w0 S' c R ?_⟩
     unfold BW
     rw [Hend.out c hx]
     exact hr
    ·left;simp;omega
   clear hi hn hr hinv hol hlt hVl hs hO hOl HI
   refine share ?K1 ?hK1 fun key1=>?main
   case main =>
    replace key1:=ab key1
    rcases hq with d1|⟨c,d1,hx,hrv⟩
    case inl =>
     repeat' first|refine st ?_|(refine ca ?_;apply hb)|(refine br ?_ ?_<;>intro hb)|fail
     refine cw hO 1 [0,8,9,10] rfl ss ss ss ?_
     simp only [aZ,aP]
     refine gM [1000000,0,8,9,10] ?_
     simp only [eS,go_sem]
     exact key1.out
    case inr =>
     repeat' first|refine st ?_|(refine ca ?_;first|apply hb|apply hrv)|(refine br ?_ ?_<;>intro hb)|fail
     refine cw hO 1 [0,8,9,10] rfl ss ss ss ?_
     simp only [aZ,aP]
     refine gM [1000000,0,8,9,10] ?_
     simp only [eS,go_sem]
     exact key1.out
   case hK1 =>
    rintro env2 ⟨g0,h0,h8,h9,h10⟩
    rw [e0] at g0
    rw [f0] at h0
    clear e0 f0 f4 f5 f6 f7 hb hby hlen hq
    refine cW (fun (p:Nat) env3 S3=>p≤gD B.length∧env3 1000000=.dfr []∧env3 0=.str s∧env3 8=.str O∧env3 9=.str B∧env3 10=.str (B++a7 p 61)∧S3=S++[aH.arr 5 1 0 g (O.map jj)]) (fun p=>gD B.length - p) 0 ?_ ?_
    ·exact⟨bf _,g0,h0,h8,h9,by rw [Ep,aG];exact h10,rfl⟩
    ·rintro p env3 S3 ⟨hp,g0,h0,h8,h9,h10,rfl⟩ IH
     have HI:=ab IH
     clear IH
     have hl:(B++a7 p (61:UInt8)).length=B.length+p:=by simp
     have hpl:=zy B.length p hp
     have hp4:gD B.length≤3:=by unfold gD;omega
     have hsu:B++a7 (p+1) (61:UInt8)=(B++a7 p 61)++[61]:=by rw [zZ,aN]
     have Hsu:=ab hsu
     clear hsu
     by_cases hpe:p=gD B.length
     ·subst hpe
      generalize B++a7 (gD B.length) (61:UInt8)=X at h10 hl H
      have hm:(X.length:Int).tmod 4=((X.length % 4:Nat):Int):=vI _ 4
      have hz:X.length % 4=0:=by rw [hl];exact hpl.2 rfl
      rw [hz] at hm
      have hm:(X.length:Int).tmod 4=0:=hm
      have hh:=H.out
      clear hp hl hpl hp4 hz HI H hel Hsu
      by_cases c1:s=B
      ·have d3:(s==B)=true:=by rw [c1];simp
       rw [if_neg (fun e=>e.1 c1)] at hh
       have hh:R (.ret (.tup [.str O,.int .i64 0])) S:=hh
       clear c1
       repeat' first|refine st ?_|(refine br ?_ ?_<;>intro hb)|fail
       refine fR results132 ?_
       exact hh
      ·have d3:(s==B)=false:=by rw [beq_eq_false_iff_ne];exact c1
       by_cases c2:s=X
       ·have d4:(s==X)=true:=by rw [c2];simp
        rw [if_neg (fun e=>e.2 c2)] at hh
        have hh:R (.ret (.tup [.str O,.int .i64 0])) S:=hh
        clear c1 c2
        repeat' first|refine st ?_|(refine br ?_ ?_<;>intro hb)|fail
        refine fR results132 ?_
        exact hh
       ·have d4:(s==X)=false:=by rw [beq_eq_false_iff_ne];exact c2
        rw [if_pos ⟨c1,c2⟩] at hh
        have hh:R (.ret (.tup [.str [],.int .i64 6])) S:=hh
        clear c1 c2
        repeat' first|refine st ?_|(refine br ?_ ?_<;>intro hb)|fail
        refine fR results132 ?_
        exact hh
     ·generalize B++a7 p (61:UInt8)=X at h10 hl Hsu
      have hm:(X.length:Int).tmod 4=((X.length % 4:Nat):Int):=vI _ 4
      have hz:X.length % 4≠0:=by rw [hl];exact fun e=>hpe (hpl.1 e)
      have d1:(((X.length % 4:Nat):Int) != 0)=true:=by rw [bne_iff_ne];omega
      have ha:X.length+1≤9223372036854775807:=by omega
      have Hf:=ab (show p+1≤gD B.length by omega)
      clear hp hl hpl hp4 hz hpe hel
      repeat' first|refine st ?_|(refine br ?_ ?_<;>intro hb)|fail
      refine cw hO 1 [0,8,9,10] rfl ss ss ss ?_
      simp only [aZ,aP]
      refine HI.out (p+1) _ _ (by have:=Hf.out;omega) ⟨Hf.out, ?_, ?_, ?_, ?_, ?_,rfl⟩
      ·(simp only [go_sem, *];try rfl)
      ·(simp only [go_sem, *];try rfl)
      ·(simp only [go_sem, *];try rfl)
      ·(simp only [go_sem, *];try rfl)
      ·rw [Hsu.out];(simp only [go_sem, *];try rfl)
def Ac.av(a:Ac):AV:=.agg [.int .i64 a.kind,.int .i64 a.n,.int .i64 a.m,.int .i64 a.ck,.int .i64 a.cn,.str a.text]
def sO:Option Ac→AV
 | some a=>.tup [a.av,.bool true]
 | none=>.tup [zeroA.av,.bool false]
theorem oV{s w r:List UInt8}(h:hY s=some (w,r)):w.length≤s.length∧r.length≤s.length:=by
 unfold hY at h
 split at h
 ·cases h
 ·cases h
  have htd:=congrArg iz (List.takeWhile_append_dropWhile (p:=fun b=>b != 59) (l:=s))
  rw [ai] at htd
  rw [BJ]
  omega
theorem IU(s:List UInt8)(hs:s.length≤8192)(R:Rt)(h:R (.ret (sO (ea s))) S):aj prog w0 70 [.str s] S R:=by
 have hc:=fun S'=>Kz w0 S' s (by omega)
 have bad:ea s=none→R (.ret (.tup [.agg [.int .i64 0,.int .i64 0,.int .i64 0,.int .i64 0,.int .i64 0,.str []],.bool false])) S:=fun e=>by rw [e] at h;exact h
 have good:∀ k n m ck cn t,ea s=some ⟨k,n,m,ck,cn,t⟩→R (.ret (.tup [.agg [.int .i64 k,.int .i64 n,.int .i64 m,.int .i64 ck,.int .i64 cn,.str t],.bool true])) S:=fun k n m ck cn t e=>by rw [e] at h;exact h
 unfold ea at bad good
 clear h
 cases hcs:hY s with
 | none =>
  rw [hcs] at hc
  have hh:=bad (by rw [hcs];split<;>rfl)
  unfold yE at hc
  clear hcs hs bad good
  refine eN func70 rfl ntmps70 fun hO=>?_
  repeat' first|refine st ?_|(refine ca ?_;apply hc)|(refine br ?_ ?_<;>intro hb)|fail
  refine fR results70 ?_
  exact hh
 | some q =>
  obtain⟨k,r⟩:=q
  have hrl:=(oV hcs).2
  rw [hcs] at hc bad good
  unfold yE at hc
  simp only at hc bad good
  by_cases h5:512<s.length
  ·have d0:decide ((512:Int)<(s.length:Int))=true:=by simp;omega
   have hh:=bad (if_pos h5)
   clear hcs hs bad good h5 hrl
   refine eN func70 rfl ntmps70 fun hO=>?_
   repeat' first|refine st ?_|(refine ca ?_;apply hc)|(refine br ?_ ?_<;>intro hb)|fail
   refine fR results70 ?_
   exact hh
  have d0:decide ((512:Int)<(s.length:Int))=false:=by simp;omega
  rw [if_neg h5] at bad good
  by_cases k02:k=[48]∨k=[50]
  ·rw [if_pos k02] at bad good
   have ht:=fun S'=>CD w0 S' r (by omega)
   have hk:(k==[48])=true∨((k==[48])=false∧(k==[50])=true):=by
    rcases k02 with rfl|rfl
    ·left;rfl
    ·right;exact⟨rfl,rfl⟩
   cases htb:gq r with
   | true =>
    rw [htb] at ht
    have hh:=good 44 0 0 0 0 r (if_pos htb)
    clear hcs hs bad good h5 hrl k02 htb
    rcases hk with d1|⟨d1,d2⟩
    all_goals
     refine eN func70 rfl ntmps70 fun hO=>?_
     repeat' first|refine st ?_|(refine ca ?_;first|apply hc|apply ht)|(refine br ?_ ?_<;>intro hb)|fail
     refine fR results70 ?_
     exact hh
   | false =>
    rw [htb] at ht
    have hh:=bad (if_neg (by rw [htb];decide))
    clear hcs hs bad good h5 hrl k02 htb
    rcases hk with d1|⟨d1,d2⟩
    all_goals
     refine eN func70 rfl ntmps70 fun hO=>?_
     repeat' first|refine st ?_|(refine ca ?_;first|apply hc|apply ht)|(refine br ?_ ?_<;>intro hb)|fail
     refine fR results70 ?_
     exact hh
  have d1:(k==[48])=false:=by rw [beq_eq_false_iff_ne];exact fun e=>k02 (.inl e)
  have d2:(k==[50])=false:=by rw [beq_eq_false_iff_ne];exact fun e=>k02 (.inr e)
  rw [if_neg k02] at bad good
  have hc2:=fun S'=>Kz w0 S' r (by omega)
  by_cases k4:k=[52]
  ·have d3:(k==[52])=true:=by rw [k4];rfl
   rw [if_pos k4] at bad good
   cases hcr:hY r with
   | none =>
    rw [hcr] at hc2 bad
    unfold yE at hc2
    have hcol:=fun S'=>zu w0 S' []
    have hcol:∀ S' (R:Rt),R (.ret (.tup [.agg [.int .i64 0,.int .i64 0],.int .i64 6])) S'→aj prog w0 130 [.str []] S' R:=hcol
    have hh:=bad rfl
    clear hcs hs bad good h5 hrl k02 k4 hcr
    refine eN func70 rfl ntmps70 fun hO=>?_
    repeat' first|refine st ?_|(refine ca ?_;first|apply hc|apply hc2|apply hcol)|(refine br ?_ ?_<;>intro hb)|fail
    refine fR results70 ?_
    exact hh
   | some q2 =>
    obtain⟨u,t⟩:=q2
    rw [hcr] at hc2 bad good
    unfold yE at hc2
    simp only at hc2 bad good
    have hcol:=fun S'=>zu w0 S' t
    have hnum:=fun S'=>Fl w0 S' u
    unfold Da at hnum
    cases hn:mm u with
    | none =>
     rw [hn] at hnum bad
     simp only at hnum
     have hh:=bad (by cases iv t<;>rfl)
     clear hcs hs bad good h5 hrl k02 k4 hcr hn
     cases hct:iv t with
     | none =>
      rw [hct] at hcol
      unfold DP at hcol
      clear hct
      refine eN func70 rfl ntmps70 fun hO=>?_
      repeat' first|refine st ?_|(refine ca ?_;first|apply hc|apply hc2|apply hcol|apply hnum)|(refine br ?_ ?_<;>intro hb)|fail
      refine fR results70 ?_
      exact hh
     | some c =>
      rw [hct] at hcol
      unfold DP at hcol
      clear hct
      refine eN func70 rfl ntmps70 fun hO=>?_
      repeat' first|refine st ?_|(refine ca ?_;first|apply hc|apply hc2|apply hcol|apply hnum)|(refine br ?_ ?_<;>intro hb)|fail
      refine fR results70 ?_
      exact hh
    | some n =>
     rw [hn] at hnum bad good
     simp only at hnum
     have d4:decide ((0:Int)≤(n:Int))=true:=by simp
     cases hct:iv t with
     | none =>
      rw [hct] at hcol bad
      unfold DP at hcol
      have hh:=bad rfl
      clear hcs hs bad good h5 hrl k02 k4 hcr hn hct
      refine eN func70 rfl ntmps70 fun hO=>?_
      repeat' first|refine st ?_|(refine ca ?_;first|apply hc|apply hc2|apply hcol|apply hnum)|(refine br ?_ ?_<;>intro hb)|fail
      refine fR results70 ?_
      exact hh
     | some c =>
      rw [hct] at hcol good
      unfold DP at hcol
      have hh:=good 45 n 0 2 c [] rfl
      clear hcs hs bad good h5 hrl k02 k4 hcr hn hct
      refine eN func70 rfl ntmps70 fun hO=>?_
      repeat' first|refine st ?_|(refine ca ?_;first|apply hc|apply hc2|apply hcol|apply hnum)|(refine br ?_ ?_<;>intro hb)|refine sd ?_|apply au|(apply aF;(· decide +kernel))|refine bd ?_ ?_|(refine cd ?_;first|apply hc|apply hc2|apply hcol|apply hnum)|fail
      refine fR results70 ?_
      exact hh
  have d3:(k==[52])=false:=by rw [beq_eq_false_iff_ne];exact k4
  rw [if_neg k4] at bad good
  by_cases k5:k=[53,50]
  ·have d4:(k==[53,50])=true:=by rw [k5];rfl
   rw [if_pos k5] at bad good
   cases hcr:hY r with
   | none =>
    rw [hcr] at hc2 bad
    unfold yE at hc2
    have hdec:=fun S'=>zr w0 S' [] (by simp)
    have hdec:∀ S' (R:Rt),R (.ret (.tup [.str [],.int .i64 0])) S'→aj prog w0 132 [.str []] S' R:=hdec
    have hh:=bad rfl
    clear hcs hs bad good h5 hrl k02 k4 k5 hcr
    refine eN func70 rfl ntmps70 fun hO=>?_
    repeat' first|refine st ?_|(refine ca ?_;first|apply hc|apply hc2|apply hdec)|(refine br ?_ ?_<;>intro hb)|fail
    refine fR results70 ?_
    exact hh
   | some q2 =>
    obtain⟨u,t⟩:=q2
    have htl:=(oV hcr).2
    rw [hcr] at hc2 bad good
    unfold yE at hc2
    simp only at hc2 bad good
    have hdec:=fun S'=>zr w0 S' t (by omega)
    rw [← xc] at hdec
    by_cases hu:u=[99]
    ·have d5:(u==[99])=true:=by rw [hu];rfl
     rw [if_pos hu] at bad good
     cases hdt:pR t with
     | none =>
      rw [hdt] at hdec bad
      unfold CA at hdec
      have hh:=bad rfl
      clear hcs hs bad good h5 hrl k02 k4 k5 hcr htl hu hdt
      refine eN func70 rfl ntmps70 fun hO=>?_
      repeat' first|refine st ?_|(refine ca ?_;first|apply hc|apply hc2|apply hdec)|(refine br ?_ ?_<;>intro hb)|fail
      refine fR results70 ?_
      exact hh
     | some c =>
      rw [hdt] at hdec bad good
      unfold CA at hdec
      simp only at bad good
      by_cases hcl:c.length≤378
      ·have d6:decide ((c.length:Int)≤378)=true:=by simp;omega
       have hh:=good 46 0 0 0 0 c (if_pos hcl)
       clear hcs hs bad good h5 hrl k02 k4 k5 hcr htl hu hdt hcl
       refine eN func70 rfl ntmps70 fun hO=>?_
       repeat' first|refine st ?_|(refine ca ?_;first|apply hc|apply hc2|apply hdec)|(refine br ?_ ?_<;>intro hb)|fail
       refine fR results70 ?_
       exact hh
      ·have d6:decide ((c.length:Int)≤378)=false:=by simp;omega
       have hh:=bad (if_neg hcl)
       clear hcs hs bad good h5 hrl k02 k4 k5 hcr htl hu hdt hcl
       refine eN func70 rfl ntmps70 fun hO=>?_
       repeat' first|refine st ?_|(refine ca ?_;first|apply hc|apply hc2|apply hdec)|(refine br ?_ ?_<;>intro hb)|fail
       refine fR results70 ?_
       exact hh
    ·have d5:(u==[99])=false:=by rw [beq_eq_false_iff_ne];exact hu
     have hh:=bad (if_neg hu)
     clear hcs hs bad good h5 hrl k02 k4 k5 hcr htl hu
     cases hdt:pR t with
     | none =>
      rw [hdt] at hdec
      unfold CA at hdec
      clear hdt
      refine eN func70 rfl ntmps70 fun hO=>?_
      repeat' first|refine st ?_|(refine ca ?_;first|apply hc|apply hc2|apply hdec)|(refine br ?_ ?_<;>intro hb)|fail
      refine fR results70 ?_
      exact hh
     | some c =>
      rw [hdt] at hdec
      unfold CA at hdec
      clear hdt
      refine eN func70 rfl ntmps70 fun hO=>?_
      repeat' first|refine st ?_|(refine ca ?_;first|apply hc|apply hc2|apply hdec)|(refine br ?_ ?_<;>intro hb)|fail
      refine fR results70 ?_
      exact hh
  ·have d4:(k==[53,50])=false:=by rw [beq_eq_false_iff_ne];exact k5
   have hh:=bad (if_neg k5)
   clear hcs hs bad good h5 hrl k02 k4 k5
   refine eN func70 rfl ntmps70 fun hO=>?_
   repeat' first|refine st ?_|(refine ca ?_;apply hc)|(refine br ?_ ?_<;>intro hb)|fail
   refine fR results70 ?_
   exact hh
def Lj(n:Nat):List UInt8:=if n<10 then [ay (48+n)] else if n<100 then [ay (48+n / 10),ay (48+n % 10)] else [ay (48+n / 10 / 10),ay (48+n / 10 % 10),ay (48+n % 10)]
theorem Dn:∀ n:Nat,n<256→gn (n:Int)=Lj n:=by decide +kernel
theorem zq(n:Nat)(hn:n<10)(R:Rt)(h:R (.ret (.str [ay (48+n)])) S):aj prog w0 92 [.int .i64 n] S R:=by
 have d1:decide ((n:Int)<10)=true:=by simp;omega
 have k1:ae.wrap (48+(n:Int))=((48+n:Nat):Int):=by rw [ah _ (by omega)];omega
 have k2:aX.wrap ((48+n:Nat):Int)=((48+n:Nat):Int):=di _ (by omega)
 clear hn
 refine eN func92 rfl ntmps92 fun hO=>?_
 repeat' first|refine st ?_|(refine br ?_ ?_<;>intro hb)|fail
 refine fR results92 ?_
 exact h
theorem G_(n:Nat)(h1:10≤n)(hn:n<100)(R:Rt)(h:R (.ret (.str [ay (48+n / 10),ay (48+n % 10)])) S):aj prog w0 92 [.int .i64 n] S R:=by
 have d1:decide ((n:Int)<10)=false:=by simp;omega
 have k1:ae.wrap ((n:Int).tdiv 10)=((n / 10:Nat):Int):=Am n 10 (by omega)
 have k2:(n:Int).tmod 10=((n % 10:Nat):Int):=vI n 10
 have c1:=fun S'=>zq w0 S' (n / 10) (by omega)
 have c2:=fun S'=>zq w0 S' (n % 10) (by omega)
 clear h1 hn
 refine eN func92 rfl ntmps92 fun hO=>?_
 repeat' first|refine st ?_|(refine ca ?_;first|apply c1|apply c2)|(refine br ?_ ?_<;>intro hb)|fail
 refine fR results92 ?_
 exact h
theorem Md(n:Nat)(hn:n<256)(R:Rt)(h:R (.ret (.str (gn (n:Int)))) S):aj prog w0 92 [.int .i64 n] S R:=by
 rw [Dn n hn] at h
 unfold Lj at h
 by_cases h1:n<10
 ·rw [if_pos h1] at h;exact zq w0 S n h1 R h
 rw [if_neg h1] at h
 by_cases h2:n<100
 ·rw [if_pos h2] at h;exact G_ w0 S n (by omega) h2 R h
 rw [if_neg h2] at h
 have d1:decide ((n:Int)<10)=false:=by simp;omega
 have k1:ae.wrap ((n:Int).tdiv 10)=((n / 10:Nat):Int):=Am n 10 (by omega)
 have k2:(n:Int).tmod 10=((n % 10:Nat):Int):=vI n 10
 have c1:=fun S'=>G_ w0 S' (n / 10) (by omega) (by omega)
 have c2:=fun S'=>zq w0 S' (n % 10) (by omega)
 clear h1 h2 hn
 refine eN func92 rfl ntmps92 fun hO=>?_
 repeat' first|refine st ?_|(refine ca ?_;first|apply c1|apply c2)|(refine br ?_ ?_<;>intro hb)|fail
 refine fR results92 ?_
 exact h
def rq:Option (List UInt8)→AV
 | some s=>.tup [.str s,.int .i64 0]
 | none=>.tup [.str [],.int .i64 2]
theorem IR(a:Ac)(hs:a.text.length≤10000)(R:Rt)(h:R (.ret (rq (cK a))) S):aj prog w0 43 [a.av] S R:=by
 have bad:cK a=none→R (.ret (.tup [.str [],.int .i64 2])) S:=fun e=>by rw [e] at h;exact h
 have good:∀ s,cK a=some s→R (.ret (.tup [.str s,.int .i64 0])) S:=fun s e=>by rw [e] at h;exact h
 clear h
 obtain⟨k,n,m,ck,cn,t⟩:=a
 unfold Ac.av
 simp only at hs ⊢
 have hk:k=44∨k=45∨k=46∨(k≠44∧k≠45∧k≠46):=by omega
 rcases hk with rfl|rfl|rfl|⟨k1,k2,k3⟩
 ·by_cases hz:n=0∧m=0∧ck=0∧cn=0
  ·obtain⟨rfl,rfl,rfl,rfl⟩:=hz
   have ht:=fun S'=>CD w0 S' t (by omega)
   have hl:2+t.length≤9223372036854775807:=by omega
   cases htb:gq t with
   | true =>
    rw [htb] at ht
    have hh:=good (50::59::t) (by unfold cK;rw [if_pos ⟨rfl,htb⟩])
    clear bad good htb hs
    refine eN func43 rfl ntmps43 fun hO=>?_
    repeat' first|refine st ?_|(refine ca ?_;apply ht)|(refine br ?_ ?_<;>intro hb)|fail
    refine fR results43 ?_
    exact hh
   | false =>
    rw [htb] at ht
    have hh:=bad (by unfold cK;rw [if_neg (by simp [htb]),if_neg (by simp),if_neg (by simp)])
    clear bad good htb hs
    refine eN func43 rfl ntmps43 fun hO=>?_
    repeat' first|refine st ?_|(refine ca ?_;apply ht)|(refine br ?_ ?_<;>intro hb)|fail
    refine fR results43 ?_
    exact hh
  ·have e1:(n==0&&(m==0&&(ck==0&&cn==0)))=false:=by
    rw [sF];intro e;simp at e;exact hz e
   have hh:=bad (by unfold cK;rw [if_neg (by simp;omega),if_neg (by simp),if_neg (by simp)])
   clear bad good hz hs
   refine eN func43 rfl ntmps43 fun hO=>?_
   repeat' first|refine st ?_|(refine br ?_ ?_<;>intro hb)|fail
   refine fR results43 ?_
   exact hh
 ·by_cases hz:m=0∧t=[]
  ·obtain⟨rfl,rfl⟩:=hz
   by_cases hn1:0≤n
   ·have d1:decide (0≤n)=true:=decide_eq_true hn1
    by_cases hn2:n≤255
    ·have d2:decide (n≤255)=true:=decide_eq_true hn2
     by_cases hck:ck=2
     ·subst hck
      by_cases hcn:0≤cn∧cn≤16777215
      ·obtain⟨nn,rfl⟩:∃ nn:Nat,n=nn:=⟨n.toNat,by omega⟩
       obtain⟨cc,rfl⟩:∃ cc:Nat,cn=cc:=⟨cn.toNat,by omega⟩
       have ht:=fun S'=>Fj w0 S' cc (by omega)
       have hd:=fun S'=>Md w0 S' nn (by omega)
       have hh:=good (52::59::(gn (nn:Int)++59::kg cc)) (by unfold cK;rw [if_neg (by simp),if_pos ⟨rfl,⟨hn1,hn2⟩,hcn⟩];rfl)
       obtain⟨_,hil,_⟩:=rL nn (by omega)
       have hrl:(kg cc).length=12:=rfl
       generalize gn (nn:Int)=x at hd hh hil
       generalize kg cc=y at ht hh hrl
       have hadd:∀ q:Nat,q≤50→q+x.length≤9223372036854775807:=fun q hq=>by omega
       have ha2:([52,59]++x).length+1≤9223372036854775807:=by simp;omega
       have ha3:([52,59]++x++[59]).length+y.length≤9223372036854775807:=by simp;omega
       have hy:x.length+1+1+1≤9223372036854775807:=by omega
       have hy2:(x++[59]).length≤9223372036854775793:=by simp;omega
       have hya:x++[59]++y=x++59::y:=by simp
       clear bad good hs hn1 hn2 hcn
       refine eN func43 rfl ntmps43 fun hO=>?_
       repeat' first|refine st ?_|(refine ca ?_;first|apply ht|apply hd)|(refine br ?_ ?_<;>intro hb)|fail
       refine fR results43 ?_
       exact hh
      ·have ht:=fun S'=>CE w0 S' cn hcn
       have hh:=bad (by unfold cK;rw [if_neg (by simp),if_neg (by simp;omega),if_neg (by simp)])
       clear bad good hs hn1 hn2 hcn
       refine eN func43 rfl ntmps43 fun hO=>?_
       repeat' first|refine st ?_|(refine ca ?_;apply ht)|(refine br ?_ ?_<;>intro hb)|fail
       refine fR results43 ?_
       exact hh
     ·have d3:(ck==2)=false:=by rw [beq_eq_false_iff_ne];exact hck
      have hh:=bad (by unfold cK;rw [if_neg (by simp),if_neg (by simp;omega),if_neg (by simp)])
      clear bad good hs hn1 hn2 hck
      refine eN func43 rfl ntmps43 fun hO=>?_
      repeat' first|refine st ?_|(refine br ?_ ?_<;>intro hb)|fail
      refine fR results43 ?_
      exact hh
    ·have d2:decide (n≤255)=false:=decide_eq_false hn2
     have hh:=bad (by unfold cK;rw [if_neg (by simp),if_neg (by simp;omega),if_neg (by simp)])
     clear bad good hs hn1 hn2
     refine eN func43 rfl ntmps43 fun hO=>?_
     repeat' first|refine st ?_|(refine br ?_ ?_<;>intro hb)|fail
     refine fR results43 ?_
     exact hh
   ·have d1:decide (0≤n)=false:=decide_eq_false hn1
    have hh:=bad (by unfold cK;rw [if_neg (by simp),if_neg (by simp;omega),if_neg (by simp)])
    clear bad good hs hn1
    refine eN func43 rfl ntmps43 fun hO=>?_
    repeat' first|refine st ?_|(refine br ?_ ?_<;>intro hb)|fail
    refine fR results43 ?_
    exact hh
  ·have e1:(m==0&&t==[])=false:=by
    rw [sF];intro e;simp at e;exact hz e
   have hh:=bad (by unfold cK;rw [if_neg (by simp),if_neg (by simp;intro q1 q2 q3;exact absurd ⟨q1,q3⟩ hz),if_neg (by simp)])
   clear bad good hz hs
   refine eN func43 rfl ntmps43 fun hO=>?_
   repeat' first|refine st ?_|(refine br ?_ ?_<;>intro hb)|fail
   refine fR results43 ?_
   exact hh
 ·by_cases hz:n=0∧m=0∧ck=0∧cn=0
  ·obtain⟨rfl,rfl,rfl,rfl⟩:=hz
   by_cases hl:t.length≤378
   ·have d1:decide ((t.length:Int)≤378)=true:=by simp;omega
    have ht:=fun S'=>Fm w0 S' t (by omega)
    have hel:=w_ t
    have hh:=good (53::50::59::99::59::hU t) (by unfold cK;rw [if_neg (by simp),if_neg (by simp),if_pos ⟨rfl,hl⟩])
    generalize hU t=x at ht hh hel
    have hadd:∀ q:Nat,q≤50→q+x.length≤9223372036854775807:=fun q hq=>by omega
    clear bad good hs hl hel
    refine eN func43 rfl ntmps43 fun hO=>?_
    repeat' first|refine st ?_|(refine ca ?_;apply ht)|(refine br ?_ ?_<;>intro hb)|fail
    refine fR results43 ?_
    exact hh
   ·have d1:decide ((t.length:Int)≤378)=false:=by simp;omega
    have hh:=bad (by unfold cK;rw [if_neg (by simp),if_neg (by simp),if_neg (by simp;omega)])
    clear bad good hs hl
    refine eN func43 rfl ntmps43 fun hO=>?_
    repeat' first|refine st ?_|(refine br ?_ ?_<;>intro hb)|fail
    refine fR results43 ?_
    exact hh
  ·have e1:(n==0&&(m==0&&(ck==0&&cn==0)))=false:=by
    rw [sF];intro e;simp at e;exact hz e
   have hh:=bad (by unfold cK;rw [if_neg (by simp),if_neg (by simp),if_neg (by simp;omega)])
   clear bad good hz hs
   refine eN func43 rfl ntmps43 fun hO=>?_
   repeat' first|refine st ?_|(refine br ?_ ?_<;>intro hb)|fail
   refine fR results43 ?_
   exact hh
 ·have d1:(k==44)=false:=by rw [beq_eq_false_iff_ne];exact k1
  have d2:(k==45)=false:=by rw [beq_eq_false_iff_ne];exact k2
  have d3:(k==46)=false:=by rw [beq_eq_false_iff_ne];exact k3
  have hh:=bad (by unfold cK;rw [if_neg (by simp [k1]),if_neg (by simp [k2]),if_neg (by simp [k3])])
  clear bad good k1 k2 k3 hs
  refine eN func43 rfl ntmps43 fun hO=>?_
  repeat' first|refine st ?_|(refine br ?_ ?_<;>intro hb)|fail
  refine fR results43 ?_
  exact hh
def bA:AV:=.ifc 170 (.agg [])
theorem li(R:Rt)(h:R (.ret (.tup [])) S):aj prog w0 52 [.bool true] S R:=by
 refine eN func52 rfl ntmps52 fun hO=>?_
 repeat' first|refine st ?_|(refine br ?_ ?_<;>intro hb)|fail
 refine fE results52 ?_
 exact h
theorem lj(R:Rt)(h:R (.panic bA) S):aj prog w0 52 [.bool false] S R:=by
 refine eN func52 rfl ntmps52 fun hO=>?_
 repeat' first|refine st ?_|(refine br ?_ ?_<;>intro hb)|fail
 refine fP ?_
 exact h
theorem rS(k n m ck cn:Int)(t:List UInt8)(k2 n2 m2 JZ cn2:Int)(t2:List UInt8):(k==k2&&(n==n2&&(m==m2&&((ck==JZ&&cn==cn2)&&t==t2))))=decide ((⟨k,n,m,ck,cn,t⟩:Ac)=⟨k2,n2,m2,JZ,cn2,t2⟩):=by
 rw [eB]
 simp [and_assoc]
theorem uR(a b:Ac)(hab:a=b)(R:Rt)(h:R (.ret (.tup [])) S):aj prog w0 112 [a.av,b.av] S R:=by
 have hm:=li w0
 obtain⟨k,n,m,ck,cn,t⟩:=a
 obtain⟨k2,n2,m2,JZ,cn2,t2⟩:=b
 have e:=rS k n m ck cn t k2 n2 m2 JZ cn2 t2
 rw [decide_eq_true hab] at e
 unfold Ac.av
 simp only
 clear hab
 refine eN func112 rfl ntmps112 fun hO=>?_
 repeat' first|refine st ?_|(refine ca ?_;apply hm)|(refine br ?_ ?_<;>intro hb)|fail
 refine fE results112 ?_
 exact h
theorem uT(a b:Ac)(hab:a≠b)(R:Rt)(h:R (.panic bA) S):aj prog w0 112 [a.av,b.av] S R:=by
 have hm:=lj w0
 obtain⟨k,n,m,ck,cn,t⟩:=a
 obtain⟨k2,n2,m2,JZ,cn2,t2⟩:=b
 have e:=rS k n m ck cn t k2 n2 m2 JZ cn2 t2
 rw [decide_eq_false hab] at e
 unfold Ac.av
 simp only
 unfold bA at hm h
 clear hab
 refine eN func112 rfl ntmps112 fun hO=>?_
 repeat' first|refine st ?_|(refine ca ?_;apply hm)|(refine br ?_ ?_<;>intro hb)|fail
 refine fP ?_
 exact h
end Go.Proofs.YthdbijpefkapnaaGreatDoor
