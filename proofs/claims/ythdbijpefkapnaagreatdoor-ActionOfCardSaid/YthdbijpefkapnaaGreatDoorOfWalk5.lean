/- A part of the proof. -/
import Derived.Test.YthdbijpefkapnaaGreatDoorOfWalk4
set_option linter.all false
set_option maxHeartbeats 40000000
open And renaming intro → a7
open Bool renaming eq_false_iff → tH, eq_iff_iff → eU
open Go.IntKind renaming i64 → ae, u64 → aW, u8 → a6
open Go.IntWalk renaming i64_in → ai, u8_in → cR
open Go.Lib renaming hid → ab, itoa → gD
open List renaming append_assoc → aP, append_nil → aG, drop_eq_getElem_cons → qK, getElem?_eq_getElem → ap, getElem?_eq_none → bR, getElem?_eq_some_iff → af, getElem?_map → aJ, getElem?_of_mem → aV, length → jI, length_append → ah, length_cons → aB, length_drop → CE, length_map → bi, length_nil → aI, map_append → aM, mem_of_getElem? → ax, replicate → a8, replicate_succ' → A8, replicate_zero → Fu, take_add_one → jW, take_length → bC, take_succ_cons → aR, take_zero → aO
open Nat renaming mod_lt → eh, pow_le_pow_right → gM, zero_le → bf
open UInt8 renaming ofNat → az, toNat → aK
namespace Go.Proofs.YthdbijpefkapnaaGreatDoor
open Go Go.Fen Go.Proofs.Tryz
attribute [local irreducible] aX WP ao dS i7 cJ aU cC
set_option maxRecDepth 8000
variable (w0:World) (S:List aH)
theorem Ja(s:List UInt8)(hs:s.length≤100000)(R:Rt)(h:R (.ret (.str (gx s))) S):ao prog w0 180 [.str s] S R:=by
 have hel:(gx s).length=(8 * s.length+5) / 6:=by unfold gx;simp [nF]
 have hlm:ae.wrap (8 * (s.length:Int))=((8 * s.length:Nat):Int):=by rw [ai _ ω];omega
 obtain⟨t,ht⟩:∃ t,s.map aK=t:=⟨_,rfl⟩
 have hat:=fun j hj=>Ih (s:=s) (j:=j) hj
 rw [ht] at hat
 obtain⟨L,hL⟩:∃ L,gx s=L:=⟨_,rfl⟩
 rw [hL] at h hel hat
 have Hat:=ab hat
 clear hat hL
 refine eN func180 rfl ntmps180 fun hO=>?_
 refine ε0 ?_
 refine ij (t:=3) 5 1 ss δ ?_
 try simp only [go_sem, *]
 refine cD (fun (j:Nat) env S'=>j≤L.length∧env 1000000=.dfr []∧env 0=.str s∧env 3=.sown S.length j j∧env 4=.int .i64 ((6 * j:Nat):Int) ∧
  S'=S++[.arr 5 1 0 j ((L.take j).map jG)]) (fun j=>L.length - j) 0 ?_ ?_
 ·exact⟨bf _,ss,ss,ss,ss,rfl⟩
 ·rintro j env S' ⟨hj,e0,f0,f3,f4,rfl⟩ IH
  have HI:=ab IH
  have H:=ab h
  clear IH h
  by_cases hlt:j<L.length
  ·have hlt8:6 * j<8 * s.length:=ω
   have d0:decide (((6 * j:Nat):Int)<((8 * s.length:Nat):Int))=true:=κ
   have hw6:ae.wrap (((6 * j:Nat):Int)+6)=((6 * (j+1):Nat):Int):=by rw [ai _ ω];omega
   have hlen:((L.take j).map jG).length=j:=κ
   have hjn:j≤1000000:=ω
   refine ε0 ?_
   refine cD (fun (k:Nat) env2 S2=>k≤6∧env2 1000000=.dfr []∧env2 0=.str s∧env2 3=.sown S.length j j∧env2 4=.int .i64 ((6 * j:Nat):Int)∧env2 5=.int .i64 (GL t (6 * j) k:Nat)∧env2 6=.int .i64 ((6 * j+k:Nat):Int) ∧
    S2=S++[.arr 5 1 0 j ((L.take j).map jG)]) (fun k=>6 - k) 0 ?_ ?_
   ·exact⟨bf _,ss,ss,ss,ss,ss,ss,rfl⟩
   ·rintro k env2 S2 ⟨hk,g0,h0,h3,h4,h5,h6,rfl⟩ IH2
    have HI2:=ab IH2
    clear IH2 e0 f0 f3 f4
    by_cases hk6:k<6
    ·have d1:decide (((6 * j+k:Nat):Int)<((6 * (j+1):Nat):Int))=true:=κ
     have hp:=y_ t (6 * j) k
     have hp6:2 ^ k≤64:=gM (by decide:2>0) (show k≤6 from hk)
     have hps:GL t (6 * j) (k+1)=2 * GL t (6 * j) k+k9 t (6 * j+k):=rfl
     generalize GL t (6 * j) k=n at h5 hp hps
     have hwk:ae.wrap (((6 * j+k:Nat):Int)+1)=((6 * j+(k+1):Nat):Int):=by rw [ai _ ω];omega
     have hq:ae.wrap (((6 * j+k:Nat):Int).tdiv 8)=(((6 * j+k) / 8:Nat):Int):=Bm _ 8 ω
     have hm:((6 * j+k:Nat):Int).tmod 8=(((6 * j+k) % 8:Nat):Int):=wH _ 8
     have hm8:(6 * j+k) % 8<8:=eh _ δ
     have k1:ae.wrap (2 * (n:Int))=((2 * n:Nat):Int):=by rw [ai _ ω];omega
     by_cases hin:(6 * j+k) / 8<s.length
     ·obtain⟨c,hx⟩:∃ c,s[(6 * j+k) / 8]? = some c:=⟨_,ap hin⟩
      have hct:c.toNat<256:=c.toNat_lt
      have hb:k9 t (6 * j+k)=c.toNat / 2 ^ (7 - (6 * j+k) % 8) % 2:=by
       unfold k9
       rw [← ht,aJ,hx]
       rfl
      rw [hb] at hps
      have d2:decide ((((6 * j+k) / 8:Nat):Int)<(s.length:Int))=true:=κ
      have hpa:=Kk _ hm8
      obtain⟨m,hmm⟩:∃ m,(6 * j+k) % 8=m:=⟨_,rfl⟩
      obtain⟨w,hww⟩:∃ w,2 ^ (7 - m)=w:=⟨_,rfl⟩
      rw [hmm] at hm hpa hps
      rw [hww] at hpa hps
      obtain⟨rr,hdr⟩:∃ rr,List.drop m ([AV.int .i64 128,.int .i64 64,.int .i64 32,.int .i64 16,.int .i64 8,.int .i64 4,.int .i64 2,.int .i64 1]:List AV)=.int .i64 (w:Int)::rr:=by
       obtain⟨g1,g2⟩:=af.1 hpa
       exact⟨_,by rw [qK g1,g2]⟩
      have hdr1:List.drop (m * 1) ([AV.int .i64 128,.int .i64 64,.int .i64 32,.int .i64 16,.int .i64 8,.int .i64 4,.int .i64 2,.int .i64 1]:List AV)=.int .i64 (w:Int)::rr:=by rw [Nat.mul_one];exact hdr
      have hmi:(m:Int)<8:=ω
      have hmi2:(m:Int)<((8:Nat):Int):=ω
      have hw0:0<w:=by rw [← hww];exact Nat.pos_of_ne_zero χ
      have hwz:((w:Int)=0)=False:=κ
      have kc:ae.wrap (c.toNat:Int)=(c.toNat:Int):=ai _ ω
      have k2:ae.wrap ((c.toNat:Int).tdiv (w:Int))=((c.toNat / w:Nat):Int):=Bm _ w ω
      have k3:((c.toNat / w:Nat):Int).tmod 2=((c.toNat / w % 2:Nat):Int):=wH _ 2
      have hb2:c.toNat / w % 2<2:=eh _ δ
      have k4:ae.wrap (((2 * n:Nat):Int)+((c.toNat / w % 2:Nat):Int))=((2 * n+c.toNat / w % 2:Nat):Int):=by rw [ai _ ω];omega
      have Hf:=ab (a7 hk6 hps)
      have HH:=ab (a7 hlt (a7 hjn hlen))
      clear hpa hk hk6 hp hp6 hps hm8 hin hct hb hmm hww hw0 hb2 ht hel hs hlt hlt8 hj hjn
      refine Δ0 ?_
      refine bX hO 1 [0,3,4,5,6] rfl ss ss ss ?_
      simp only [aR,aO]
      refine HI2.out (k+1) _ _ (by have:=Hf.out.1;omega) ⟨Hf.out.1, ?_, ?_, ?_, ?_, ?_, ?_,rfl⟩
      ·exact ss
      ·exact ss
      ·exact ss
      ·exact ss
      ·rw [Hf.out.2];(simp only [go_sem, *];try rfl)
      ·exact ss
     ·have hb:k9 t (6 * j+k)=0:=by
       unfold k9
       rw [← ht,aJ,bR ω]
       rfl
      rw [hb] at hps
      have d2:decide ((((6 * j+k) / 8:Nat):Int)<(s.length:Int))=false:=κ
      have k4:ae.wrap (((2 * n:Nat):Int)+0)=((2 * n+0:Nat):Int):=by rw [ai _ ω];omega
      have Hf:=ab (a7 hk6 hps)
      clear hk hk6 hp hp6 hps hm8 hin hb ht hel hs hlt hlt8 hj hjn
      refine Δ0 ?_
      refine bX hO 1 [0,3,4,5,6] rfl ss ss ss ?_
      simp only [aR,aO]
      refine HI2.out (k+1) _ _ (by have:=Hf.out.1;omega) ⟨Hf.out.1, ?_, ?_, ?_, ?_, ?_, ?_,rfl⟩
      ·exact ss
      ·exact ss
      ·exact ss
      ·exact ss
      ·rw [Hf.out.2];(simp only [go_sem, *];try rfl)
      ·exact ss
    ·have hke:k=6:=ω
     subst hke
     have d1:decide (((6 * j+6:Nat):Int)<((6 * (j+1):Nat):Int))=false:=κ
     obtain⟨hx1,qn⟩:=Hat.out j hlt8
     rw [GK] at h5
     generalize jA t (6 * j)=v at h5 hx1 qn
     have hsg:=FI v hx1
     have htk:L.take (j+1)=L.take j++[bt v]:=by rw [jW,qn];rfl
     have hb1:(j+1) * 1≤140737488355328:=ω
     have Hf:=ab (a7 hlt htk)
     clear hk hk6 hx1 qn htk ht hel hs hlt hlt8 hj hjn
     refine ε0 ?_
     refine bX hO 1 [0,3,4] rfl ss ss ss ?_
     simp only [aR,aO]
     refine HI.out (j+1) _ _ (by have:=Hf.out.1;omega) ⟨Hf.out.1, ?_, ?_, ?_, ?_, ?_⟩
     ·exact ss
     ·exact ss
     ·exact ss
     ·exact ss
     ·rw [Hf.out.2,aM];rfl
  ·have hje:j=L.length:=ω
   subst hje
   rw [bC]
   have d0:decide (((6 * L.length:Nat):Int)<((8 * s.length:Nat):Int))=false:=κ
   have hlen:(L.map jG).length=L.length:=χ
   have hby:=na L
   have hh:=H.out
   clear ht hel hs hlt hj HI H
   refine ε0 ?_
   refine fR results180 ?_
   exact hh
theorem AD(l p:Nat)(h:p≤gW l):(((l+p) % 4:Nat)=0↔p=gW l):=by
 unfold gW at *
 omega
theorem Gp(s:List UInt8)(hs:s.length≤4096)(R:Rt)(h:R (.ret (.tup [.str (iw s),.int .i64 0])) S):ao prog w0 93 [.str s] S R:=by
 have d0:decide ((4096:Int)<(s.length:Int))=false:=κ
 have hb:=fun S'=>Ja w0 S' s ω
 have hel:(gx s).length≤10000:=by unfold gx;simp [nF];omega
 unfold iw at h
 generalize gx s=B at hb h hel
 clear hs
 refine eN func93 rfl ntmps93 fun hO=>?_
 refine ε1 hb ?_
 refine cD (fun (p:Nat) env S'=>p≤gW B.length∧env 1000000=.dfr []∧env 4=.str (B++a8 p 61)∧S'=S) (fun p=>gW B.length - p) 0 ?_ ?_
 ·exact⟨bf _,ss,by rw [Fu,aG];(simp only [go_sem, *];try rfl),ss⟩
 ·rintro p env S' ⟨hp,e0,f4,rfl⟩ IH
  have HI:=ab IH
  have H:=ab h
  clear IH h
  have hl:(B++a8 p (61:UInt8)).length=B.length+p:=χ
  have hpl:=AD B.length p hp
  have hp4:gW B.length≤3:=by unfold gW;omega
  have hsu:B++a8 (p+1) (61:UInt8)=(B++a8 p 61)++[61]:=by rw [A8,aP]
  have Hsu:=ab hsu
  clear hsu
  by_cases hpe:p=gW B.length
  ·subst hpe
   generalize B++a8 (gW B.length) (61:UInt8)=X at f4 hl H
   have hm:(X.length:Int).tmod 4=((X.length % 4:Nat):Int):=wH _ 4
   have hz:X.length % 4=0:=by rw [hl];exact hpl.2 rfl
   rw [hz] at hm
   have hm:(X.length:Int).tmod 4=0:=hm
   have hh:=H.out
   clear hp hl hpl hp4 hz HI H hel Hsu
   refine ε0 ?_
   refine fR results93 ?_
   exact hh
  ·generalize B++a8 p (61:UInt8)=X at f4 hl Hsu
   have hm:(X.length:Int).tmod 4=((X.length % 4:Nat):Int):=wH _ 4
   have hz:X.length % 4≠0:=by rw [hl];exact fun e=>hpe (hpl.1 e)
   have d1:(((X.length % 4:Nat):Int) != 0)=true:=by rw [bne_iff_ne];omega
   have ha:X.length+1≤9223372036854775807:=ω
   have Hf:=ab (show p+1≤gW B.length by omega)
   clear hp hl hpl hp4 hz hpe hel
   refine ε0 ?_
   refine HI.out (p+1) _ _ (by have:=Hf.out;omega) ⟨Hf.out, ?_, ?_,rfl⟩
   ·exact ss
   ·rw [Hsu.out];(simp only [go_sem, *];try rfl)
theorem ve:∀ (s:List UInt8) (i:Nat),i<(iY s).length→∃ c v,s[i]? = some c∧ja c=some v∧(iY s)[i]? = some v∧v<64
 | [],i,h=>by simp [iY] at h
 | c::s,i,h=>by
  rw [iY] at h ⊢
  cases hc:ja c with
  | none=>rw [hc] at h;simp at h
  | some v =>
   rw [hc] at h
   cases i with
   | zero=>exact⟨c,v,rfl,hc,rfl,(rS hc).1⟩
   | succ i =>
    obtain⟨c2,v2,h1,h2,h3,h4⟩:=ve s i (by simpa using h)
    exact⟨c2,v2,by simpa using h1,h2,by simpa using h3,h4⟩
theorem wY:∀ (s:List UInt8),(iY s).length≤s.length∧∀ c,s[(iY s).length]? = some c→ja c=none
 | []=>by simp [iY]
 | c::s=>by
  rw [iY]
  cases hc:ja c with
  | none=>simp only [aI];exact⟨bf _,fun d hd=>by simp at hd;rw [← hd];exact hc⟩
  | some v =>
   obtain⟨h1,h2⟩:=wY s
   simp only [aB]
   exact⟨ω,fun d hd=>h2 d (by simpa using hd)⟩
def dst(V:List Nat)(i:Nat):nQ:=(V.take i).foldl d_ ⟨[],0,0⟩
theorem x8{V:List Nat}{i v:Nat}(h:V[i]? = some v):dst V (i+1)=d_ (dst V i) v:=by
 unfold dst
 rw [jW,h,List.foldl_append];rfl
def t8(q:nQ):Prop:=(q.wait=0∧q.rest=0)∨(q.wait=6∧q.rest<64)∨(q.wait=4∧q.rest<16)∨(q.wait=2∧q.rest<4)
theorem xN{q:nQ}{v:Nat}(h:t8 q)(hv:v<64):t8 (d_ q v)∧(d_ q v).out.length≤q.out.length+1:=by
 obtain⟨o,w,r⟩:=q
 unfold t8 d_ at *
 simp only at *
 rcases h with⟨rfl,rfl⟩|⟨rfl,h⟩|⟨rfl,h⟩|⟨rfl,h⟩<;>simp<;>omega
theorem AK(V:List Nat)(hV:∀ v∈V,v<64):∀ i,i≤V.length→t8 (dst V i)∧(dst V i).out.length≤i
 | 0,_=>by unfold dst t8;simp
 | i+1,h=>by
  obtain⟨h1,h2⟩:=AK V hV i ω
  have hx:V[i]? = some (V[i]'ω):=ap ω
  obtain⟨h3,h4⟩:=xN h1 (hV _ (ax hx))
  rw [x8 hx]
  exact⟨h3,ω⟩
theorem Ai(s:List UInt8):∀ v∈iY s,v<64:=by
 intro v hv
 obtain⟨i,hi⟩:=aV hv
 obtain⟨c,v2,_,_,h3,h4⟩:=ve s i (af.1 hi).1
 rw [hi] at h3;cases h3;exact h4
theorem Ij(s:List UInt8):((dst (iY s) (iY s).length).out.map az)=tX s:=by
 unfold dst tX
 rw [bC,td _ [] (Ai s)]
 rfl
theorem tf{n r v w k:Nat}(hk:n % 2 ^ w=r)(hw:(w=6∧k=4)∨(w=4∧k=2)∨(w=2∧k=0))(hv:v<64) :
  (n * 64+v) % 1048576 / 2 ^ k % 256=(r * 64+v) / 2 ^ k∧(n * 64+v) % 1048576 % 2 ^ k=(r * 64+v) % 2 ^ k:=by
 rcases hw with⟨rfl,rfl⟩|⟨rfl,rfl⟩|⟨rfl,rfl⟩<;>simp at *<;>omega
def Dv:Option (List UInt8)→AV
 | some t=>.tup [.str t,.int .i64 0]
 | none=>.tup [.str [],.int .i64 6]
theorem CM(x:Nat)(h:x<256):((x:Nat):Int)=((az x).toNat:Int):=by
 simp [UInt8.toNat_ofNat']
 omega
theorem AA(s:List UInt8)(hs:s.length≤8192)(R:Rt)(h:R (.ret (Dv (zH s))) S):ao prog w0 132 [.str s] S R:=by
 have d0:decide ((8192:Int)<(s.length:Int))=false:=κ
 obtain⟨hVl,hend⟩:=wY s
 have hall:=Ij s
 have hV:=Ai s
 have htk:=ve s
 unfold zH at h
 rw [← hall] at h
 generalize iY s=V at hVl hend hV htk h
 have Hend:=ab hend
 have HV:=ab hV
 have Htk:=ab htk
 clear hend hV htk hall
 refine eN func132 rfl ntmps132 fun hO=>?_
 refine ε0 ?_
 refine ij (t:=6) 5 1 ss δ ?_
 try simp only [go_sem, *]
 refine cD (fun (g:Nat × Nat × Nat) env S'=>g.1≤V.length∧g.2.1<1048576∧g.2.1 % 2 ^ (dst V g.1).wait=(dst V g.1).rest∧env 1000000=.dfr []∧env 0=.str s∧env 4=.int .i64 (g.2.1:Nat)∧env 5=.int .i64 ((dst V g.1).wait:Nat)∧env 6=.sown S.length g.2.2 ((dst V g.1).out.map az).length∧env 7=.int .i64 (g.1:Nat) ∧
  S'=S++[.arr 5 1 0 g.2.2 (((dst V g.1).out.map az).map jG)]) (fun g=>V.length - g.1) (0,0,0) ?_ ?_
 ·exact⟨bf _,δ,rfl,ss,ss,ss,ss,ss,ss,rfl⟩
 ·rintro⟨i,n,g⟩ env S' ⟨hi,hn,hr,e0,f0,f4,f5,f6,f7,rfl⟩ IH
  simp only at hi hn hr f4 f5 f6 f7
  have HI:=ab IH
  have H:=ab h
  clear IH h
  obtain⟨hinv,hol⟩:=AK V HV.out i hi
  by_cases hlt:i<V.length
  ·obtain⟨c,v,hx,hcv,hVx,hv⟩:=Htk.out i hlt
   have hsucc:=x8 hVx
   have hrv:=fun S'=>Dx w0 S' c
   unfold CS at hrv
   rw [hcv] at hrv
   simp only at hrv
   have d1:decide ((i:Int)<(s.length:Int))=true:=κ
   have d2:decide ((0:Int)≤(v:Int))=true:=χ
   have hw1:ae.wrap ((i:Int)+1)=((i+1:Nat):Int):=by rw [ai _ ω];omega
   have k1:ae.wrap ((n:Int) * 64)=((n * 64:Nat):Int):=by rw [ai _ ω];omega
   have k2:ae.wrap (((n * 64:Nat):Int)+(v:Int))=((n * 64+v:Nat):Int):=by rw [ai _ ω];omega
   have k3:((n * 64+v:Nat):Int).tmod 1048576=(((n * 64+v) % 1048576:Nat):Int):=wH _ 1048576
   generalize hq:dst V i=q at hr f5 f6 hinv hol hsucc ⊢
   obtain⟨o,w,r⟩:=q
   simp only at hr f5 f6 hol ⊢
   unfold t8 at hinv
   simp only at hinv
   have hmap:(o.map az).length=o.length:=χ
   have hma2:((o.map az).map jG).length=o.length:=χ
   have hb1:(o.length+1) * 1≤140737488355328:=ω
   unfold d_ at hsucc
   simp only at hsucc
   rw [hmap] at f6
   rcases hinv with⟨rfl,rfl⟩|⟨rfl,hinv⟩|⟨rfl,hinv⟩|⟨rfl,hinv⟩
   ·skip
    rw [if_pos rfl] at hsucc
    have hm:(n * 64+v) % 1048576<1048576∧(n * 64+v) % 1048576 % 2 ^ 6=0 * 64+v:=ω
    have u0:ae.wrap (((0:Nat):Int)+6)=6:=δ
    generalize (n * 64+v) % 1048576=n2 at k3 hm
    have Hf:=ab (a7 hlt (a7 hm (a7 hsucc hmap)))
    clear  hi hn hr hol hlt hcv hVx hv hsucc hm hVl hs hq hmap
    refine ε1 hrv ?_
    obtain⟨hlt,hm,hsucc,hmap⟩:=Hf.out
    refine bX hO 1 [0,4,5,6,7] rfl ss ss ss ?_
    simp only [aR,aO]
    refine HI.out (i+1,n2,g) _ _ (by simp only;omega) ⟨hlt,hm.1, ?_, ?_, ?_, ?_, ?_, ?_, ?_, ?_⟩
    ·simp only;rw [hsucc];exact hm.2
    ·exact ss
    ·exact ss
    ·exact ss
    ·rw [hsucc];(simp only [go_sem, *];try rfl)
    ·rw [hsucc];simp only [bi];(simp only [go_sem, *];try rfl)
    ·exact ss
    ·rw [hsucc]
   ·skip
    rw [if_neg δ,if_pos rfl] at hsucc
    obtain⟨hy1,hy2⟩:=tf (v:=v) hr (.inl ⟨rfl,rfl⟩) hv
    have hm:(n * 64+v) % 1048576<1048576:=eh _ δ
    have hbb:=mF ((n * 64+v) % 1048576 / 2 ^ 4)
    rw [hy1] at hbb
    have hx8:(r * 64+v) / 2 ^ 4<256:=ω
    rw [CM _ hx8] at hbb
    have hsh:=KY ((n * 64+v) % 1048576) 4 δ
    have hout:(o++[(r * 64+v) / 2 ^ 4]).map az=o.map az++[az ((r * 64+v) / 2 ^ 4)]:=by rw [aM];rfl
    have u0:ae.wrap (((6:Nat):Int)+6)=12:=δ
    have u1:ae.wrap 12=12:=δ
    have u2:ae.wrap 4=4:=δ
    have u4:ae.wrap (12 - 8)=4:=δ
    have u3:aW.wrap 4=4:=δ
    generalize (n * 64+v) % 1048576=n2 at k3 hm hy1 hy2 hbb hsh
    generalize az ((r * 64+v) / 2 ^ 4)=bd at hbb hout
    have Hf:=ab (a7 hlt (a7 hm (a7 hsucc (a7 hy2 (a7 hout hmap)))))
    clear hy1 hy2 hx8 hout hinv hi hn hr hol hlt hcv hVx hv hsucc hm hVl hs hq hmap
    refine ε1 hrv ?_
    obtain⟨hlt,hm,hsucc,hy2,hout,hmap⟩:=Hf.out
    refine bX hO 1 [0,4,5,6,7] rfl ss ss ss ?_
    simp only [aR,aO]
    refine HI.out (i+1,n2,g+1) _ _ (by simp only;omega) ⟨hlt,hm, ?_, ?_, ?_, ?_, ?_, ?_, ?_, ?_⟩
    ·simp only;rw [hsucc];exact hy2
    ·exact ss
    ·exact ss
    ·exact ss
    ·rw [hsucc];(simp only [go_sem, *];try rfl)
    ·rw [hsucc];simp only;rw [hout,ah,hmap];(simp only [go_sem, *];try rfl)
    ·exact ss
    ·rw [hsucc];simp only;rw [hout,aM];rfl
   ·skip
    rw [if_neg δ,if_neg δ,if_pos rfl] at hsucc
    obtain⟨hy1,hy2⟩:=tf (v:=v) hr (.inr (.inl ⟨rfl,rfl⟩)) hv
    have hm:(n * 64+v) % 1048576<1048576:=eh _ δ
    have hbb:=mF ((n * 64+v) % 1048576 / 2 ^ 2)
    rw [hy1] at hbb
    have hx8:(r * 64+v) / 2 ^ 2<256:=ω
    rw [CM _ hx8] at hbb
    have hsh:=KY ((n * 64+v) % 1048576) 2 δ
    have hout:(o++[(r * 64+v) / 2 ^ 2]).map az=o.map az++[az ((r * 64+v) / 2 ^ 2)]:=by rw [aM];rfl
    have u0:ae.wrap (((4:Nat):Int)+6)=10:=δ
    have u1:ae.wrap 10=10:=δ
    have u2:ae.wrap 2=2:=δ
    have u4:ae.wrap (10 - 8)=2:=δ
    have u3:aW.wrap 2=2:=δ
    generalize (n * 64+v) % 1048576=n2 at k3 hm hy1 hy2 hbb hsh
    generalize az ((r * 64+v) / 2 ^ 2)=bd at hbb hout
    have Hf:=ab (a7 hlt (a7 hm (a7 hsucc (a7 hy2 (a7 hout hmap)))))
    clear hy1 hy2 hx8 hout hinv hi hn hr hol hlt hcv hVx hv hsucc hm hVl hs hq hmap
    refine ε1 hrv ?_
    obtain⟨hlt,hm,hsucc,hy2,hout,hmap⟩:=Hf.out
    refine bX hO 1 [0,4,5,6,7] rfl ss ss ss ?_
    simp only [aR,aO]
    refine HI.out (i+1,n2,g+1) _ _ (by simp only;omega) ⟨hlt,hm, ?_, ?_, ?_, ?_, ?_, ?_, ?_, ?_⟩
    ·simp only;rw [hsucc];exact hy2
    ·exact ss
    ·exact ss
    ·exact ss
    ·rw [hsucc];(simp only [go_sem, *];try rfl)
    ·rw [hsucc];simp only;rw [hout,ah,hmap];(simp only [go_sem, *];try rfl)
    ·exact ss
    ·rw [hsucc];simp only;rw [hout,aM];rfl
   ·skip
    rw [if_neg δ,if_neg δ,if_neg δ] at hsucc
    obtain⟨hy1,hy2⟩:=tf (v:=v) hr (.inr (.inr ⟨rfl,rfl⟩)) hv
    have hm:(n * 64+v) % 1048576<1048576:=eh _ δ
    have hbb:=mF ((n * 64+v) % 1048576 / 2 ^ 0)
    rw [hy1] at hbb
    have hx8:(r * 64+v) / 2 ^ 0<256:=ω
    rw [CM _ hx8] at hbb
    have hsh:=KY ((n * 64+v) % 1048576) 0 δ
    have hout:(o++[(r * 64+v) / 2 ^ 0]).map az=o.map az++[az ((r * 64+v) / 2 ^ 0)]:=by rw [aM];rfl
    have u0:ae.wrap (((2:Nat):Int)+6)=8:=δ
    have u1:ae.wrap 8=8:=δ
    have u2:ae.wrap 0=0:=δ
    have u4:ae.wrap (8 - 8)=0:=δ
    have u3:aW.wrap 0=0:=δ
    generalize (n * 64+v) % 1048576=n2 at k3 hm hy1 hy2 hbb hsh
    generalize az ((r * 64+v) / 2 ^ 0)=bd at hbb hout
    simp only [Nat.pow_zero,Nat.div_one] at hsh hbb hout hy1 hy2
    have Hf:=ab (a7 hlt (a7 hm (a7 hsucc (a7 hy2 (a7 hout hmap)))))
    clear hy1 hy2 hx8 hout hinv hi hn hr hol hlt hcv hVx hv hsucc hm hVl hs hq hmap
    refine ε1 hrv ?_
    obtain⟨hlt,hm,hsucc,hy2,hout,hmap⟩:=Hf.out
    refine bX hO 1 [0,4,5,6,7] rfl ss ss ss ?_
    simp only [aR,aO]
    refine HI.out (i+1,n2,g+1) _ _ (by simp only;omega) ⟨hlt,hm, ?_, ?_, ?_, ?_, ?_, ?_, ?_, ?_⟩
    ·simp only;rw [hsucc];simp only;omega
    ·exact ss
    ·exact ss
    ·exact ss
    ·rw [hsucc];(simp only [go_sem, *];try rfl)
    ·rw [hsucc];simp only;rw [hout,ah,hmap];(simp only [go_sem, *];try rfl)
    ·exact ss
    ·rw [hsucc];simp only;rw [hout,aM];rfl
  ·have hie:i=V.length:=ω
   subst hie
   generalize hO:(dst V V.length).out.map az=O at f6 H ⊢
   have hOl:O.length≤8192:=by rw [← hO,bi];omega
   have hb:=fun S'=>Ja w0 S' O ω
   have hby:=na O
   have hlen:(O.map jG).length=O.length:=χ
   have hel:(gx O).length≤20000:=by unfold gx;simp [nF];omega
   unfold iw at H
   generalize gx O=B at hb H hel
   have hq:(decide ((V.length:Int)<(s.length:Int))=false)∨∃ c,decide ((V.length:Int)<(s.length:Int))=true∧s[V.length]? = some c∧∀ S' (R:Rt),R (.ret (.int .i64 (-1))) S'→ao prog w0 200 [.int .u8 c.toNat] S' R:=by
    by_cases hh:V.length<s.length
    ·right
     obtain⟨c,hx⟩:∃ c,s[V.length]? = some c:=⟨_,ap hh⟩
     refine⟨c,κ,hx,fun S' R hr=>Dx w0 S' c R ?_⟩
     unfold CS
     rw [Hend.out c hx]
     exact hr
    ·left;simp;omega
   clear hi hn hr hinv hol hlt hVl hs hO hOl HI
   refine share ?K1 ?hK1 fun key1=>?main
   case main =>
    replace key1:=ab key1
    rcases hq with d1|⟨c,d1,hx,hrv⟩
    case inl =>
     refine ε1 hb ?_
     refine bX hO 1 [0,8,9,10] rfl ss ss ss ?_
     simp only [aR,aO]
     refine g_ [1000000,0,8,9,10] ?_
     simp only [fb,go_sem]
     exact key1.out
    case inr =>
     refine ε2 hb hrv ?_
     refine bX hO 1 [0,8,9,10] rfl ss ss ss ?_
     simp only [aR,aO]
     refine g_ [1000000,0,8,9,10] ?_
     simp only [fb,go_sem]
     exact key1.out
   case hK1 =>
    rintro env2 ⟨g0,h0,h8,h9,h10⟩
    rw [e0] at g0
    rw [f0] at h0
    clear e0 f0 f4 f5 f6 f7 hb hby hlen hq
    refine cD (fun (p:Nat) env3 S3=>p≤gW B.length∧env3 1000000=.dfr []∧env3 0=.str s∧env3 8=.str O∧env3 9=.str B∧env3 10=.str (B++a8 p 61)∧S3=S++[aH.arr 5 1 0 g (O.map jG)]) (fun p=>gW B.length - p) 0 ?_ ?_
    ·exact⟨bf _,g0,h0,h8,h9,by rw [Fu,aG];exact h10,rfl⟩
    ·rintro p env3 S3 ⟨hp,g0,h0,h8,h9,h10,rfl⟩ IH
     have HI:=ab IH
     clear IH
     have hl:(B++a8 p (61:UInt8)).length=B.length+p:=χ
     have hpl:=AD B.length p hp
     have hp4:gW B.length≤3:=by unfold gW;omega
     have hsu:B++a8 (p+1) (61:UInt8)=(B++a8 p 61)++[61]:=by rw [A8,aP]
     have Hsu:=ab hsu
     clear hsu
     by_cases hpe:p=gW B.length
     ·subst hpe
      generalize B++a8 (gW B.length) (61:UInt8)=X at h10 hl H
      have hm:(X.length:Int).tmod 4=((X.length % 4:Nat):Int):=wH _ 4
      have hz:X.length % 4=0:=by rw [hl];exact hpl.2 rfl
      rw [hz] at hm
      have hm:(X.length:Int).tmod 4=0:=hm
      have hh:=H.out
      clear hp hl hpl hp4 hz HI H hel Hsu
      by_cases c1:s=B
      ·have d3:(s==B)=true:=by rw [c1];simp
       rw [if_neg (fun e=>e.1 c1)] at hh
       have hh:R (.ret (.tup [.str O,.int .i64 0])) S:=hh
       clear c1
       refine ε0 ?_
       refine fR results132 ?_
       exact hh
      ·have d3:(s==B)=false:=by rw [beq_eq_false_iff_ne];exact c1
       by_cases c2:s=X
       ·have d4:(s==X)=true:=by rw [c2];simp
        rw [if_neg (fun e=>e.2 c2)] at hh
        have hh:R (.ret (.tup [.str O,.int .i64 0])) S:=hh
        clear c1 c2
        refine ε0 ?_
        refine fR results132 ?_
        exact hh
       ·have d4:(s==X)=false:=by rw [beq_eq_false_iff_ne];exact c2
        rw [if_pos ⟨c1,c2⟩] at hh
        have hh:R (.ret (.tup [.str [],.int .i64 6])) S:=hh
        clear c1 c2
        refine ε0 ?_
        refine fR results132 ?_
        exact hh
     ·generalize B++a8 p (61:UInt8)=X at h10 hl Hsu
      have hm:(X.length:Int).tmod 4=((X.length % 4:Nat):Int):=wH _ 4
      have hz:X.length % 4≠0:=by rw [hl];exact fun e=>hpe (hpl.1 e)
      have d1:(((X.length % 4:Nat):Int) != 0)=true:=by rw [bne_iff_ne];omega
      have ha:X.length+1≤9223372036854775807:=ω
      have Hf:=ab (show p+1≤gW B.length by omega)
      clear hp hl hpl hp4 hz hpe hel
      refine ε0 ?_
      refine bX hO 1 [0,8,9,10] rfl ss ss ss ?_
      simp only [aR,aO]
      refine HI.out (p+1) _ _ (by have:=Hf.out;omega) ⟨Hf.out, ?_, ?_, ?_, ?_, ?_,rfl⟩
      ·exact ss
      ·exact ss
      ·exact ss
      ·exact ss
      ·rw [Hsu.out];(simp only [go_sem, *];try rfl)
def Ac.av(a:Ac):AV:=.agg [.int .i64 a.kind,.int .i64 a.n,.int .i64 a.m,.int .i64 a.ck,.int .i64 a.cn,.str a.text]
def tS:Option Ac→AV
 | some a=>.tup [a.av,.bool true]
 | none=>.tup [zeroA.av,.bool false]
theorem pC{s w r:List UInt8}(h:iy s=some (w,r)):w.length≤s.length∧r.length≤s.length:=by
 unfold iy at h
 split at h
 ·cases h
 ·cases h
  have htd:=congrArg jI (List.takeWhile_append_dropWhile (p:=fun b=>b != 59) (l:=s))
  rw [ah] at htd
  rw [CE]
  omega
theorem J6(s:List UInt8)(hs:s.length≤8192)(R:Rt)(h:R (.ret (tS (er s))) S):ao prog w0 70 [.str s] S R:=by
 have hc:=fun S'=>L8 w0 S' s ω
 have bad:er s=none→R (.ret (.tup [.agg [.int .i64 0,.int .i64 0,.int .i64 0,.int .i64 0,.int .i64 0,.str []],.bool false])) S:=fun e=>by rw [e] at h;exact h
 have good:∀ k n m ck cn t,er s=some ⟨k,n,m,ck,cn,t⟩→R (.ret (.tup [.agg [.int .i64 k,.int .i64 n,.int .i64 m,.int .i64 ck,.int .i64 cn,.str t],.bool true])) S:=fun k n m ck cn t e=>by rw [e] at h;exact h
 unfold er at bad good
 clear h
 cases hcs:iy s with
 | none =>
  rw [hcs] at hc
  have hh:=bad (by rw [hcs];split<;>rfl)
  unfold zK at hc
  clear hcs hs bad good
  exact γR1 hc func70 ntmps70 results70 hh
 | some q =>
  obtain⟨k,r⟩:=q
  have hrl:=(pC hcs).2
  rw [hcs] at hc bad good
  unfold zK at hc
  simp only at hc bad good
  by_cases h5:512<s.length
  ·have d0:decide ((512:Int)<(s.length:Int))=true:=κ
   have hh:=bad (if_pos h5)
   clear hcs hs bad good h5 hrl
   exact γR1 hc func70 ntmps70 results70 hh
  have d0:decide ((512:Int)<(s.length:Int))=false:=κ
  rw [if_neg h5] at bad good
  by_cases k02:k=[48]∨k=[50]
  ·rw [if_pos k02] at bad good
   have ht:=fun S'=>Dy w0 S' r ω
   have hk:(k==[48])=true∨((k==[48])=false∧(k==[50])=true):=by
    rcases k02 with rfl|rfl
    ·left;rfl
    ·right;exact⟨rfl,rfl⟩
   cases htb:gG r with
   | true =>
    rw [htb] at ht
    have hh:=good 44 0 0 0 0 r (if_pos htb)
    clear hcs hs bad good h5 hrl k02 htb
    rcases hk with d1|⟨d1,d2⟩
    all_goals
     exact γR2 hc ht func70 ntmps70 results70 hh
   | false =>
    rw [htb] at ht
    have hh:=bad (if_neg (by rw [htb];decide))
    clear hcs hs bad good h5 hrl k02 htb
    rcases hk with d1|⟨d1,d2⟩
    all_goals
     exact γR2 hc ht func70 ntmps70 results70 hh
  have d1:(k==[48])=false:=by rw [beq_eq_false_iff_ne];exact fun e=>k02 (.inl e)
  have d2:(k==[50])=false:=by rw [beq_eq_false_iff_ne];exact fun e=>k02 (.inr e)
  rw [if_neg k02] at bad good
  have hc2:=fun S'=>L8 w0 S' r ω
  by_cases k4:k=[52]
  ·have d3:(k==[52])=true:=by rw [k4];rfl
   rw [if_pos k4] at bad good
   cases hcr:iy r with
   | none =>
    rw [hcr] at hc2 bad
    unfold zK at hc2
    have hcol:=fun S'=>AB w0 S' []
    have hcol:∀ S' (R:Rt),R (.ret (.tup [.agg [.int .i64 0,.int .i64 0],.int .i64 6])) S'→ao prog w0 130 [.str []] S' R:=hcol
    have hh:=bad rfl
    clear hcs hs bad good h5 hrl k02 k4 hcr
    exact γR3 hc hc2 hcol func70 ntmps70 results70 hh
   | some q2 =>
    obtain⟨u,t⟩:=q2
    rw [hcr] at hc2 bad good
    unfold zK at hc2
    simp only at hc2 bad good
    have hcol:=fun S'=>AB w0 S' t
    have hnum:=fun S'=>Gn w0 S' u
    unfold Ea at hnum
    cases hn:mR u with
    | none =>
     rw [hn] at hnum bad
     simp only at hnum
     have hh:=bad (by cases iW t<;>rfl)
     clear hcs hs bad good h5 hrl k02 k4 hcr hn
     cases hct:iW t with
     | none =>
      rw [hct] at hcol
      unfold ER at hcol
      clear hct
      exact γR4 hc hc2 hcol hnum func70 ntmps70 results70 hh
     | some c =>
      rw [hct] at hcol
      unfold ER at hcol
      clear hct
      exact γR4 hc hc2 hcol hnum func70 ntmps70 results70 hh
    | some n =>
     rw [hn] at hnum bad good
     simp only at hnum
     have d4:decide ((0:Int)≤(n:Int))=true:=χ
     cases hct:iW t with
     | none =>
      rw [hct] at hcol bad
      unfold ER at hcol
      have hh:=bad rfl
      clear hcs hs bad good h5 hrl k02 k4 hcr hn hct
      exact γR4 hc hc2 hcol hnum func70 ntmps70 results70 hh
     | some c =>
      rw [hct] at hcol good
      unfold ER at hcol
      have hh:=good 45 n 0 2 c [] rfl
      clear hcs hs bad good h5 hrl k02 k4 hcr hn hct
      refine eN func70 rfl ntmps70 fun hO=>?_
      repeat' first|refine st ?_|(refine ca ?_;first|apply hc|apply hc2|apply hcol|apply hnum)|(refine br ?_ ?_<;>intro hb)|refine sd ?_|apply aw|(apply aF;(· decide +kernel))|refine bd ?_ ?_|(refine cd ?_;first|apply hc|apply hc2|apply hcol|apply hnum)|fail
      refine fR results70 ?_
      exact hh
  have d3:(k==[52])=false:=by rw [beq_eq_false_iff_ne];exact k4
  rw [if_neg k4] at bad good
  by_cases k5:k=[53,50]
  ·have d4:(k==[53,50])=true:=by rw [k5];rfl
   rw [if_pos k5] at bad good
   cases hcr:iy r with
   | none =>
    rw [hcr] at hc2 bad
    unfold zK at hc2
    have hdec:=fun S'=>AA w0 S' [] χ
    have hdec:∀ S' (R:Rt),R (.ret (.tup [.str [],.int .i64 0])) S'→ao prog w0 132 [.str []] S' R:=hdec
    have hh:=bad rfl
    clear hcs hs bad good h5 hrl k02 k4 k5 hcr
    exact γR3 hc hc2 hdec func70 ntmps70 results70 hh
   | some q2 =>
    obtain⟨u,t⟩:=q2
    have htl:=(pC hcr).2
    rw [hcr] at hc2 bad good
    unfold zK at hc2
    simp only at hc2 bad good
    have hdec:=fun S'=>AA w0 S' t ω
    rw [← x9] at hdec
    by_cases hu:u=[99]
    ·have d5:(u==[99])=true:=by rw [hu];rfl
     rw [if_pos hu] at bad good
     cases hdt:qv t with
     | none =>
      rw [hdt] at hdec bad
      unfold Dv at hdec
      have hh:=bad rfl
      clear hcs hs bad good h5 hrl k02 k4 k5 hcr htl hu hdt
      exact γR3 hc hc2 hdec func70 ntmps70 results70 hh
     | some c =>
      rw [hdt] at hdec bad good
      unfold Dv at hdec
      simp only at bad good
      by_cases hcl:c.length≤378
      ·have d6:decide ((c.length:Int)≤378)=true:=κ
       have hh:=good 46 0 0 0 0 c (if_pos hcl)
       clear hcs hs bad good h5 hrl k02 k4 k5 hcr htl hu hdt hcl
       exact γR3 hc hc2 hdec func70 ntmps70 results70 hh
      ·have d6:decide ((c.length:Int)≤378)=false:=κ
       have hh:=bad (if_neg hcl)
       clear hcs hs bad good h5 hrl k02 k4 k5 hcr htl hu hdt hcl
       exact γR3 hc hc2 hdec func70 ntmps70 results70 hh
    ·have d5:(u==[99])=false:=by rw [beq_eq_false_iff_ne];exact hu
     have hh:=bad (if_neg hu)
     clear hcs hs bad good h5 hrl k02 k4 k5 hcr htl hu
     cases hdt:qv t with
     | none =>
      rw [hdt] at hdec
      unfold Dv at hdec
      clear hdt
      exact γR3 hc hc2 hdec func70 ntmps70 results70 hh
     | some c =>
      rw [hdt] at hdec
      unfold Dv at hdec
      clear hdt
      exact γR3 hc hc2 hdec func70 ntmps70 results70 hh
  ·have d4:(k==[53,50])=false:=by rw [beq_eq_false_iff_ne];exact k5
   have hh:=bad (if_neg k5)
   clear hcs hs bad good h5 hrl k02 k4 k5
   exact γR1 hc func70 ntmps70 results70 hh
def MM(n:Nat):List UInt8:=if n<10 then [az (48+n)] else if n<100 then [az (48+n / 10),az (48+n % 10)] else [az (48+n / 10 / 10),az (48+n / 10 % 10),az (48+n % 10)]
theorem Eo:∀ n:Nat,n<256→gD (n:Int)=MM n:=by decide +kernel
theorem Az(n:Nat)(hn:n<10)(R:Rt)(h:R (.ret (.str [az (48+n)])) S):ao prog w0 92 [.int .i64 n] S R:=by
 have d1:decide ((n:Int)<10)=true:=κ
 have k1:ae.wrap (48+(n:Int))=((48+n:Nat):Int):=by rw [ai _ ω];omega
 have k2:a6.wrap ((48+n:Nat):Int)=((48+n:Nat):Int):=cR _ ω
 clear hn
 exact γR0 func92 ntmps92 results92 h
theorem I_(n:Nat)(h1:10≤n)(hn:n<100)(R:Rt)(h:R (.ret (.str [az (48+n / 10),az (48+n % 10)])) S):ao prog w0 92 [.int .i64 n] S R:=by
 have d1:decide ((n:Int)<10)=false:=κ
 have k1:ae.wrap ((n:Int).tdiv 10)=((n / 10:Nat):Int):=Bm n 10 ω
 have k2:(n:Int).tmod 10=((n % 10:Nat):Int):=wH n 10
 have c1:=fun S'=>Az w0 S' (n / 10) ω
 have c2:=fun S'=>Az w0 S' (n % 10) ω
 clear h1 hn
 exact γR2 c1 c2 func92 ntmps92 results92 h
theorem ND(n:Nat)(hn:n<256)(R:Rt)(h:R (.ret (.str (gD (n:Int)))) S):ao prog w0 92 [.int .i64 n] S R:=by
 rw [Eo n hn] at h
 unfold MM at h
 by_cases h1:n<10
 ·rw [if_pos h1] at h;exact Az w0 S n h1 R h
 rw [if_neg h1] at h
 by_cases h2:n<100
 ·rw [if_pos h2] at h;exact I_ w0 S n ω h2 R h
 rw [if_neg h2] at h
 have d1:decide ((n:Int)<10)=false:=κ
 have k1:ae.wrap ((n:Int).tdiv 10)=((n / 10:Nat):Int):=Bm n 10 ω
 have k2:(n:Int).tmod 10=((n % 10:Nat):Int):=wH n 10
 have c1:=fun S'=>I_ w0 S' (n / 10) ω ω
 have c2:=fun S'=>Az w0 S' (n % 10) ω
 clear h1 h2 hn
 exact γR2 c1 c2 func92 ntmps92 results92 h
def sm:Option (List UInt8)→AV
 | some s=>.tup [.str s,.int .i64 0]
 | none=>.tup [.str [],.int .i64 2]
theorem J5(a:Ac)(hs:a.text.length≤10000)(R:Rt)(h:R (.ret (sm (cU a))) S):ao prog w0 43 [a.av] S R:=by
 have bad:cU a=none→R (.ret (.tup [.str [],.int .i64 2])) S:=fun e=>by rw [e] at h;exact h
 have good:∀ s,cU a=some s→R (.ret (.tup [.str s,.int .i64 0])) S:=fun s e=>by rw [e] at h;exact h
 clear h
 obtain⟨k,n,m,ck,cn,t⟩:=a
 unfold Ac.av
 simp only at hs ⊢
 have hk:k=44∨k=45∨k=46∨(k≠44∧k≠45∧k≠46):=ω
 rcases hk with rfl|rfl|rfl|⟨k1,k2,k3⟩
 ·by_cases hz:n=0∧m=0∧ck=0∧cn=0
  ·obtain⟨rfl,rfl,rfl,rfl⟩:=hz
   have ht:=fun S'=>Dy w0 S' t ω
   have hl:2+t.length≤9223372036854775807:=ω
   cases htb:gG t with
   | true =>
    rw [htb] at ht
    have hh:=good (50::59::t) (by unfold cU;rw [if_pos ⟨rfl,htb⟩])
    clear bad good htb hs
    exact γR1 ht func43 ntmps43 results43 hh
   | false =>
    rw [htb] at ht
    have hh:=bad (by unfold cU;rw [if_neg (by simp [htb]),if_neg χ,if_neg χ])
    clear bad good htb hs
    exact γR1 ht func43 ntmps43 results43 hh
  ·have e1:(n==0&&(m==0&&(ck==0&&cn==0)))=false:=by
    rw [tH];intro e;simp at e;exact hz e
   have hh:=bad (by unfold cU;rw [if_neg κ,if_neg χ,if_neg χ])
   clear bad good hz hs
   exact γR0 func43 ntmps43 results43 hh
 ·by_cases hz:m=0∧t=[]
  ·obtain⟨rfl,rfl⟩:=hz
   by_cases hn1:0≤n
   ·have d1:decide (0≤n)=true:=decide_eq_true hn1
    by_cases hn2:n≤255
    ·have d2:decide (n≤255)=true:=decide_eq_true hn2
     by_cases hck:ck=2
     ·subst hck
      by_cases hcn:0≤cn∧cn≤16777215
      ·obtain⟨nn,rfl⟩:∃ nn:Nat,n=nn:=⟨n.toNat,ω⟩
       obtain⟨cc,rfl⟩:∃ cc:Nat,cn=cc:=⟨cn.toNat,ω⟩
       have ht:=fun S'=>Gl w0 S' cc ω
       have hd:=fun S'=>ND w0 S' nn ω
       have hh:=good (52::59::(gD (nn:Int)++59::kH cc)) (by unfold cU;rw [if_neg χ,if_pos ⟨rfl,⟨hn1,hn2⟩,hcn⟩];rfl)
       obtain⟨_,hil,_⟩:=sJ nn ω
       have hrl:(kH cc).length=12:=rfl
       generalize gD (nn:Int)=x at hd hh hil
       generalize kH cc=y at ht hh hrl
       have hadd:∀ q:Nat,q≤50→q+x.length≤9223372036854775807:=fun q hq=>ω
       have ha2:([52,59]++x).length+1≤9223372036854775807:=κ
       have ha3:([52,59]++x++[59]).length+y.length≤9223372036854775807:=κ
       have hy:x.length+1+1+1≤9223372036854775807:=ω
       have hy2:(x++[59]).length≤9223372036854775793:=κ
       have hya:x++[59]++y=x++59::y:=χ
       clear bad good hs hn1 hn2 hcn
       exact γR2 ht hd func43 ntmps43 results43 hh
      ·have ht:=fun S'=>Dz w0 S' cn hcn
       have hh:=bad (by unfold cU;rw [if_neg χ,if_neg κ,if_neg χ])
       clear bad good hs hn1 hn2 hcn
       exact γR1 ht func43 ntmps43 results43 hh
     ·have d3:(ck==2)=false:=by rw [beq_eq_false_iff_ne];exact hck
      have hh:=bad (by unfold cU;rw [if_neg χ,if_neg κ,if_neg χ])
      clear bad good hs hn1 hn2 hck
      exact γR0 func43 ntmps43 results43 hh
    ·have d2:decide (n≤255)=false:=decide_eq_false hn2
     have hh:=bad (by unfold cU;rw [if_neg χ,if_neg κ,if_neg χ])
     clear bad good hs hn1 hn2
     exact γR0 func43 ntmps43 results43 hh
   ·have d1:decide (0≤n)=false:=decide_eq_false hn1
    have hh:=bad (by unfold cU;rw [if_neg χ,if_neg κ,if_neg χ])
    clear bad good hs hn1
    exact γR0 func43 ntmps43 results43 hh
  ·have e1:(m==0&&t==[])=false:=by
    rw [tH];intro e;simp at e;exact hz e
   have hh:=bad (by unfold cU;rw [if_neg χ,if_neg (by simp;intro q1 q2 q3;exact absurd ⟨q1,q3⟩ hz),if_neg χ])
   clear bad good hz hs
   exact γR0 func43 ntmps43 results43 hh
 ·by_cases hz:n=0∧m=0∧ck=0∧cn=0
  ·obtain⟨rfl,rfl,rfl,rfl⟩:=hz
   by_cases hl:t.length≤378
   ·have d1:decide ((t.length:Int)≤378)=true:=κ
    have ht:=fun S'=>Gp w0 S' t ω
    have hel:=x6 t
    have hh:=good (53::50::59::99::59::iw t) (by unfold cU;rw [if_neg χ,if_neg χ,if_pos ⟨rfl,hl⟩])
    generalize iw t=x at ht hh hel
    have hadd:∀ q:Nat,q≤50→q+x.length≤9223372036854775807:=fun q hq=>ω
    clear bad good hs hl hel
    exact γR1 ht func43 ntmps43 results43 hh
   ·have d1:decide ((t.length:Int)≤378)=false:=κ
    have hh:=bad (by unfold cU;rw [if_neg χ,if_neg χ,if_neg κ])
    clear bad good hs hl
    exact γR0 func43 ntmps43 results43 hh
  ·have e1:(n==0&&(m==0&&(ck==0&&cn==0)))=false:=by
    rw [tH];intro e;simp at e;exact hz e
   have hh:=bad (by unfold cU;rw [if_neg χ,if_neg χ,if_neg κ])
   clear bad good hz hs
   exact γR0 func43 ntmps43 results43 hh
 ·have d1:(k==44)=false:=by rw [beq_eq_false_iff_ne];exact k1
  have d2:(k==45)=false:=by rw [beq_eq_false_iff_ne];exact k2
  have d3:(k==46)=false:=by rw [beq_eq_false_iff_ne];exact k3
  have hh:=bad (by unfold cU;rw [if_neg (by simp [k1]),if_neg (by simp [k2]),if_neg (by simp [k3])])
  clear bad good k1 k2 k3 hs
  exact γR0 func43 ntmps43 results43 hh
def bE:AV:=.ifc 170 (.agg [])
theorem lM(R:Rt)(h:R (.ret (.tup [])) S):ao prog w0 52 [.bool true] S R:=by
 refine eN func52 rfl ntmps52 fun hO=>?_
 refine ε0 ?_
 refine fE results52 ?_
 exact h
theorem lN(R:Rt)(h:R (.panic bE) S):ao prog w0 52 [.bool false] S R:=by
 refine eN func52 rfl ntmps52 fun hO=>?_
 refine ε0 ?_
 refine fP ?_
 exact h
theorem sQ(k n m ck cn:Int)(t:List UInt8)(k2 n2 m2 Lr cn2:Int)(t2:List UInt8):(k==k2&&(n==n2&&(m==m2&&((ck==Lr&&cn==cn2)&&t==t2))))=decide ((⟨k,n,m,ck,cn,t⟩:Ac)=⟨k2,n2,m2,Lr,cn2,t2⟩):=by
 rw [eU]
 simp [and_assoc]
theorem vP(a b:Ac)(hab:a=b)(R:Rt)(h:R (.ret (.tup [])) S):ao prog w0 112 [a.av,b.av] S R:=by
 have hm:=lM w0
 obtain⟨k,n,m,ck,cn,t⟩:=a
 obtain⟨k2,n2,m2,Lr,cn2,t2⟩:=b
 have e:=sQ k n m ck cn t k2 n2 m2 Lr cn2 t2
 rw [decide_eq_true hab] at e
 unfold Ac.av
 simp only
 clear hab
 refine eN func112 rfl ntmps112 fun hO=>?_
 refine ε1 hm ?_
 refine fE results112 ?_
 exact h
theorem vQ(a b:Ac)(hab:a≠b)(R:Rt)(h:R (.panic bE) S):ao prog w0 112 [a.av,b.av] S R:=by
 have hm:=lN w0
 obtain⟨k,n,m,ck,cn,t⟩:=a
 obtain⟨k2,n2,m2,Lr,cn2,t2⟩:=b
 have e:=sQ k n m ck cn t k2 n2 m2 Lr cn2 t2
 rw [decide_eq_false hab] at e
 unfold Ac.av
 simp only
 unfold bE at hm h
 clear hab
 refine eN func112 rfl ntmps112 fun hO=>?_
 refine ε1 hm ?_
 refine fP ?_
 exact h
end Go.Proofs.YthdbijpefkapnaaGreatDoor
