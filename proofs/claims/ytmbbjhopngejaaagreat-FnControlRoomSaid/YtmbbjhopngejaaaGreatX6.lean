/- What functions compute. No condition. -/
import Derived.Test.YtmbbjhopngejaaaGreatX5
set_option linter.all false
open Go.Vm.V renaming int → Za, str → Ze
open Nat renaming cast → Zb
open List renaming map_append → Zc, map → Zf
open Array renaming replicate → Zd
namespace Go.Proofs.YtmbbjhopngejaaaGreat
open Go Go.Vm Tryz
set_option maxHeartbeats 8000000
theorem g1z {l:List Int} {x:Int}:l.map (Za .i64)++[Za .i64 x]=(l++[x]).map (Za .i64):=by simp only [aQ,fQ,Zc];try rfl
theorem g0s (fl:List TA) (ts:List Int):c2y (fun a b=>g22 (c7u fl ts a) (c7u fl ts b))=b53 fl ts:=by
  funext a b
  rw [c2y,b53];refine decide_eq_decide.2 ?_;unfold g22
  by_cases h:c7u fl ts a < c7u fl ts b
  · simp [h]
  · simp only [h,if_false,iff_false]
    split<;>omega
def g3h (fl:List TA) (ts:List Int):List Int:=fl.map fun a=>Tm.at_ ts a.2.2.1.toNat
theorem d8p {fl:List TA} {ts:List Int} {x:TA} {w:Nat} {p:Int} (hw:x.2.2.1=(w:Int)) (hp:ts[w]? =some p):b8l fl ts x=(b19 x && decide (0≤p)):=by
  rw [b8l,hw,qlh,Tm.at_get hp]
theorem c9u {fl:List TA} {ts:List Int} {k:Nat} {x:TA} {w:Nat} {p:Int} (hx:fl[k]? =some x) (hw:x.2.2.1=(w:Int)) (hp:ts[w]? =some p):c7u fl ts (k:Int)=p:=by
  rw [c7u,qlh,hx];simp only [hw,Int.toNat_natCast,Tm.at_get hp]
set_option maxRecDepth 8000 in
theorem c9a (fl:List TA) (ts:List Int) (a b:Int) (ha:∃(k:Nat) (x:TA) (w:Nat),a=(k:Int)∧fl[k]? =some x∧x.2.2.1=(w:Int)∧w < ts.length) (hb:∃(k:Nat) (x:TA) (w:Nat),b=(k:Int)∧fl[k]? =some x∧x.2.2.1=(w:Int)∧w < ts.length):Con prog 162 [.int .i64 a,.int .i64 b,.pv [.sl (ts.map (Za .i64))] 0 0,.pv [sQ rQa fl] 0 0] [] (.int .i64 (g22 (c7u fl ts a) (c7u fl ts b))) []:=by
 obtain ⟨k1,⟨x0,x1,x2,x3,x4⟩,u,rfl,hx,haw,hal⟩:=ha;simp only [] at haw;subst haw;obtain ⟨p,hp⟩:∃p,ts[u]? =some p:=⟨_,qla hal⟩;have hk1l:k1 < fl.length:=(qlc.1 hx).1;have ek1:=c9u (ts:=ts) hx rfl hp;obtain ⟨k2,⟨y0,y1,y2,y3,y4⟩,v,rfl,hy,hbw,hbl⟩:=hb;simp only [] at hbw;subst hbw;obtain ⟨q,hq⟩:∃p,ts[v]? =some p:=⟨_,qla hbl⟩;have hk2l:k2 < fl.length:=(qlc.1 hy).1;have ek2:=c9u (ts:=ts) hy rfl hq;rw [ek1,ek2];apply zcn [.tmp 6] [] func162 ntmps162;intro _ _ _;have T:=tq5 Y3 Y9 Y28 Y41 Y98;have F:=Fc.mk True.intro;have F:=fq4 (gdm hx) (gdm hy) (gdm hp) (gdm hq);apply yR [0,1,2,3];apply b0e;intro _ n2 _ _;apply b1b (by kernel_rfl);intro _ q3 k3;show b13 _ _ _ _ 18 (Zd 18 false) _;refine b08 q3 true 0 7 ?_;refine b08 q3 true 1 8 ?_;refine zdU q3 true 2 9 ?_;refine b0z q3 true 3 10 ?_;refine zdU q3 true 4 11 ?_;refine b08 q3 true 5 12 ?_;refine b0z q3 true 6 13 ?_;refine b08 q3 true 7 14 ?_;refine b08 q3 true 8 15 ?_;refine b08 q3 true 9 16 ?_;refine zdU q3 true 10 17 ?_;refine b0z q3 true 11 18 ?_;refine zdU q3 true 12 19 ?_;refine b08 q3 true 13 20 ?_;refine b0z q3 true 14 21 ?_;refine b08 q3 true 15 22 ?_;apply zoc 16 (c50 p q);apply b0q 17;apply b0b (by kernel_rfl);apply k3 _;apply n2 _ _ (b0a [6] _);apply (zq1);exact b0h rfl rfl (.inl rfl)
set_option maxRecDepth 8000 in
theorem readyOrder_con (n:Int) (ss:List TS) (fl:List TA) (node:Int) (hd:DsFacts n ss fl) (hu:0≤node∧node < n):Con prog 140 [.pv [tQ n ss] 0 0,sQ rQa fl,.int .i64 node] [] (.ref 0) [.arr ((b7m fl (tmL n ss node)).map (Za .i64)) .flat]:=by
 have hfl:=hd.hfl;obtain ⟨ts,hts⟩:∃ts,ts=tmL n ss node:=⟨_,rfl⟩;have htl:ts.length=n.toNat:=by rw [hts,c49]
 have htb:=c8a hd.hn hu hd.hss hd.hsl;rw [←hts] at htb⊢;have hn14:=hd.hn;have hvalid:∀{a:Int},a∈b2k fl ts fl.length→∃(k:Nat) (x:TA) (w:Nat),a=(k:Int)∧fl[k]? =some x∧x.2.2.1=(w:Int)∧w < ts.length:=by
  intro a ha;obtain ⟨k,x,h1,h2,h3,_⟩:=c0f fl ts _ a ha;have hap:=hd.hap _ (qlb h3);obtain ⟨w,hw⟩:=qlw hap.2.1;exact ⟨k,x,w,h1,h3,hw,by rw [htl];omega⟩
 have hrl:=c0b fl ts fl.length;apply zcn [.tmp 6] [(161,[0])] func140 ntmps140;intro _ _ _;have T:=g1m Y3 Y4 Y9 Y24 Y26 Y28 Y41 Y69 Y98 b7w;have F:=Fc.mk True.intro;apply yR [0,2,4];apply b0e;intro _ n2 _ _;apply yVc ((hts ▸ f1v n ss node hd.hn hu hd.hss hd.hsl:Con _ _ _ _ _ [.arr (ts.map (Za .i64)) .flat]));apply n2
 ·apply b0m (b0a [4,7] _);simp only [b0r,b0k,b0i,b0f,b0n,Nat.reduceEqDiff,reduceIte];exact b0m (d6v 4 2 (ts.map (Za .i64)) .flat rfl rfl (.inl rfl) (by decide)) c8s
 try simp only [b04,b09,Nat.reduceEqDiff,reduceIte,List.set_cons_zero,List.set_cons_succ]
 apply yR [4,7,8];apply b0e;intros;apply yR [4,7,8,14,15,16];apply b0g;intros;apply b05 (fun i=>⟨[(4,.ptr 0 0 0),(7,.ptr 1 0 0),(8,.ref 2),(14,sQ rQa fl),(15,.int .i64 fl.length),(16,.int .i64 (Zb i))],[.box (sQ rQa fl) .shal,.box (.sl (ts.map (Za .i64))) .deep,.arr ((b2k fl ts i).map (Za .i64)) .flat],true,40,0⟩) (fun i=>i≤fl.length) (fun i=>fl.length - i) 0
 ·apply b0d [4,7,8,14,15,16] [0,4,5];rfl
 ·exact qle _
 ·rintro i hok8 Q8 n8 e8 r8;have hi1:i≤fl.length:=hok8;apply yR [4,7,8,14,15,16,17];apply b0e;intros;apply b0c _ rfl
  ·intro hc0;have hlt:i < fl.length:=by omega
   obtain ⟨⟨x0,x1,x2,x3,x4⟩,hx⟩:∃x:TA,fl[i]? =some x:=⟨fl[i]'(by omega),qla (by omega)⟩;have hap:=hd.hap _ (qlb hx);simp only [] at hap;obtain ⟨w,hw⟩:=qlw hap.2.1;subst hw;obtain ⟨p,hp⟩:∃p,ts[w]? =some p:=⟨_,qla (by rw [htl];omega)⟩;have hwl:w < ts.length:=by rw [htl];omega
   have hpb:=htb w;rw [Tm.at_get hp] at hpb;have hrp:=d8p (fl:=fl) (x:=(x0,x1,(w:Int),x3,x4)) rfl hp;have hst:=d03 (ts:=ts) hx;have hrl2:=c0b fl ts i;have hki:=c9u (ts:=ts) hx rfl hp;apply zn [4,7,8,14,15,16];apply b0e;intros;apply b0g;intros;have F:=fq2 (gdm hx) (gdm hp);apply yR [4,7,8,9,10,14,15,16];apply yRc [4,7,8,9,14,15,16,30] (c1w x0 x1 (w:Int) x3 x4 hap.1);apply b0c _ rfl
   ·intro hc1;have hr1:b8l fl ts (x0,x1,(w:Int),x3,x4)=true:=by rw [hrp];simpa using hc1
    apply yQ [4,7,8,14,15,16];apply (yV);apply n8 _ (i+1)
    ·apply b0d [4,7,8,14,15,16] [0,1,5];rw [hst,if_pos hr1];simp only [aQ,fQ,Zc];try rfl
    ·exact hlt
    ·show _ < _;omega
   ·intro hc1;have hr1:¬b8l fl ts (x0,x1,(w:Int),x3,x4)=true:=by rw [hrp];simpa using hc1
    apply zn [4,7,8,14,15,16];apply (yV);apply n8 _ (i+1)
    ·apply b0d [4,7,8,14,15,16] [0,1,2];rw [hst,if_neg hr1];rfl
    ·exact hlt
    ·show _ < _;omega
  ·intro hc0;have hend:i=fl.length:=by omega
   subst hend;apply zn [4,7,8];apply yRl [8] (d0y (b2k fl ts fl.length) _ _ (fun a b=>g22 (c7u fl ts a) (c7u fl ts b)) (by omega) (.pv _ (.pv _ .nil)) (fun ha hb=>c9a fl ts _ _ (hvalid ha) (hvalid hb)));apply yR [6];apply (zr);exact b1q rfl rfl (by rw [g0s];rfl)
theorem f4i {fl:List TA} {ts:List Int} {i:Nat} {x:TA} (h:fl[i]? =some x):g3h (fl.take (i+1)) ts=g3h (fl.take i) ts++[Tm.at_ ts x.2.2.1.toNat]:=by
  rw [g3h,qlx,h,Option.toList];simp only [aQ,fQ,Zc];try rfl
theorem f8g (fl:List TA) (ts:List Int):(g3h fl ts).length=fl.length:=by rw [g3h,qlu]
theorem f2u {lt:Int→Int→Bool} {p:List Int} {x:Int} {j:Nat} (h:b9d lt x p p.length=j):g3g lt p x=p.take j++x::p.drop j:=by rw [g3g,h]
theorem c5m (l:List Int) (hl:l.length≤1048576):Con prog 53 [.sl (l.map (Za .i64))] [] (.ref 0) [.arr (l.map (Za .i64)) .flat]:=by
 have hns:(l.map (Za .i64)).all V.noSl=true:=by rw [qmp,qlk];intro _ _;rfl
 apply zcn [.tmp 2] [] func53 ntmps53;intro _ _ _;have T:=tq2 Y3 Y41;have F:=Fc.mk True.intro;have F:=Fc.mk hns;apply yR [0];apply yR [2];apply (zr);exact b1q rfl rfl (by simp)
set_option maxRecDepth 8000 in
theorem dsReady_con (n:Int) (ss:List TS) (fl:List TA) (node:Int) (hd:DsFacts n ss fl) (hu:0≤node∧node < n):Con prog 150 [tQ n ss,sQ rQa fl,.int .i64 node] [] (.tup [.ref 0,.ref 1]) [.arr ((b7m fl (tmL n ss node)).map (Za .i64)) .flat,.arr ((g3h fl (tmL n ss node)).map (Za .i64)) .flat]:=by
 have hfl:=hd.hfl;obtain ⟨ts,hts⟩:∃ts,ts=tmL n ss node:=⟨_,rfl⟩;have htl:ts.length=n.toNat:=by rw [hts,c49]
 have htb:=c8a hd.hn hu hd.hss hd.hsl;rw [←hts] at htb⊢;have hn14:=hd.hn;have hvalid:∀{a:Int},a∈b2k fl ts fl.length→∃(k:Nat) (x:TA) (w:Nat),a=(k:Int)∧fl[k]? =some x∧x.2.2.1=(w:Int)∧w < ts.length:=by
  intro a ha;obtain ⟨k,x,h1,h2,h3,_⟩:=c0f fl ts _ a ha;have hap:=hd.hap _ (qlb h3);obtain ⟨w,hw⟩:=qlw hap.2.1;exact ⟨k,x,w,h1,h3,hw,by rw [htl];omega⟩
 have hrl:=c0b fl ts fl.length;apply zcn [.tmp 6,.tmp 7] [] func150 ntmps150;intro _ _ _;have T:=tq9 Y3 Y4 Y9 Y24 Y26 Y28 Y41 Y98 b7w;have F:=Fc.mk True.intro;apply yR [1,2,3];apply yRc [1,8] ((hts ▸ d6x n ss node hd.hn hu hd.hss hd.hsl:Con _ _ _ _ _ [.arr (ts.map (Za .i64)) .flat]));apply yR [1,8,9,10];apply b0e;intros;apply yR [1,8,9,10,17,18,19];apply b0g;intros;apply b05 (fun i=>⟨[(1,sQ rQa fl),(8,.ref 0),(9,.ref 1),(10,.ref 2),(17,sQ rQa fl),(18,.int .i64 fl.length),(19,.int .i64 (Zb i))],[.arr (ts.map (Za .i64)) .flat,.arr ((b3m (b53 fl ts) (b2k fl ts i)).map (Za .i64)) .flat,.arr ((g3h (fl.take i) ts).map (Za .i64)) .flat],false,83,0⟩) (fun i=>i≤fl.length) (fun i=>fl.length - i) 0
 ·apply b0d [1,8,9,10,17,18,19] [3,4,5];rfl
 ·exact qle _
 ·rintro i hok7 Q7 n7 e7 r7;have hi1:i≤fl.length:=hok7;apply yR [1,8,9,10,17,18,19,20];apply b0e;intros;apply b0c _ rfl
  ·intro hc0;have hlt:i < fl.length:=by omega
   obtain ⟨⟨x0,x1,x2,x3,x4⟩,hx⟩:∃x:TA,fl[i]? =some x:=⟨fl[i]'(by omega),qla (by omega)⟩;have hap:=hd.hap _ (qlb hx);simp only [] at hap;obtain ⟨w,hw⟩:=qlw hap.2.1;subst hw;obtain ⟨p,hp⟩:∃p,ts[w]? =some p:=⟨_,qla (by rw [htl];omega)⟩;have hwl:w < ts.length:=by rw [htl];omega
   have hpb:=htb w;rw [Tm.at_get hp] at hpb;have hrp:=d8p (fl:=fl) (x:=(x0,x1,(w:Int),x3,x4)) rfl hp;have hst:=d03 (ts:=ts) hx;have hrl2:=c0b fl ts i;have hki:=c9u (ts:=ts) hx rfl hp;have hal:=f4i (ts:=ts) hx;simp only [Int.toNat_natCast,Tm.at_get hp] at hal;have hall:=f8g (fl.take i) ts;have hlti:(fl.take i).length=i:=by rw [qlj];omega
   have hpl:=d0l (b53 fl ts) (b2k fl ts i);apply zn [1,8,9,10,17,18,19];apply b0e;intro _ n11 _ _;apply b0g;intro _ n12 _ _ _;have F:=fq2 (gdm hx) (gdm hp);apply yR [1,8,9,10,11,12,17,18,19];apply yR [1,8,9,10,11,12,17,18,19];apply b0e;intros;apply yRc [1,8,9,10,11,12,17,18,19,42] (c9q x0 x1 (w:Int) x3 x4 hap.1);apply b0c _ rfl
   ·intro hc1;have hr1:¬b8l fl ts (x0,x1,(w:Int),x3,x4)=true:=by
     rw [hrp];intro h;simp only [Bool.and_eq_true,decide_eq_true_eq] at h;first
     |(rcases hc1 with q | q;· (rw [h.1] at q;cases q);· omega)
     |(simp [h.1] at hc1;omega)
     |(have:=hc1 h.1;omega)
    apply zn [1,8,9,10,17,18,19];apply (yV);apply n7 _ (i+1)
    ·apply b0d [1,8,9,10,17,18,19] [0,1,5];rw [hst,if_neg hr1,hal];simp only [aQ,fQ,Zc];try rfl
    ·exact hlt
    ·show _ < _;omega
   ·intro hc1;have hr1:b8l fl ts (x0,x1,(w:Int),x3,x4)=true:=by rw [hrp];simpa using hc1
    apply zn [1,8,9,10,11,12,17,18,19];apply yR [1,8,9,10,11,12,13,17,18,19];apply b4r (A:=Nat) (fun e1=>⟨[(1,sQ rQa fl),(8,.ref 0),(9,.ref 1),(10,.ref 3),(11,.int .i64 (Zb i)),(13,.int .i64 (Zb e1)),(17,sQ rQa fl),(18,.int .i64 fl.length),(19,.int .i64 (Zb i))],[.arr (ts.map (Za .i64)) .flat,.arr ((b3m (b53 fl ts) (b2k fl ts i)).map (Za .i64)) .flat,.box (.agg [Ze x0,Za .i64 x1,Za .i64 (Zb w),Za .i64 x3,Za .i64 x4]) .flat,.arr ((g3h (fl.take (i+1)) ts).map (Za .i64)) .flat],false,83,0⟩) (fun e1=>e1≤(b3m (b53 fl ts) (b2k fl ts i)).length∧g3g (b53 fl ts) (b3m (b53 fl ts) (b2k fl ts i)) (i:Int)=(b3m (b53 fl ts) (b2k fl ts i)).take e1++(i:Int)::(b3m (b53 fl ts) (b2k fl ts i)).drop e1)
    ·intro _ n20 _ _;apply b0g;intros;apply b05 (fun j=>⟨[(1,sQ rQa fl),(8,.ref 0),(9,.ref 1),(10,.ref 3),(11,.int .i64 (Zb i)),(12,.ptr 2 0 0),(13,.int .i64 (Zb j)),(17,sQ rQa fl),(18,.int .i64 fl.length),(19,.int .i64 (Zb i))],[.arr (ts.map (Za .i64)) .flat,.arr ((b3m (b53 fl ts) (b2k fl ts i)).map (Za .i64)) .flat,.box (.agg [Ze x0,Za .i64 x1,Za .i64 (Zb w),Za .i64 x3,Za .i64 x4]) .flat,.arr ((g3h (fl.take (i+1)) ts).map (Za .i64)) .flat],false,83,0⟩) (fun j=>j≤(b3m (b53 fl ts) (b2k fl ts i)).length∧b9d (b53 fl ts) (i:Int) (b3m (b53 fl ts) (b2k fl ts i)) j=b9d (b53 fl ts) (i:Int) (b3m (b53 fl ts) (b2k fl ts i)) (b3m (b53 fl ts) (b2k fl ts i)).length) (fun j=>j) (b3m (b53 fl ts) (b2k fl ts i)).length
     ·apply b0d [1,8,9,10,11,12,13,17,18,19] [0,1,3,5];rw [hal];simp only [aQ,fQ,Zc];try rfl
     ·exact ⟨qly _,rfl⟩
     ·rintro j hok22 Q22 n22 e22 r22;obtain ⟨hj1,hR2⟩:=hok22;rcases ql8 j with hj00 | hj00
      ·skip;have hj0:¬((0:Int) < (j:Int)):=by omega
       apply b0e;intros;apply b0e;intro _ n24 _ _;apply b1b (by kernel_rfl);intro _ q25 k25;show b13 _ _ _ _ 22 (Zd 22 false) _;have F:=fq5 (gdm hx) (gdm hp) hj0 @decide_false @qmo;refine zdU q25 true 0 45 ?_;refine b2b q25 true 1 46 ?_;refine zdU q25 true 2 47 ?_;refine b1n q25 true 3 48 ?_;refine b1n q25 true 4 49 ?_;refine b1n q25 true 5 50 ?_;refine b1n q25 true 6 51 ?_;refine b2s q25 true 7 52 ?_;refine b0u q25 true 8 53 ?_;refine b0p q25 true 9 54 ?_;refine b0u q25 true 10 55 ?_;refine b1n q25 true 11 56 ?_;refine b0p q25 true 12 57 ?_;refine b0u q25 true 13 58 ?_;refine b0p q25 true 14 59 ?_;refine b1n q25 true 15 60 ?_;refine b1n q25 true 16 61 ?_;refine b0p q25 true 17 62 ?_;refine b0u q25 true 18 63 ?_;refine b0p q25 true 19 64 ?_;refine b0y q25 true 20 65 ?_;refine b1s q25 true 21 66 ?_;apply b0b (by kernel_rfl);apply k25 _;apply n24 _ _ (b0a [1,8,9,10,11,12,13,17,18,19,66] _);apply (zk);apply b2a _ rfl
       ·intro hc2;exfalso;simp [hj0] at hc2
       ·intro hc2;try simp only [zC,reduceCtorEq] at hc2
        apply (zx);apply n20 j _
        ·exact ⟨hj1,f2u (by rw [←hR2,hj00];rfl)⟩
        ·exact b0t [1,8,9,10,11,13,17,18,19] [0,1,2,3]
      ·skip;obtain ⟨m,rfl⟩:∃m,j=m+1:=⟨j - 1,by omega⟩;have hj0:(0:Int) < ((m+1:Nat):Int):=by omega
       obtain ⟨b,hyp⟩:∃y,(b3m (b53 fl ts) (b2k fl ts i))[m]? =some y:=⟨_,qla (by omega)⟩;have hk:(((m+1:Nat):Int) - 1).toNat=m:=by omega
       obtain ⟨kb,xb,hb1,hb2,hb3,_⟩:=c0f fl ts i b (c4s.1 (qlb hyp));have hb:∃(k:Nat) (x:TA) (w:Nat),b=(k:Int)∧fl[k]? =some x∧x.2.2.1=(w:Int)∧w < ts.length:=by
        have hapb:=hd.hap _ (qlb hb3);obtain ⟨v,hv⟩:=qlw hapb.2.1;exact ⟨kb,xb,v,hb1,hb3,hv,by rw [htl];omega⟩
       obtain ⟨k2,⟨y0,y1,y2,y3,y4⟩,v,rfl,hy,hbw,hbl⟩:=hb;simp only [] at hbw;subst hbw;obtain ⟨q,hq⟩:∃p,ts[v]? =some p:=⟨_,qla hbl⟩;have hk2l:k2 < fl.length:=(qlc.1 hy).1;have ek2:=c9u (ts:=ts) hy rfl hq;apply b0e;intros;apply b0e;intro _ n28 _ _;apply b1b (by kernel_rfl);intro _ q29 k29;show b13 _ _ _ _ 22 (Zd 22 false) _;have F:=fq9 (gdm hx) (gdm hp) hj0 @decide_true @qm0 hk (gdm hyp) (gdm hy) (gdm hq);refine zdU q29 true 0 45 ?_;refine b2b q29 true 1 46 ?_;refine zdU q29 true 2 47 ?_;refine b1n q29 true 3 48 ?_;refine b1n q29 true 4 49 ?_;refine b1n q29 true 5 50 ?_;refine b1n q29 true 6 51 ?_;refine b2s q29 true 7 52 ?_;refine b0u q29 true 8 53 ?_;refine b0p q29 true 9 54 ?_;refine b0u q29 true 10 55 ?_;refine b1n q29 true 11 56 ?_;refine b0p q29 true 12 57 ?_;refine b0u q29 true 13 58 ?_;refine b0p q29 true 14 59 ?_;refine b1n q29 true 15 60 ?_;refine b1n q29 true 16 61 ?_;refine b0p q29 true 17 62 ?_;refine b0u q29 true 18 63 ?_;refine b0p q29 true 19 64 ?_;refine b0y q29 true 20 65 ?_;refine b1s q29 true 21 66 ?_;apply b0b (by kernel_rfl);apply k29 _;apply n28 _ _ (b0a [1,8,9,10,11,12,13,17,18,19,66] _);apply (zk);apply b0c _ rfl
       ·intro hc2;have hlc:b53 fl ts (i:Int) (k2:Int)=true:=by rw [b53,hki,ek2];simpa [hj0] using hc2
        apply zn [1,8,9,10,11,12,13,17,18,19];apply b0g;intros;apply (yV);apply n22 _ m
        ·apply b0d [1,8,9,10,11,12,13,17,18,19] [0,1,2,3];rw [show ((m+1:Nat):Int) - 1=(m:Int) by omega]
        ·exact ⟨by omega,by rw [←hR2,d18 hyp hlc]⟩
        ·show m < m+1;omega
       ·intro hc2;apply (zx);apply n20 (m+1) _
        ·exact ⟨hj1,f2u (by rw [←hR2,c8u hyp (by rw [b53,hki,ek2];simpa [hj0] using hc2)])⟩
        ·exact b0t [1,8,9,10,11,13,17,18,19] [0,1,2,3]
    ·rintro e1 hok20;obtain ⟨hj1,hend⟩:=hok20;skip
     ·skip;have htk:((b3m (b53 fl ts) (b2k fl ts i)).take e1).length=e1:=by rw [qlj];omega
      have hcon:=c5m ((b3m (b53 fl ts) (b2k fl ts i)).take e1) (by omega);have hdt:List.take ((b3m (b53 fl ts) (b2k fl ts i)).length - e1) (List.drop e1 (Zf (Za .i64) (b3m (b53 fl ts) (b2k fl ts i))))=Zf (Za .i64) ((b3m (b53 fl ts) (b2k fl ts i)).drop e1):=by rw [←List.map_drop,ql3 (by simp)]
      have hsn:Zf (Za .i64) ((b3m (b53 fl ts) (b2k fl ts i)).take e1)++[Za .i64 (i:Int)]=Zf (Za .i64) ((b3m (b53 fl ts) (b2k fl ts i)).take e1++[(i:Int)]):=g1z;apply b1b (by kernel_rfl);intro _ q33 k33;show b13 _ _ _ _ 12 (Zd 12 false) _;have F:=fq4 (gdm hx) (gdm hp) hdt hsn;refine zdU q33 true 0 69 ?_;refine zdU q33 true 1 70 ?_;refine b6s q33 true 2 71 ?_;refine zdU q33 true 4 73 ?_;refine zdU q33 false 7 76 ?_;refine zdU q33 false 8 77 ?_;apply b5m 3 5 9 rfl rfl rfl (by kernel_rfl)
      ·apply zsc (hcon);apply b1e 5 9 rfl rfl (by kernel_rfl)
       ·apply (b03);apply b1e 6 9 rfl rfl (by kernel_rfl)
        ·apply (b2f);refine b6s q33 true 9 78 ?_;apply b0l 10;apply b0q 11;apply b0b (by kernel_rfl);apply k33 _;apply n12 _;apply n11 _ _ (b0a [1,8,9,10,17,18,19] _);apply (zk);apply (yV);apply n7 _ (i+1)
         ·apply b0d [1,8,9,10,17,18,19] [0,7,3];rw [hst,if_pos hr1,b5o,hend,←qmu,ql5];try rfl
         ·exact hlt
         ·show _ < _;omega
        ·apply (b4b);apply b0l 6;apply b0l 10;apply b0q 11;apply b0b (by kernel_rfl);apply k33 _;apply n12 _;apply n11 _ _ (b0a [1,8,9,10,17,18,19] _);apply (zk);apply (yV);apply n7 _ (i+1)
         ·apply b0d [1,8,9,10,17,18,19] [0,7,3];rw [hst,if_pos hr1,b5o,hend,←qmu,ql5];try rfl
         ·exact hlt
         ·show _ < _;omega
       ·apply (b4b);apply b1j 5;apply b0l 6;apply b0l 10;apply b0q 11;apply b0b (by kernel_rfl);apply k33 _;apply n12 _;apply n11 _ _ (b0a [1,8,9,10,17,18,19] _);apply (zk);apply (yV);apply n7 _ (i+1)
        ·apply b0d [1,8,9,10,17,18,19] [0,7,3];rw [hst,if_pos hr1,b5o,hend,←qmu,ql5];try rfl
        ·exact hlt
        ·show _ < _;omega
      ·apply (b03);apply b1e 3 9 rfl rfl (by kernel_rfl)
       ·apply zsc (hcon);apply b1e 6 9 rfl rfl (by kernel_rfl)
        ·apply (b2f);refine b6s q33 true 9 78 ?_;apply b0l 10;apply b0q 11;apply b0b (by kernel_rfl);apply k33 _;apply n12 _;apply n11 _ _ (b0a [1,8,9,10,17,18,19] _);apply (zk);apply (yV);apply n7 _ (i+1)
         ·apply b0d [1,8,9,10,17,18,19] [0,7,3];rw [hst,if_pos hr1,b5o,hend,←qmu,ql5];try rfl
         ·exact hlt
         ·show _ < _;omega
        ·apply (b4b);apply b0l 6;apply b0l 10;apply b0q 11;apply b0b (by kernel_rfl);apply k33 _;apply n12 _;apply n11 _ _ (b0a [1,8,9,10,17,18,19] _);apply (zk);apply (yV);apply n7 _ (i+1)
         ·apply b0d [1,8,9,10,17,18,19] [0,7,3];rw [hst,if_pos hr1,b5o,hend,←qmu,ql5];try rfl
         ·exact hlt
         ·show _ < _;omega
       ·apply (b4b);apply zoc 3 (hcon);apply b0l 6;apply b0l 10;apply b0q 11;apply b0b (by kernel_rfl);apply k33 _;apply n12 _;apply n11 _ _ (b0a [1,8,9,10,17,18,19] _);apply (zk);apply (yV);apply n7 _ (i+1)
        ·apply b0d [1,8,9,10,17,18,19] [0,7,3];rw [hst,if_pos hr1,b5o,hend,←qmu,ql5];try rfl
        ·exact hlt
        ·show _ < _;omega
      ·apply (b4b);apply b1e 3 5 rfl rfl (by kernel_rfl)
       ·apply zsc (hcon);apply b1j 5;apply b0l 6;apply b0l 10;apply b0q 11;apply b0b (by kernel_rfl);apply k33 _;apply n12 _;apply n11 _ _ (b0a [1,8,9,10,17,18,19] _);apply (zk);apply (yV);apply n7 _ (i+1)
        ·apply b0d [1,8,9,10,17,18,19] [0,7,3];rw [hst,if_pos hr1,b5o,hend,←qmu,ql5];try rfl
        ·exact hlt
        ·show _ < _;omega
       ·apply (b03);apply zoc 3 (hcon);apply b0l 6;apply b0l 10;apply b0q 11;apply b0b (by kernel_rfl);apply k33 _;apply n12 _;apply n11 _ _ (b0a [1,8,9,10,17,18,19] _);apply (zk);apply (yV);apply n7 _ (i+1)
        ·apply b0d [1,8,9,10,17,18,19] [0,7,3];rw [hst,if_pos hr1,b5o,hend,←qmu,ql5];try rfl
        ·exact hlt
        ·show _ < _;omega
  ·intro hc0;have hend:i=fl.length:=by omega
   subst hend;apply zn [9,10];apply yR [6,7];apply (zr);exact d69 [1,2] rfl rfl (by decide) rfl (by simp [b7m]) (by simp [Blk.kindIs]) rfl
def b50 (x:ByteArray):Nat→List ByteArray→Int
  | _,[]=>-1
  | i,y::l=>if x=y then i else b50 x (i+1) l
theorem f3e {x y:ByteArray} {l:List ByteArray} {i:Nat} (h:l[i]? =some y):b50 x i (l.drop i)=if x=y then (i:Int) else b50 x (i+1) (l.drop (i+1)):=by
  rw [b1p h,b50]
theorem f7q {x:ByteArray} {l:List ByteArray} {i k:Nat} (h:l.length≤i):b50 x k (l.drop i)=-1:=by
  rw [ql4 h,b50]
def inS (x:ByteArray) (l:List ByteArray):Bool:=l.any fun y=>decide (x=y)
theorem d8c (x:ByteArray):∀(l:List ByteArray) (i:Nat),decide (0≤b50 x i l)=inS x l
  | [],i=>by rw [b50];rfl
  | y::l,i=>by
    rw [b50,inS,List.any_cons];split
    · rename_i h;simp [h]
    · rename_i h;rw [d8c x l (i+1)];simp [h,inS]
theorem g4p {x y:ByteArray} {l:List ByteArray} {i:Nat} (h:l[i]? =some y):inS x (l.drop i)=(decide (x=y) || inS x (l.drop (i+1))):=by
  rw [b1p h,inS,List.any_cons];rfl
theorem g5p {x:ByteArray} {l:List ByteArray} {i:Nat} (h:l.length≤i):inS x (l.drop i)=false:=by
  rw [ql4 h];rfl
theorem d3z (l:List ByteArray) (x:ByteArray) (hl:l.length≤1048576):Con prog 159 [.sl (l.map Ze),.str x] [] (.int .i64 (b50 x 0 l)) []:=by
 apply zcn [.tmp 4] [] func159 ntmps159;intro _ _ _;have T:=tq3 Y3 Y9 Y48;have F:=Fc.mk True.intro;apply yR [0,1];apply b0e;intros;apply yR [0,1,7,8];apply b0g;intros;apply b05 (fun i=>⟨[(0,.sl (l.map Ze)),(1,.str x),(7,.int .i64 l.length),(8,.int .i64 (Zb i))],[],false,19,0⟩) (fun i=>i≤l.length∧b50 x i (l.drop i)=b50 x 0 l) (fun i=>l.length - i) 0
 ·refine b18 [0,1,7,8] ?_;simp only [b0r,b0k,b0i,b0f,b0n,Nat.reduceEqDiff,reduceIte];rfl
 ·exact ⟨qle _,rfl⟩
 ·rintro i hok5 Q5 n5 e5 r5;obtain ⟨hi1,hR⟩:=hok5;apply yR [0,1,7,8,9];apply b0e;intros;apply b0c _ rfl
  ·intro hc0;have hlt:i < l.length:=by omega
   obtain ⟨y,hy⟩:∃y,l[i]? =some y:=⟨l[i],qla hlt⟩;have hst:=f3e (x:=x) hy;apply zn [0,1,7,8];apply b0e;intros;apply b0g;intros;have F:=Fc.mk (gdm hy);apply yR [0,1,5,7,8];apply yR [0,1,5,7,8,16];apply b0c _ rfl
   ·intro hc1;apply yR [4];apply (zr);exact b0h rfl (by rw [←hR,hst,if_pos hc1]) (.inl rfl)
   ·intro hc1;apply zn [0,1,7,8];apply (yV);apply n5 _ (i+1)
    ·apply b0d [0,1,7,8] [];rfl
    ·exact ⟨by omega,by rw [←hR,hst,if_neg hc1]⟩
    ·show _ < _;omega
  ·intro hc0;apply zn [];apply yR [4];apply (zr);exact b0h rfl (by rw [←hR,f7q (by omega)]) (.inl rfl)
theorem c9z (l:List ByteArray) (x:ByteArray) (hl:l.length≤1048576):Con prog 135 [.sl (l.map Ze),.str x] [] (.bool (inS x l)) []:=by
 apply zcn [.tmp 4] [] func135 ntmps135;intro _ _ _;have T:=tq3 Y3 Y9 Y48;have F:=Fc.mk True.intro;apply yR [0,1];apply yRc [4] (d3z l x hl);apply (zr);exact b0h rfl (by congr 1;exact d8c x l 0) (.inl rfl)
theorem c47 (l:List ByteArray) (x:ByteArray) (hl:l.length≤1048576):Con prog 65 [.sl (l.map Ze),.str x] [] (.bool (inS x l)) []:=by
 apply zcn [.tmp 4] [] func65 ntmps65;intro _ _ _;have T:=tq3 Y3 Y9 Y48;have F:=Fc.mk True.intro;apply yR [0,1];apply b0e;intros;apply yR [1,7,8,9];apply b0g;intros;apply b05 (fun i=>⟨[(1,.str x),(7,.sl (l.map Ze)),(8,.int .i64 l.length),(9,.int .i64 (Zb i))],[],false,17,0⟩) (fun i=>i≤l.length∧inS x (l.drop i)=inS x l) (fun i=>l.length - i) 0
 ·refine b18 [1,7,8,9] ?_;simp only [b0r,b0k,b0i,b0f,b0n,Nat.reduceEqDiff,reduceIte];rfl
 ·exact ⟨qle _,rfl⟩
 ·rintro i hok5 Q5 n5 e5 r5;obtain ⟨hi1,hR⟩:=hok5;apply yR [1,7,8,9,10];apply b0e;intros;apply b0c _ rfl
  ·intro hc0;have hlt:i < l.length:=by omega
   obtain ⟨y,hy⟩:∃y,l[i]? =some y:=⟨l[i],qla hlt⟩;have hst:=g4p (x:=x) hy;apply zn [1,7,8,9];apply b0e;intros;apply b0g;intros;have F:=Fc.mk (gdm hy);apply yR [1,6,7,8,9];apply yR [1,7,8,9,15];apply b0c _ rfl
   ·intro hc1;apply yR [4];apply (zr);exact b0h rfl (by rw [←hR,hst,decide_eq_true hc1.symm];rfl) (.inl rfl)
   ·intro hc1;apply zn [1,7,8,9];apply (yV);apply n5 _ (i+1)
    ·apply b0d [1,7,8,9] [];rfl
    ·exact ⟨by omega,by rw [←hR,hst,decide_eq_false (fun q=>hc1 q.symm)];rfl⟩
    ·show _ < _;omega
  ·intro hc0;apply zn [];apply yR [4];apply (zr);exact b0h rfl (by rw [←hR,g5p (by omega)]) (.inl rfl)
theorem d6t (l:List ByteArray) (hl:l.length≤1048576):Con prog 179 [.sl (l.map Ze)] [] (.bool (b11 (fun _:ByteArray=>true) b2v l 0)) []:=by
 apply zcn [.tmp 2] [] func179 ntmps179;intro _ _ _;have T:=tq3 Y3 Y9 Y48;have F:=Fc.mk True.intro;apply yR [0];apply b0e;intros;apply yR [0,5,6,7];apply b0g;intros;apply b05 (fun i=>⟨[(0,.sl (l.map Ze)),(5,.sl (l.map Ze)),(6,.int .i64 l.length),(7,.int .i64 (Zb i))],[],false,24,0⟩) (fun i=>i≤l.length∧b11 (fun _:ByteArray=>true) b2v l i=b11 (fun _:ByteArray=>true) b2v l 0) (fun i=>l.length - i) 0
 ·refine b18 [0,5,6,7] ?_;simp only [b0r,b0k,b0i,b0f,b0n,Nat.reduceEqDiff,reduceIte];rfl
 ·exact ⟨qle _,rfl⟩
 ·rintro i hok5 Q5 n5 e5 r5;obtain ⟨hi1,hR⟩:=hok5;apply yR [0,5,6,7,8];apply b0e;intros;apply b0c _ rfl
  ·intro hc0;have hlt:i < l.length:=by omega
   obtain ⟨x,hx⟩:∃x,l[i]? =some x:=⟨l[i],qla hlt⟩;rcases ql8 i with h0 | h0
   ·skip;have hi0:¬((0:Int) < (i:Int)):=by omega
    have hst:b11 (fun _:ByteArray=>true) b2v l i=b11 (fun _:ByteArray=>true) b2v l (i+1):=by have q:=b77 (ok:=(fun _:ByteArray=>true)) (bf:=b2v) (l:=l) (x:=x) (by subst h0;exact hx);subst h0;simpa using q
    apply zn [0,5,6,7];apply b0e;intros;apply b0g;intros;have F:=fq4 (gdm hx) hi0 @decide_false @qmo;apply yR [0,3,4,5,6,7];apply yR [0,5,6,7,22];apply b2a _ rfl
    ·intro hc1;exfalso;simp at hc1
    ·intro hc1;try simp only [zC,reduceCtorEq] at hc1
     apply zn [0,5,6,7];apply (yV);apply n5 _ (i+1)
     ·apply b0d [0,5,6,7] [];rfl
     ·exact ⟨by omega,by first | (rw [←hR,hst];done) | (rw [←hR,hst];(try simp at hc1);first | (simp [hc1];done) | (simp;done) | rfl)⟩
     ·show _ < _;omega
   ·skip;obtain ⟨y,hy⟩:∃y,l[i - 1]? =some y:=⟨_,qla (by omega)⟩;have hi0:(0:Int) < i:=by omega
    have hk:((i:Int) - 1).toNat=i - 1:=by omega
    have hst:=b78 (ok:=(fun _:ByteArray=>true)) (bf:=b2v) h0 hy hx;apply zn [0,5,6,7];apply b0e;intros;apply b0g;intros;have F:=fq6 (gdm hx) hi0 hk (gdm hy) @decide_true @qm0;apply yR [0,3,4,5,6,7];apply yR [0,5,6,7,22];apply b0c _ rfl
    ·intro hc1;apply yR [2];apply (zr);exact b0h rfl (by rw [←hR,hst];(try simp at hc1);simp [hc1]) (.inl rfl)
    ·intro hc1;apply zn [0,5,6,7];apply (yV);apply n5 _ (i+1)
     ·apply b0d [0,5,6,7] [];rfl
     ·exact ⟨by omega,by first | (rw [←hR,hst];done) | (rw [←hR,hst];(try simp at hc1);first | (simp [hc1];done) | (simp;done) | rfl)⟩
     ·show _ < _;omega
  ·intro hc0;apply zn [];apply yR [2];apply (zr);exact b0h rfl (by rw [←hR,b9u (by omega)]) (.inl rfl)
theorem c4d (fl:List TA) (s:ByteArray):b4l fl s=-1∨∃(k:Nat) (x:TA),b4l fl s=(k:Int)∧fl[k]? =some x∧x.1=s:=by
  by_cases h:b4l fl s=-1
  · exact .inl h
  · obtain ⟨k,h1,h2,_,x,h4,h5⟩:=c2o h
    exact .inr ⟨k,x,by rw [b4l,h2,Nat.zero_add],h4,by simpa using h5⟩
def c3t (l:List Int):Bool:=decide ((l.length:Int)=4) && l.all (fun x:Int=>inR x 0 6)
theorem b5i {l:List Int} (h:c3t l=true):l.length=4∧∀x∈l,0≤x∧x≤6:=by
  simp only [c3t,Bool.and_eq_true,decide_eq_true_eq,List.all_eq_true,inR] at h;exact ⟨by omega,h.2⟩
theorem b97 (l:List Int) (hl:l.length≤1048576):Con prog 92 [.sl (l.map (Za .i64))] [] (.bool (c3t l)) []:=by
 apply zcn [.tmp 2] [] func92 ntmps92;intro _ _ _;have T:=tq3 Y3 Y4 Y41;have F:=Fc.mk True.intro;apply yR [0];apply b0e;intros;apply yR [0,5,6,7];apply b0g;intros;apply b05 (fun i=>⟨[(0,.sl (l.map (Za .i64))),(5,.sl (l.map (Za .i64))),(6,.int .i64 l.length),(7,.int .i64 (Zb i))],[],false,18,0⟩) (fun i=>i≤l.length∧(l.drop i).all (fun x:Int=>inR x 0 6)=l.all (fun x:Int=>inR x 0 6)) (fun i=>l.length - i) 0
 ·refine b18 [0,5,6,7] ?_;simp only [b0r,b0k,b0i,b0f,b0n,Nat.reduceEqDiff,reduceIte];rfl
 ·exact ⟨qle _,rfl⟩
 ·rintro i hok5 Q5 n5 e5 r5;obtain ⟨hi1,hR⟩:=hok5;apply yR [0,5,6,7,8];apply b0e;intros;apply b0c _ rfl
  ·intro hc0;have hlt:i < l.length:=by omega
   obtain ⟨x,hx⟩:∃x,l[i]? =some x:=⟨_,qla hlt⟩;have hst:=b6h (p:=(fun x:Int=>inR x 0 6)) hx;apply zn [0,5,6,7];apply b0e;intros;apply b0g;intros;have F:=Fc.mk (gdm hx);apply yR [0,4,5,6,7];apply yRc [0,5,6,7,13] (b2p _ _ _);apply b0c _ rfl
   ·intro hc1;apply yR [2];apply (zr);exact b0h rfl (by rw [c3t,←hR,hst];(try simp at hc1);simp [inR];intros;omega) (.inl rfl)
   ·intro hc1;apply zn [0,5,6,7];apply (yV);apply n5 _ (i+1)
    ·apply b0d [0,5,6,7] [];rfl
    ·exact ⟨by omega,by rw [←hR,hst];(try simp at hc1);simp [inR];intros;omega⟩
    ·show _ < _;omega
  ·intro hc0;apply zn [0];apply yR [2];apply (zr);exact b0h rfl (by rw [c3t,←hR,b8o (by omega)];simp) (.inl rfl)
theorem d1m (l:List Int) (hl:l.length≤1048576):Con prog 147 [.sl (l.map (Za .i64))] [] (.bool (c3t l)) []:=by
 apply zcn [.tmp 2] [] func147 ntmps147;intro _ _ _;have T:=tq3 Y3 Y4 Y41;have F:=Fc.mk True.intro;apply yR [0];apply yRg [2] (c5f l 0 6 hl);apply (zr);exact b0h rfl (by simp [c3t,inR]) (.inl rfl)
theorem b4g (l:List Int) (hl:l.length≤1048576):Con prog 94 [.sl (l.map (Za .i64))] [] (.ref 0) [.arr (l.map (Za .i64)) .flat]:=by
 have hns:(l.map (Za .i64)).all V.noSl=true:=by rw [qmp,qlk];intro a _;rfl
 apply zcn [.tmp 2] [] func94 ntmps94;intro _ _ _;have T:=tq2 Y3 Y41;have F:=Fc.mk True.intro;have F:=Fc.mk hns;apply yR [0];apply b0e;intros;apply b1l [0,4];intro _ k3;apply (zU);apply (g1o);intro _ hnb4;apply k3 _;apply (zk);apply b0c _ rfl
 ·intro hc0;have hnil:l=[]:=by cases l with | nil=>rfl | cons a b=>have:=hnb4 (by simp);rw [hc0] at this;cases this
  apply yR [2];apply (zr);rw [hnil];exact b1q rfl rfl rfl
 ·intro hc0;apply zn [0];apply yR [2];apply (zr);exact b1q rfl rfl (by simp)
end Go.Proofs.YtmbbjhopngejaaaGreat
