/- What functions compute. No condition. -/
import Derived.Test.YtmbbjhopngejaaaGreatDoorX7
set_option linter.unusedSimpArgs false
set_option linter.unusedVariables false
set_option linter.defProp false
namespace Go.Proofs.YtmbbjhopngejaaaGreatDoor
open Go Go.Vm
set_option maxHeartbeats 8000000
theorem f29 {fl:List TA} {ts:List Int} {i:Nat} {x:TA} (h:fl[i]? =some x):f0t (fl.take (i+1)) ts=f0t (fl.take i) ts++[Tm.at_ ts x.2.2.1.toNat]:=by
  rw [f0t,ql2,h,Option.toList];simp only [aQ,fQ,List.map_append];try rfl
theorem f4u (fl:List TA) (ts:List Int):(f0t fl ts).length=fl.length:=by rw [f0t,qmj]
theorem f2r {lt:Int→Int→Bool} {p:List Int} {x:Int} {j:Nat} (h:c1h lt x p p.length=j):f5o lt p x=p.take j++x::p.drop j:=by rw [f5o,h]
theorem c3x (l:List Int) (hl:l.length≤1048576):Con Tryz.prog 155 [.sl (l.map (V.int .i64))] [] (.ref 0) [.arr (l.map (V.int .i64)) .flat]:=by
 have hns:(l.map (V.int .i64)).all V.noSl=true:=by rw [List.all_map,qlf];intro a _;rfl
 refine zcn [.tmp 2] [] Tryz.func155 Tryz.ntmps155 ⟨?_⟩;intro Q0 n0 r0;have T:=tq2 Ty.t3 Ty.t35;have F:=Fc.mk True.intro;have F:=Fc.mk hns;refine yR [0] ⟨?_⟩;refine yR [2] ⟨?_⟩;refine zr ⟨?_⟩;exact b1t rfl rfl (by simp)
set_option maxRecDepth 8000 in
theorem dsReady_con (n:Int) (ss:List TS) (fl:List TA) (node:Int) (hd:DsFacts n ss fl) (hu:0≤node∧node < n):Con Tryz.prog 194 [tQ n ss,sQ rQa fl,.int .i64 node] [] (.tup [.ref 0,.ref 1]) [.arr ((c2f fl (tmL n ss node)).map (V.int .i64)) .flat,.arr ((f0t fl (tmL n ss node)).map (V.int .i64)) .flat]:=by
 have hfl:=hd.hfl;obtain ⟨ts,hts⟩:∃ts,ts=tmL n ss node:=⟨_,rfl⟩;have htl:ts.length=n.toNat:=by rw [hts,d26]
 have htb:=d7z hd.hn hu hd.hss hd.hsl;rw [←hts] at htb⊢;have hn14:=hd.hn;have hvalid:∀{a:Int},a∈b20 fl ts fl.length→∃(k:Nat) (x:TA) (w:Nat),a=(k:Int)∧fl[k]? =some x∧x.2.2.1=(w:Int)∧w < ts.length:=by
  intro a ha;obtain ⟨k,x,h1,h2,h3,_⟩:=c3v fl ts _ a ha;have hap:=hd.hap _ (qlb h3);obtain ⟨w,hw⟩:=ql4 hap.2.1;exact ⟨k,x,w,h1,h3,hw,by rw [htl];omega⟩
 have hrl:=c23 fl ts fl.length;refine zcn [.tmp 6,.tmp 7] [] Tryz.func194 Tryz.ntmps194 ⟨?_⟩;intro Q0 n0 r0;have T:=tq9 Ty.t3 Ty.t4 Ty.t9 Ty.t24 Ty.t26 Ty.t27 Ty.t35 Ty.t53 Ty.t127;have F:=Fc.mk True.intro;refine yR [1,2,3] ⟨?_⟩;refine yRc [1,8] ((hts ▸ d6g n ss node hd.hn hu hd.hss hd.hsl:Con _ _ _ _ _ [.arr (ts.map (V.int .i64)) .flat])) ⟨?_⟩;refine yR [1,8,9,10] ⟨?_⟩;refine b0e ?_;intros;refine yR [1,8,9,10,17,18,19] ⟨?_⟩;refine b0i ?_;intros;refine b08 (fun i=>⟨[(1,sQ rQa fl),(8,.ref 0),(9,.ref 1),(10,.ref 2),(17,sQ rQa fl),(18,.int .i64 fl.length),(19,.int .i64 (Nat.cast i))],[.arr (ts.map (V.int .i64)) .flat,.arr ((b6t (b6m fl ts) (b20 fl ts i)).map (V.int .i64)) .flat,.arr ((f0t (fl.take i) ts).map (V.int .i64)) .flat],false,83,0⟩) (fun i=>i≤fl.length) (fun i=>fl.length - i) 0 ?_ ?_ ?_
 ·refine b0d [1,8,9,10,17,18,19] [3,4,5] ⟨?_⟩;rfl
 ·exact qle _
 ·rintro i hok7 Q7 n7 e7 r7;have hi1:i≤fl.length:=hok7;refine yR [1,8,9,10,17,18,19,20] ⟨?_⟩;refine b0e ?_;intros;refine b0a _ rfl ?_ ?_
  ·intro hc0;have hlt:i < fl.length:=by omega
   obtain ⟨⟨x0,x1,x2,x3,x4⟩,hx⟩:∃x:TA,fl[i]? =some x:=⟨fl[i]'(by omega),qla (by omega)⟩;have hap:=hd.hap _ (qlb hx);simp only [] at hap;obtain ⟨w,hw⟩:=ql4 hap.2.1;subst hw;obtain ⟨p,hp⟩:∃p,ts[w]? =some p:=⟨_,qla (by rw [htl];omega)⟩;have hwl:w < ts.length:=by rw [htl];omega
   have hpb:=htb w;rw [Tm.at_get hp] at hpb;have hrp:=f48 (fl:=fl) (x:=(x0,x1,(w:Int),x3,x4)) rfl hp;have hst:=d9k (ts:=ts) hx;have hrl2:=c23 fl ts i;have hki:=f22 (ts:=ts) hx rfl hp;have hal:=f29 (ts:=ts) hx;simp only [Int.toNat_natCast,Tm.at_get hp] at hal;have hall:=f4u (fl.take i) ts;have hlti:(fl.take i).length=i:=by rw [qlr];omega
   have hpl:=d4d (b6m fl ts) (b20 fl ts i);refine zn [1,8,9,10,17,18,19] ⟨?_⟩;refine b0e ?_;intro Q11 n11 e11 r11;refine b0i ?_;intro Q12 n12 x12 e12 r12;have F:=fq2 (gdm hx) (gdm hp);refine yR [1,8,9,10,11,12,17,18,19] ⟨?_⟩;refine yR [1,8,9,10,11,12,17,18,19] ⟨?_⟩;refine b0e ?_;intros;refine yRc [1,8,9,10,11,12,17,18,19,42] (c8o x0 x1 (w:Int) x3 x4 hap.1) ⟨?_⟩;refine b0a _ rfl ?_ ?_
   ·intro hc1;have hr1:¬c3m fl ts (x0,x1,(w:Int),x3,x4)=true:=by
     rw [hrp];intro h;simp only [Bool.and_eq_true,decide_eq_true_eq] at h;first
     |(rcases hc1 with q | q;· (rw [h.1] at q;cases q);· omega)
     |(simp [h.1] at hc1;omega)
     |(have:=hc1 h.1;omega)
    refine zn [1,8,9,10,17,18,19] ⟨?_⟩;refine yV ⟨?_⟩;refine n7 _ (i+1) ?_ ?_ ?_
    ·refine b0d [1,8,9,10,17,18,19] [0,1,5] ⟨?_⟩;rw [hst,if_neg hr1,hal];simp only [aQ,fQ,List.map_append];try rfl
    ·exact hlt
    ·show _ < _;omega
   ·intro hc1;have hr1:c3m fl ts (x0,x1,(w:Int),x3,x4)=true:=by rw [hrp];simpa using hc1
    refine zn [1,8,9,10,11,12,17,18,19] ⟨?_⟩;refine yR [1,8,9,10,11,12,13,17,18,19] ⟨?_⟩;refine b3u (A:=Nat) (fun e1=>⟨[(1,sQ rQa fl),(8,.ref 0),(9,.ref 1),(10,.ref 3),(11,.int .i64 (Nat.cast i)),(13,.int .i64 (Nat.cast e1)),(17,sQ rQa fl),(18,.int .i64 fl.length),(19,.int .i64 (Nat.cast i))],[.arr (ts.map (V.int .i64)) .flat,.arr ((b6t (b6m fl ts) (b20 fl ts i)).map (V.int .i64)) .flat,.box (.agg [V.str x0,V.int .i64 x1,V.int .i64 (Nat.cast w),V.int .i64 x3,V.int .i64 x4]) .flat,.arr ((f0t (fl.take (i+1)) ts).map (V.int .i64)) .flat],false,83,0⟩) (fun e1=>e1≤(b6t (b6m fl ts) (b20 fl ts i)).length∧f5o (b6m fl ts) (b6t (b6m fl ts) (b20 fl ts i)) (i:Int)=(b6t (b6m fl ts) (b20 fl ts i)).take e1++(i:Int)::(b6t (b6m fl ts) (b20 fl ts i)).drop e1) ?_ ?_
    ·intro Q20 n20 e20 r20;refine b0i ?_;intros;refine b08 (fun j=>⟨[(1,sQ rQa fl),(8,.ref 0),(9,.ref 1),(10,.ref 3),(11,.int .i64 (Nat.cast i)),(12,.ptr 2 0 0),(13,.int .i64 (Nat.cast j)),(17,sQ rQa fl),(18,.int .i64 fl.length),(19,.int .i64 (Nat.cast i))],[.arr (ts.map (V.int .i64)) .flat,.arr ((b6t (b6m fl ts) (b20 fl ts i)).map (V.int .i64)) .flat,.box (.agg [V.str x0,V.int .i64 x1,V.int .i64 (Nat.cast w),V.int .i64 x3,V.int .i64 x4]) .flat,.arr ((f0t (fl.take (i+1)) ts).map (V.int .i64)) .flat],false,83,0⟩) (fun j=>j≤(b6t (b6m fl ts) (b20 fl ts i)).length∧c1h (b6m fl ts) (i:Int) (b6t (b6m fl ts) (b20 fl ts i)) j=c1h (b6m fl ts) (i:Int) (b6t (b6m fl ts) (b20 fl ts i)) (b6t (b6m fl ts) (b20 fl ts i)).length) (fun j=>j) (b6t (b6m fl ts) (b20 fl ts i)).length ?_ ?_ ?_
     ·refine b0d [1,8,9,10,11,12,13,17,18,19] [0,1,3,5] ⟨?_⟩;rw [hal];simp only [aQ,fQ,List.map_append];try rfl
     ·exact ⟨qlw _,rfl⟩
     ·rintro j hok22 Q22 n22 e22 r22;obtain ⟨hj1,hR2⟩:=hok22;rcases ql8 j with hj00 | hj00
      ·skip;have hj0:¬((0:Int) < (j:Int)):=by omega
       refine b0e ?_;intros;refine b0e ?_;intro Q24 n24 e24 r24;refine b1f (by kernel_rfl) ?_;intro K25 q25 k25;show b1r _ _ _ _ 22 (Array.replicate 22 false) _;have F:=fq5 (gdm hx) (gdm hp) hj0 @decide_false @qmh;refine b0t q25 true 0 45 ?_;refine b19 q25 true 1 46 ?_;refine b0t q25 true 2 47 ?_;refine b0z q25 true 3 48 ?_;refine b0z q25 true 4 49 ?_;refine b0z q25 true 5 50 ?_;refine b0z q25 true 6 51 ?_;refine b2u q25 true 7 52 ?_;refine b0x q25 true 8 53 ?_;refine b0r q25 true 9 54 ?_;refine b0x q25 true 10 55 ?_;refine b0c q25 true 11 56 ?_;refine b0r q25 true 12 57 ?_;refine b0x q25 true 13 58 ?_;refine b0r q25 true 14 59 ?_;refine b0z q25 true 15 60 ?_;refine b0c q25 true 16 61 ?_;refine b0r q25 true 17 62 ?_;refine b0x q25 true 18 63 ?_;refine b0r q25 true 19 64 ?_;refine b0y q25 true 20 65 ?_;refine b1p q25 true 21 66 ?_;refine b0b (by kernel_rfl) ?_;refine k25 _ ?_;refine n24 _ _ (b0f [1,8,9,10,11,12,13,17,18,19,66] _) ?_;refine zk ⟨?_⟩;refine b18 _ rfl ?_ ?_
       ·intro hc2;exfalso;simp [hj0] at hc2
       ·intro hc2;try simp only [zC,reduceCtorEq] at hc2
        refine zx ⟨?_⟩;refine n20 j _ ?_ ?_
        ·exact ⟨hj1,f2r (by rw [←hR2,hj00];rfl)⟩
        ·exact b0q [1,8,9,10,11,13,17,18,19] [0,1,2,3]
      ·skip;obtain ⟨m,rfl⟩:∃m,j=m+1:=⟨j - 1,by omega⟩;have hj0:(0:Int) < ((m+1:Nat):Int):=by omega
       obtain ⟨b,hyp⟩:∃y,(b6t (b6m fl ts) (b20 fl ts i))[m]? =some y:=⟨_,qla (by omega)⟩;have hk:(((m+1:Nat):Int) - 1).toNat=m:=by omega
       obtain ⟨kb,xb,hb1,hb2,hb3,_⟩:=c3v fl ts i b (d4n.1 (qlb hyp));have hb:∃(k:Nat) (x:TA) (w:Nat),b=(k:Int)∧fl[k]? =some x∧x.2.2.1=(w:Int)∧w < ts.length:=by
        have hapb:=hd.hap _ (qlb hb3);obtain ⟨v,hv⟩:=ql4 hapb.2.1;exact ⟨kb,xb,v,hb1,hb3,hv,by rw [htl];omega⟩
       obtain ⟨k2,⟨y0,y1,y2,y3,y4⟩,v,rfl,hy,hbw,hbl⟩:=hb;simp only [] at hbw;subst hbw;obtain ⟨q,hq⟩:∃p,ts[v]? =some p:=⟨_,qla hbl⟩;have hk2l:k2 < fl.length:=(qlc.1 hy).1;have ek2:=f22 (ts:=ts) hy rfl hq;refine b0e ?_;intros;refine b0e ?_;intro Q28 n28 e28 r28;refine b1f (by kernel_rfl) ?_;intro K29 q29 k29;show b1r _ _ _ _ 22 (Array.replicate 22 false) _;have F:=fq9 (gdm hx) (gdm hp) hj0 @decide_true @qmm hk (gdm hyp) (gdm hy) (gdm hq);refine b0t q29 true 0 45 ?_;refine b19 q29 true 1 46 ?_;refine b0t q29 true 2 47 ?_;refine b0z q29 true 3 48 ?_;refine b0z q29 true 4 49 ?_;refine b0z q29 true 5 50 ?_;refine b0z q29 true 6 51 ?_;refine b2u q29 true 7 52 ?_;refine b0x q29 true 8 53 ?_;refine b0r q29 true 9 54 ?_;refine b0x q29 true 10 55 ?_;refine b0c q29 true 11 56 ?_;refine b0r q29 true 12 57 ?_;refine b0x q29 true 13 58 ?_;refine b0r q29 true 14 59 ?_;refine b0z q29 true 15 60 ?_;refine b0c q29 true 16 61 ?_;refine b0r q29 true 17 62 ?_;refine b0x q29 true 18 63 ?_;refine b0r q29 true 19 64 ?_;refine b0y q29 true 20 65 ?_;refine b1p q29 true 21 66 ?_;refine b0b (by kernel_rfl) ?_;refine k29 _ ?_;refine n28 _ _ (b0f [1,8,9,10,11,12,13,17,18,19,66] _) ?_;refine zk ⟨?_⟩;refine b0a _ rfl ?_ ?_
       ·intro hc2;have hlc:b6m fl ts (i:Int) (k2:Int)=true:=by rw [b6m,hki,ek2];simpa [hj0] using hc2
        refine zn [1,8,9,10,11,12,13,17,18,19] ⟨?_⟩;refine b0i ?_;intros;refine yV ⟨?_⟩;refine n22 _ m ?_ ?_ ?_
        ·refine b0d [1,8,9,10,11,12,13,17,18,19] [0,1,2,3] ⟨?_⟩;rw [show ((m+1:Nat):Int) - 1=(m:Int) by omega]
        ·exact ⟨by omega,by rw [←hR2,f0l hyp hlc]⟩
        ·show m < m+1;omega
       ·intro hc2;refine zx ⟨?_⟩;refine n20 (m+1) _ ?_ ?_
        ·exact ⟨hj1,f2r (by rw [←hR2,f3s hyp (by rw [b6m,hki,ek2];simpa [hj0] using hc2)])⟩
        ·exact b0q [1,8,9,10,11,13,17,18,19] [0,1,2,3]
    ·rintro e1 hok20;obtain ⟨hj1,hend⟩:=hok20;skip
     ·skip;have htk:((b6t (b6m fl ts) (b20 fl ts i)).take e1).length=e1:=by rw [qlr];omega
      have hcon:=c3x ((b6t (b6m fl ts) (b20 fl ts i)).take e1) (by omega);have hdt:List.take ((b6t (b6m fl ts) (b20 fl ts i)).length - e1) (List.drop e1 (List.map (V.int .i64) (b6t (b6m fl ts) (b20 fl ts i))))=List.map (V.int .i64) ((b6t (b6m fl ts) (b20 fl ts i)).drop e1):=by rw [←List.map_drop,qlx (by simp)]
      have hsn:List.map (V.int .i64) ((b6t (b6m fl ts) (b20 fl ts i)).take e1)++[V.int .i64 (i:Int)]=List.map (V.int .i64) ((b6t (b6m fl ts) (b20 fl ts i)).take e1++[(i:Int)]):=f9u;refine b1f (by kernel_rfl) ?_;intro K33 q33 k33;show b1r _ _ _ _ 12 (Array.replicate 12 false) _;have F:=fq4 (gdm hx) (gdm hp) hdt hsn;refine b0t q33 true 0 69 ?_;refine b0t q33 true 1 70 ?_;refine b5t q33 true 2 71 ?_;refine b0t q33 true 4 73 ?_;refine b0t q33 false 7 76 ?_;refine b0t q33 false 8 77 ?_;refine b49 3 5 9 rfl rfl rfl (by kernel_rfl) ?_ ?_ ?_
      ·refine zsc (hcon) ⟨?_⟩;refine b09 5 9 rfl rfl (by kernel_rfl) ?_ ?_
       ·refine b01 ⟨?_⟩;refine b09 6 9 rfl rfl (by kernel_rfl) ?_ ?_
        ·refine b16 ⟨?_⟩;refine b5t q33 true 9 78 ?_;refine b0m 10 ⟨?_⟩;refine b0p 11 ⟨?_⟩;refine b0b (by kernel_rfl) ?_;refine k33 _ ?_;refine n12 _ ?_;refine n11 _ _ (b0f [1,8,9,10,17,18,19] _) ?_;refine zk ⟨?_⟩;refine yV ⟨?_⟩;refine n7 _ (i+1) ?_ ?_ ?_
         ·refine b0d [1,8,9,10,17,18,19] [0,7,3] ⟨?_⟩;rw [hst,if_pos hr1,b5v,hend,←List.map_append,ql9];try rfl
         ·exact hlt
         ·show _ < _;omega
        ·refine b33 ⟨?_⟩;refine b0m 6 ⟨?_⟩;refine b0m 10 ⟨?_⟩;refine b0p 11 ⟨?_⟩;refine b0b (by kernel_rfl) ?_;refine k33 _ ?_;refine n12 _ ?_;refine n11 _ _ (b0f [1,8,9,10,17,18,19] _) ?_;refine zk ⟨?_⟩;refine yV ⟨?_⟩;refine n7 _ (i+1) ?_ ?_ ?_
         ·refine b0d [1,8,9,10,17,18,19] [0,7,3] ⟨?_⟩;rw [hst,if_pos hr1,b5v,hend,←List.map_append,ql9];try rfl
         ·exact hlt
         ·show _ < _;omega
       ·refine b33 ⟨?_⟩;refine b1j 5 ⟨?_⟩;refine b0m 6 ⟨?_⟩;refine b0m 10 ⟨?_⟩;refine b0p 11 ⟨?_⟩;refine b0b (by kernel_rfl) ?_;refine k33 _ ?_;refine n12 _ ?_;refine n11 _ _ (b0f [1,8,9,10,17,18,19] _) ?_;refine zk ⟨?_⟩;refine yV ⟨?_⟩;refine n7 _ (i+1) ?_ ?_ ?_
        ·refine b0d [1,8,9,10,17,18,19] [0,7,3] ⟨?_⟩;rw [hst,if_pos hr1,b5v,hend,←List.map_append,ql9];try rfl
        ·exact hlt
        ·show _ < _;omega
      ·refine b01 ⟨?_⟩;refine b09 3 9 rfl rfl (by kernel_rfl) ?_ ?_
       ·refine zsc (hcon) ⟨?_⟩;refine b09 6 9 rfl rfl (by kernel_rfl) ?_ ?_
        ·refine b16 ⟨?_⟩;refine b5t q33 true 9 78 ?_;refine b0m 10 ⟨?_⟩;refine b0p 11 ⟨?_⟩;refine b0b (by kernel_rfl) ?_;refine k33 _ ?_;refine n12 _ ?_;refine n11 _ _ (b0f [1,8,9,10,17,18,19] _) ?_;refine zk ⟨?_⟩;refine yV ⟨?_⟩;refine n7 _ (i+1) ?_ ?_ ?_
         ·refine b0d [1,8,9,10,17,18,19] [0,7,3] ⟨?_⟩;rw [hst,if_pos hr1,b5v,hend,←List.map_append,ql9];try rfl
         ·exact hlt
         ·show _ < _;omega
        ·refine b33 ⟨?_⟩;refine b0m 6 ⟨?_⟩;refine b0m 10 ⟨?_⟩;refine b0p 11 ⟨?_⟩;refine b0b (by kernel_rfl) ?_;refine k33 _ ?_;refine n12 _ ?_;refine n11 _ _ (b0f [1,8,9,10,17,18,19] _) ?_;refine zk ⟨?_⟩;refine yV ⟨?_⟩;refine n7 _ (i+1) ?_ ?_ ?_
         ·refine b0d [1,8,9,10,17,18,19] [0,7,3] ⟨?_⟩;rw [hst,if_pos hr1,b5v,hend,←List.map_append,ql9];try rfl
         ·exact hlt
         ·show _ < _;omega
       ·refine b33 ⟨?_⟩;refine zoc 3 (hcon) ⟨?_⟩;refine b0m 6 ⟨?_⟩;refine b0m 10 ⟨?_⟩;refine b0p 11 ⟨?_⟩;refine b0b (by kernel_rfl) ?_;refine k33 _ ?_;refine n12 _ ?_;refine n11 _ _ (b0f [1,8,9,10,17,18,19] _) ?_;refine zk ⟨?_⟩;refine yV ⟨?_⟩;refine n7 _ (i+1) ?_ ?_ ?_
        ·refine b0d [1,8,9,10,17,18,19] [0,7,3] ⟨?_⟩;rw [hst,if_pos hr1,b5v,hend,←List.map_append,ql9];try rfl
        ·exact hlt
        ·show _ < _;omega
      ·refine b33 ⟨?_⟩;refine b09 3 5 rfl rfl (by kernel_rfl) ?_ ?_
       ·refine zsc (hcon) ⟨?_⟩;refine b1j 5 ⟨?_⟩;refine b0m 6 ⟨?_⟩;refine b0m 10 ⟨?_⟩;refine b0p 11 ⟨?_⟩;refine b0b (by kernel_rfl) ?_;refine k33 _ ?_;refine n12 _ ?_;refine n11 _ _ (b0f [1,8,9,10,17,18,19] _) ?_;refine zk ⟨?_⟩;refine yV ⟨?_⟩;refine n7 _ (i+1) ?_ ?_ ?_
        ·refine b0d [1,8,9,10,17,18,19] [0,7,3] ⟨?_⟩;rw [hst,if_pos hr1,b5v,hend,←List.map_append,ql9];try rfl
        ·exact hlt
        ·show _ < _;omega
       ·refine b01 ⟨?_⟩;refine zoc 3 (hcon) ⟨?_⟩;refine b0m 6 ⟨?_⟩;refine b0m 10 ⟨?_⟩;refine b0p 11 ⟨?_⟩;refine b0b (by kernel_rfl) ?_;refine k33 _ ?_;refine n12 _ ?_;refine n11 _ _ (b0f [1,8,9,10,17,18,19] _) ?_;refine zk ⟨?_⟩;refine yV ⟨?_⟩;refine n7 _ (i+1) ?_ ?_ ?_
        ·refine b0d [1,8,9,10,17,18,19] [0,7,3] ⟨?_⟩;rw [hst,if_pos hr1,b5v,hend,←List.map_append,ql9];try rfl
        ·exact hlt
        ·show _ < _;omega
  ·intro hc0;have hend:i=fl.length:=by omega
   subst hend;refine zn [9,10] ⟨?_⟩;refine yR [6,7] ⟨?_⟩;refine zr ⟨?_⟩;exact d5f [1,2] rfl rfl (by decide) rfl (by simp [c2f]) (by simp [Blk.kindIs]) rfl
def b5n (x:ByteArray):Nat→List ByteArray→Int
  | _,[]=>-1
  | i,y::l=>if x=y then i else b5n x (i+1) l
theorem f2m {x y:ByteArray} {l:List ByteArray} {i:Nat} (h:l[i]? =some y):b5n x i (l.drop i)=if x=y then (i:Int) else b5n x (i+1) (l.drop (i+1)):=by
  rw [b1h h,b5n]
theorem f5y {x:ByteArray} {l:List ByteArray} {i k:Nat} (h:l.length≤i):b5n x k (l.drop i)=-1:=by
  rw [ql5 h,b5n]
def inS (x:ByteArray) (l:List ByteArray):Bool:=l.any fun y=>decide (x=y)
theorem d7n (x:ByteArray):∀(l:List ByteArray) (i:Nat),decide (0≤b5n x i l)=inS x l
  | [],i=>by rw [b5n];rfl
  | y::l,i=>by
    rw [b5n,inS,List.any_cons];split
    · rename_i h;simp [h]
    · rename_i h;rw [d7n x l (i+1)];simp [h,inS]
theorem f35 {x y:ByteArray} {l:List ByteArray} {i:Nat} (h:l[i]? =some y):inS x (l.drop i)=(decide (x=y) || inS x (l.drop (i+1))):=by
  rw [b1h h,inS,List.any_cons];rfl
theorem f63 {x:ByteArray} {l:List ByteArray} {i:Nat} (h:l.length≤i):inS x (l.drop i)=false:=by
  rw [ql5 h];rfl
theorem d25 (l:List ByteArray) (x:ByteArray) (hl:l.length≤1048576):Con Tryz.prog 157 [.sl (l.map V.str),.str x] [] (.int .i64 (b5n x 0 l)) []:=by
 refine zcn [.tmp 4] [] Tryz.func157 Tryz.ntmps157 ⟨?_⟩;intro Q0 n0 r0;have T:=tq3 Ty.t3 Ty.t9 Ty.t32;have F:=Fc.mk True.intro;refine yR [0,1] ⟨?_⟩;refine b0e ?_;intros;refine yR [0,1,7,8] ⟨?_⟩;refine b0i ?_;intros;refine b08 (fun i=>⟨[(0,.sl (l.map V.str)),(1,.str x),(7,.int .i64 l.length),(8,.int .i64 (Nat.cast i))],[],false,19,0⟩) (fun i=>i≤l.length∧b5n x i (l.drop i)=b5n x 0 l) (fun i=>l.length - i) 0 ?_ ?_ ?_
 ·refine b2a [0,1,7,8] ?_;simp only [b02,b0n,b0l,b0j,b0u,Nat.reduceEqDiff,reduceIte];rfl
 ·exact ⟨qle _,rfl⟩
 ·rintro i hok5 Q5 n5 e5 r5;obtain ⟨hi1,hR⟩:=hok5;refine yR [0,1,7,8,9] ⟨?_⟩;refine b0e ?_;intros;refine b0a _ rfl ?_ ?_
  ·intro hc0;have hlt:i < l.length:=by omega
   obtain ⟨y,hy⟩:∃y,l[i]? =some y:=⟨l[i],qla hlt⟩;have hst:=f2m (x:=x) hy;refine zn [0,1,7,8] ⟨?_⟩;refine b0e ?_;intros;refine b0i ?_;intros;have F:=Fc.mk (gdm hy);refine yR [0,1,5,7,8] ⟨?_⟩;refine yR [0,1,5,7,8,16] ⟨?_⟩;refine b0a _ rfl ?_ ?_
   ·intro hc1;refine yR [4] ⟨?_⟩;refine zr ⟨?_⟩;exact b0g rfl (by rw [←hR,hst,if_pos hc1]) (.inl rfl)
   ·intro hc1;refine zn [0,1,7,8] ⟨?_⟩;refine yV ⟨?_⟩;refine n5 _ (i+1) ?_ ?_ ?_
    ·refine b0d [0,1,7,8] [] ⟨?_⟩;rfl
    ·exact ⟨by omega,by rw [←hR,hst,if_neg hc1]⟩
    ·show _ < _;omega
  ·intro hc0;refine zn [] ⟨?_⟩;refine yR [4] ⟨?_⟩;refine zr ⟨?_⟩;exact b0g rfl (by rw [←hR,f5y (by omega)]) (.inl rfl)
theorem c7t (l:List ByteArray) (x:ByteArray) (hl:l.length≤1048576):Con Tryz.prog 121 [.sl (l.map V.str),.str x] [] (.bool (inS x l)) []:=by
 refine zcn [.tmp 4] [] Tryz.func121 Tryz.ntmps121 ⟨?_⟩;intro Q0 n0 r0;have T:=tq3 Ty.t3 Ty.t9 Ty.t32;have F:=Fc.mk True.intro;refine yR [0,1] ⟨?_⟩;refine yRc [4] (d25 l x hl) ⟨?_⟩;refine zr ⟨?_⟩;exact b0g rfl (by congr 1;exact d7n x l 0) (.inl rfl)
theorem c8h (l:List ByteArray) (x:ByteArray) (hl:l.length≤1048576):Con Tryz.prog 123 [.sl (l.map V.str),.str x] [] (.bool (inS x l)) []:=by
 refine zcn [.tmp 4] [] Tryz.func123 Tryz.ntmps123 ⟨?_⟩;intro Q0 n0 r0;have T:=tq3 Ty.t3 Ty.t9 Ty.t32;have F:=Fc.mk True.intro;refine yR [0,1] ⟨?_⟩;refine b0e ?_;intros;refine yR [1,7,8,9] ⟨?_⟩;refine b0i ?_;intros;refine b08 (fun i=>⟨[(1,.str x),(7,.sl (l.map V.str)),(8,.int .i64 l.length),(9,.int .i64 (Nat.cast i))],[],false,17,0⟩) (fun i=>i≤l.length∧inS x (l.drop i)=inS x l) (fun i=>l.length - i) 0 ?_ ?_ ?_
 ·refine b2a [1,7,8,9] ?_;simp only [b02,b0n,b0l,b0j,b0u,Nat.reduceEqDiff,reduceIte];rfl
 ·exact ⟨qle _,rfl⟩
 ·rintro i hok5 Q5 n5 e5 r5;obtain ⟨hi1,hR⟩:=hok5;refine yR [1,7,8,9,10] ⟨?_⟩;refine b0e ?_;intros;refine b0a _ rfl ?_ ?_
  ·intro hc0;have hlt:i < l.length:=by omega
   obtain ⟨y,hy⟩:∃y,l[i]? =some y:=⟨l[i],qla hlt⟩;have hst:=f35 (x:=x) hy;refine zn [1,7,8,9] ⟨?_⟩;refine b0e ?_;intros;refine b0i ?_;intros;have F:=Fc.mk (gdm hy);refine yR [1,6,7,8,9] ⟨?_⟩;refine yR [1,7,8,9,15] ⟨?_⟩;refine b0a _ rfl ?_ ?_
   ·intro hc1;refine yR [4] ⟨?_⟩;refine zr ⟨?_⟩;exact b0g rfl (by rw [←hR,hst,decide_eq_true hc1.symm];rfl) (.inl rfl)
   ·intro hc1;refine zn [1,7,8,9] ⟨?_⟩;refine yV ⟨?_⟩;refine n5 _ (i+1) ?_ ?_ ?_
    ·refine b0d [1,7,8,9] [] ⟨?_⟩;rfl
    ·exact ⟨by omega,by rw [←hR,hst,decide_eq_false (fun q=>hc1 q.symm)];rfl⟩
    ·show _ < _;omega
  ·intro hc0;refine zn [] ⟨?_⟩;refine yR [4] ⟨?_⟩;refine zr ⟨?_⟩;exact b0g rfl (by rw [←hR,f63 (by omega)]) (.inl rfl)
theorem d6h (l:List ByteArray) (hl:l.length≤1048576):Con Tryz.prog 158 [.sl (l.map V.str)] [] (.bool (b1v (fun _:ByteArray=>true) b2x l 0)) []:=by
 refine zcn [.tmp 2] [] Tryz.func158 Tryz.ntmps158 ⟨?_⟩;intro Q0 n0 r0;have T:=tq3 Ty.t3 Ty.t9 Ty.t32;have F:=Fc.mk True.intro;refine yR [0] ⟨?_⟩;refine b0e ?_;intros;refine yR [0,5,6,7] ⟨?_⟩;refine b0i ?_;intros;refine b08 (fun i=>⟨[(0,.sl (l.map V.str)),(5,.sl (l.map V.str)),(6,.int .i64 l.length),(7,.int .i64 (Nat.cast i))],[],false,24,0⟩) (fun i=>i≤l.length∧b1v (fun _:ByteArray=>true) b2x l i=b1v (fun _:ByteArray=>true) b2x l 0) (fun i=>l.length - i) 0 ?_ ?_ ?_
 ·refine b2a [0,5,6,7] ?_;simp only [b02,b0n,b0l,b0j,b0u,Nat.reduceEqDiff,reduceIte];rfl
 ·exact ⟨qle _,rfl⟩
 ·rintro i hok5 Q5 n5 e5 r5;obtain ⟨hi1,hR⟩:=hok5;refine yR [0,5,6,7,8] ⟨?_⟩;refine b0e ?_;intros;refine b0a _ rfl ?_ ?_
  ·intro hc0;have hlt:i < l.length:=by omega
   obtain ⟨x,hx⟩:∃x,l[i]? =some x:=⟨l[i],qla hlt⟩;rcases ql8 i with h0 | h0
   ·skip;have hi0:¬((0:Int) < (i:Int)):=by omega
    have hst:b1v (fun _:ByteArray=>true) b2x l i=b1v (fun _:ByteArray=>true) b2x l (i+1):=by have q:=b7y (ok:=(fun _:ByteArray=>true)) (bf:=b2x) (l:=l) (x:=x) (by subst h0;exact hx);subst h0;simpa using q
    refine zn [0,5,6,7] ⟨?_⟩;refine b0e ?_;intros;refine b0i ?_;intros;have F:=fq4 (gdm hx) hi0 @decide_false @qmh;refine yR [0,3,4,5,6,7] ⟨?_⟩;refine yR [0,5,6,7,22] ⟨?_⟩;refine b18 _ rfl ?_ ?_
    ·intro hc1;exfalso;simp at hc1
    ·intro hc1;try simp only [zC,reduceCtorEq] at hc1
     refine zn [0,5,6,7] ⟨?_⟩;refine yV ⟨?_⟩;refine n5 _ (i+1) ?_ ?_ ?_
     ·refine b0d [0,5,6,7] [] ⟨?_⟩;rfl
     ·exact ⟨by omega,by first | (rw [←hR,hst];done) | (rw [←hR,hst];(try simp at hc1);first | (simp [hc1];done) | (simp;done) | rfl)⟩
     ·show _ < _;omega
   ·skip;obtain ⟨y,hy⟩:∃y,l[i - 1]? =some y:=⟨_,qla (by omega)⟩;have hi0:(0:Int) < i:=by omega
    have hk:((i:Int) - 1).toNat=i - 1:=by omega
    have hst:=b76 (ok:=(fun _:ByteArray=>true)) (bf:=b2x) h0 hy hx;refine zn [0,5,6,7] ⟨?_⟩;refine b0e ?_;intros;refine b0i ?_;intros;have F:=fq6 (gdm hx) hi0 hk (gdm hy) @decide_true @qmm;refine yR [0,3,4,5,6,7] ⟨?_⟩;refine yR [0,5,6,7,22] ⟨?_⟩;refine b0a _ rfl ?_ ?_
    ·intro hc1;refine yR [2] ⟨?_⟩;refine zr ⟨?_⟩;exact b0g rfl (by rw [←hR,hst];(try simp at hc1);simp [hc1]) (.inl rfl)
    ·intro hc1;refine zn [0,5,6,7] ⟨?_⟩;refine yV ⟨?_⟩;refine n5 _ (i+1) ?_ ?_ ?_
     ·refine b0d [0,5,6,7] [] ⟨?_⟩;rfl
     ·exact ⟨by omega,by first | (rw [←hR,hst];done) | (rw [←hR,hst];(try simp at hc1);first | (simp [hc1];done) | (simp;done) | rfl)⟩
     ·show _ < _;omega
  ·intro hc0;refine zn [] ⟨?_⟩;refine yR [2] ⟨?_⟩;refine zr ⟨?_⟩;exact b0g rfl (by rw [←hR,b9f (by omega)]) (.inl rfl)
theorem b8h (fl:List TA) (s:ByteArray):b3o fl s=-1∨∃(k:Nat) (x:TA),b3o fl s=(k:Int)∧fl[k]? =some x∧x.1=s:=by
  by_cases h:b3o fl s=-1
  · exact .inl h
  · obtain ⟨k,h1,h2,_,x,h4,h5⟩:=c1w h
    exact .inr ⟨k,x,by rw [b3o,h2,Nat.zero_add],h4,by simpa using h5⟩
def c3u (l:List Int):Bool:=decide ((l.length:Int)=4) && l.all (fun x:Int=>inR x 0 6)
theorem b6u {l:List Int} (h:c3u l=true):l.length=4∧∀x∈l,0≤x∧x≤6:=by
  simp only [c3u,Bool.and_eq_true,decide_eq_true_eq,List.all_eq_true,inR] at h;exact ⟨by omega,h.2⟩
theorem c1q (l:List Int) (hl:l.length≤1048576):Con Tryz.prog 98 [.sl (l.map (V.int .i64))] [] (.bool (c3u l)) []:=by
 refine zcn [.tmp 2] [] Tryz.func98 Tryz.ntmps98 ⟨?_⟩;intro Q0 n0 r0;have T:=tq3 Ty.t3 Ty.t4 Ty.t35;have F:=Fc.mk True.intro;refine yR [0] ⟨?_⟩;refine b0e ?_;intros;refine yR [0,5,6,7] ⟨?_⟩;refine b0i ?_;intros;refine b08 (fun i=>⟨[(0,.sl (l.map (V.int .i64))),(5,.sl (l.map (V.int .i64))),(6,.int .i64 l.length),(7,.int .i64 (Nat.cast i))],[],false,18,0⟩) (fun i=>i≤l.length∧(l.drop i).all (fun x:Int=>inR x 0 6)=l.all (fun x:Int=>inR x 0 6)) (fun i=>l.length - i) 0 ?_ ?_ ?_
 ·refine b2a [0,5,6,7] ?_;simp only [b02,b0n,b0l,b0j,b0u,Nat.reduceEqDiff,reduceIte];rfl
 ·exact ⟨qle _,rfl⟩
 ·rintro i hok5 Q5 n5 e5 r5;obtain ⟨hi1,hR⟩:=hok5;refine yR [0,5,6,7,8] ⟨?_⟩;refine b0e ?_;intros;refine b0a _ rfl ?_ ?_
  ·intro hc0;have hlt:i < l.length:=by omega
   obtain ⟨x,hx⟩:∃x,l[i]? =some x:=⟨_,qla hlt⟩;have hst:=b65 (p:=(fun x:Int=>inR x 0 6)) hx;refine zn [0,5,6,7] ⟨?_⟩;refine b0e ?_;intros;refine b0i ?_;intros;have F:=Fc.mk (gdm hx);refine yR [0,4,5,6,7] ⟨?_⟩;refine yRc [0,5,6,7,13] (b4d _ _ _) ⟨?_⟩;refine b0a _ rfl ?_ ?_
   ·intro hc1;refine yR [2] ⟨?_⟩;refine zr ⟨?_⟩;exact b0g rfl (by rw [c3u,←hR,hst];(try simp at hc1);simp [inR];intros;omega) (.inl rfl)
   ·intro hc1;refine zn [0,5,6,7] ⟨?_⟩;refine yV ⟨?_⟩;refine n5 _ (i+1) ?_ ?_ ?_
    ·refine b0d [0,5,6,7] [] ⟨?_⟩;rfl
    ·exact ⟨by omega,by rw [←hR,hst];(try simp at hc1);simp [inR];intros;omega⟩
    ·show _ < _;omega
  ·intro hc0;refine zn [0] ⟨?_⟩;refine yR [2] ⟨?_⟩;refine zr ⟨?_⟩;exact b0g rfl (by rw [c3u,←hR,b9c (by omega)];simp) (.inl rfl)
theorem c9x (l:List Int) (hl:l.length≤1048576):Con Tryz.prog 154 [.sl (l.map (V.int .i64))] [] (.bool (c3u l)) []:=by
 refine zcn [.tmp 2] [] Tryz.func154 Tryz.ntmps154 ⟨?_⟩;intro Q0 n0 r0;have T:=tq3 Ty.t3 Ty.t4 Ty.t35;have F:=Fc.mk True.intro;refine yR [0] ⟨?_⟩;refine yRg [2] (c65 l 0 6 hl) ⟨?_⟩;refine zr ⟨?_⟩;exact b0g rfl (by simp [c3u,inR]) (.inl rfl)
theorem c03 (l:List Int) (hl:l.length≤1048576):Con Tryz.prog 101 [.sl (l.map (V.int .i64))] [] (.ref 0) [.arr (l.map (V.int .i64)) .flat]:=by
 have hns:(l.map (V.int .i64)).all V.noSl=true:=by rw [List.all_map,qlf];intro a _;rfl
 refine zcn [.tmp 2] [] Tryz.func101 Tryz.ntmps101 ⟨?_⟩;intro Q0 n0 r0;have T:=tq2 Ty.t3 Ty.t35;have F:=Fc.mk True.intro;have F:=Fc.mk hns;refine yR [0] ⟨?_⟩;refine b0e ?_;intros;refine b1l [0,4] ?_;intro K3 k3;refine b15 ⟨?_⟩;refine f91 ⟨?_⟩;intro nb4 hnb4;refine k3 _ ?_;refine zk ⟨?_⟩;refine b0a _ rfl ?_ ?_
 ·intro hc0;have hnil:l=[]:=by cases l with | nil=>rfl | cons a b=>have:=hnb4 (by simp);rw [hc0] at this;cases this
  refine yR [2] ⟨?_⟩;refine zr ⟨?_⟩;rw [hnil];exact b1t rfl rfl rfl
 ·intro hc0;refine zn [0] ⟨?_⟩;refine yR [2] ⟨?_⟩;refine zr ⟨?_⟩;exact b1t rfl rfl (by simp)
end Go.Proofs.YtmbbjhopngejaaaGreatDoor
