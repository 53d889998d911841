/- What functions compute. No condition. -/
import Derived.Test.YtaefoaghpehbpaaGreatUz
import Derived.Test.YtaefoaghpehbpaaGreatUty
import Derived.Test.YtaefoaghpehbpaaGreatUmG
import Derived.Test.YtaefoaghpehbpaaGreatX7
import Derived.Test.YtaefoaghpehbpaaGreatX5
import Derived.Test.YtaefoaghpehbpaaGreatX6
import Derived.Test.YtaefoaghpehbpaaGreatX1
import Derived.Test.YtaefoaghpehbpaaGreatX3
set_option linter.unusedSimpArgs false
set_option linter.unusedVariables false
set_option linter.defProp false
namespace Go.Proofs.YtaefoaghpehbpaaGreat
open Go Go.Vm
set_option maxHeartbeats 8000000
theorem f2i {fl:List TA} {ts:List Int} {i:Nat} {x:TA} (h:fl[i]? =some x):d93 (fl.take (i+1)) ts=d93 (fl.take i) ts++[Tm.at_ ts x.2.2.1.toNat]:=by
  rw [d93,List.take_add_one,h,Option.toList,List.map_append];rfl
theorem f4b (fl:List TA) (ts:List Int):(d93 fl ts).length=fl.length:=by rw [d93,List.length_map]
theorem f2g {lt:Int→Int→Bool} {p:List Int} {x:Int} {j:Nat} (h:b72 lt x p p.length=j):d95 lt p x=p.take j++x::p.drop j:=by rw [d95,h]
theorem c3l (l:List Int) (hl:l.length≤1048576):Con Tryz.prog 110 [.sl (l.map (V.int .i64))] [] (.ref 0) [.arr (l.map (V.int .i64)) .flat]:=by
 have hns:(l.map (V.int .i64)).all V.noSl=true:=by rw [List.all_map,List.all_eq_true];intro a _;rfl
 refine b05 [.tmp 2] [] Tryz.func110 rfl rfl rfl (by simp [Tryz.ntmps110]) ?_
 intro Q0 n0 r0
 simp only [Tryz.ntmps110,b0l,Nat.reduceAdd]
 have T:=Tys.mk (ai Ty.t3 Ty.t75)
 have F:=Fc.mk True.intro
 have F:=Fc.mk hns
 refine yR [0] ⟨?_⟩;refine yR [2] ⟨?_⟩;refine zr ⟨?_⟩
 exact b1t rfl rfl (by simp)
set_option maxRecDepth 8000 in
theorem dsReady_con (n:Int) (ss:List TS) (fl:List TA) (node:Int) (hd:DsFacts n ss fl) (hu:0≤node∧node < n):Con Tryz.prog 209 [.agg [.int .i64 n,.sl (ss.map (fun t:TS=>V.agg [V.int .i64 t.1,V.int .i64 t.2.1,V.int .i64 t.2.2]))],.sl (fl.map (fun t:TA=>V.agg [V.str t.1,V.int .i64 t.2.1,V.int .i64 t.2.2.1,V.int .i64 t.2.2.2.1,V.int .i64 t.2.2.2.2])),.int .i64 node] [] (.tup [.ref 0,.ref 1]) [.arr ((b8a fl (tmL n ss node)).map (V.int .i64)) .flat,.arr ((d93 fl (tmL n ss node)).map (V.int .i64)) .flat]:=by
 have hfl:=hd.hfl
 obtain ⟨ts,hts⟩:∃ts,ts=tmL n ss node:=⟨_,rfl⟩
 have htl:ts.length=n.toNat:=by rw [hts,c21]
 have htb:=c58 hd.hn hu hd.hss hd.hsl
 rw [←hts] at htb⊢
 have hn14:=hd.hn
 have hvalid:∀{a:Int},a∈b2c fl ts fl.length→∃(k:Nat) (x:TA) (w:Nat),a=(k:Int)∧fl[k]? =some x∧x.2.2.1=(w:Int)∧w < ts.length:=by
  intro a ha
  obtain ⟨k,x,h1,h2,h3,_⟩:=b8t fl ts _ a ha
  have hap:=hd.hap _ (List.mem_of_getElem? h3)
  obtain ⟨w,hw⟩:=Int.eq_ofNat_of_zero_le hap.2.1
  exact ⟨k,x,w,h1,h3,hw,by rw [htl];omega⟩
 have hrl:=b8x fl ts fl.length
 refine b05 [.tmp 6,.tmp 7] [] Tryz.func209 rfl rfl rfl (by simp [Tryz.ntmps209]) ?_
 intro Q0 n0 r0
 simp only [Tryz.ntmps209,b0l,Nat.reduceAdd]
 have T:=Tys.mk (ai Ty.t3 (ai Ty.t4 (ai Ty.t9 (ai Ty.t32 (ai Ty.t39 (ai Ty.t41 (ai Ty.t75 (ai Ty.t96 Ty.t169))))))))
 have F:=Fc.mk True.intro
 refine yR [1,2,3] ⟨?_⟩;refine yRc [1,8] ((hts ▸ d4r n ss node hd.hn hu hd.hss hd.hsl:Con _ _ _ _ _ [.arr (ts.map (V.int .i64)) .flat])) ⟨?_⟩;refine yR [1,8,9,10] ⟨?_⟩;refine b0c ?_;intros;refine yR [1,8,9,10,17,18,19] ⟨?_⟩;refine b0g ?_;intros;refine b08 (fun i=>⟨[(1,.sl (fl.map (fun t:TA=>V.agg [V.str t.1,V.int .i64 t.2.1,V.int .i64 t.2.2.1,V.int .i64 t.2.2.2.1,V.int .i64 t.2.2.2.2]))),(8,.ref 0),(9,.ref 1),(10,.ref 2),(17,.sl (fl.map (fun t:TA=>V.agg [V.str t.1,V.int .i64 t.2.1,V.int .i64 t.2.2.1,V.int .i64 t.2.2.2.1,V.int .i64 t.2.2.2.2]))),(18,.int .i64 fl.length),(19,.int .i64 (Nat.cast i))],[.arr (ts.map (V.int .i64)) .flat,.arr ((b2z (b47 fl ts) (b2c fl ts i)).map (V.int .i64)) .flat,.arr ((d93 (fl.take i) ts).map (V.int .i64)) .flat],false,83,0⟩) (fun i=>i≤fl.length) (fun i=>fl.length - i) 0 ?_ ?_ ?_
 ·refine b0b [1,8,9,10,17,18,19] [3,4,5] ⟨?_⟩
  rfl
 ·exact Nat.zero_le _
 ·rintro i hok7 Q7 n7 e7 r7
  have hi1:i≤fl.length:=hok7
  refine yR [1,8,9,10,17,18,19,20] ⟨?_⟩;refine b0c ?_;intros;refine b0d _ rfl ?_ ?_
  ·intro hc0
   have hlt:i < fl.length:=by omega
   obtain ⟨⟨x0,x1,x2,x3,x4⟩,hx⟩:∃x:TA,fl[i]? =some x:=⟨fl[i]'(by omega),List.getElem?_eq_getElem (by omega)⟩
   have hap:=hd.hap _ (List.mem_of_getElem? hx)
   simp only [] at hap
   obtain ⟨w,hw⟩:=Int.eq_ofNat_of_zero_le hap.2.1
   subst hw
   obtain ⟨p,hp⟩:∃p,ts[w]? =some p:=⟨_,List.getElem?_eq_getElem (by rw [htl];omega)⟩
   have hwl:w < ts.length:=by rw [htl];omega
   have hpb:=htb w
   rw [Tm.at_get hp] at hpb
   have hrp:=d63 (fl:=fl) (x:=(x0,x1,(w:Int),x3,x4)) rfl hp
   have hst:=c91 (ts:=ts) hx
   have hrl2:=b8x fl ts i
   have hki:=c6u (ts:=ts) hx rfl hp
   have hal:=f2i (ts:=ts) hx
   simp only [Int.toNat_natCast,Tm.at_get hp] at hal
   have hall:=f4b (fl.take i) ts
   have hlti:(fl.take i).length=i:=by rw [List.length_take];omega
   have hpl:=c61 (b47 fl ts) (b2c fl ts i)
   refine zn [1,8,9,10,17,18,19] ⟨?_⟩;refine b0c ?_;intro Q11 n11 e11 r11;refine b0g ?_;intro Q12 n12 x12 e12 r12
   have F:=Fc.mk (ai (gdm hx) (gdm hp))
   refine yR [1,8,9,10,11,12,17,18,19] ⟨?_⟩;refine yR [1,8,9,10,11,12,17,18,19] ⟨?_⟩;refine b0c ?_;intros;refine yRc [1,8,9,10,11,12,17,18,19,42] (d56 x0 x1 (w:Int) x3 x4 hap.1) ⟨?_⟩;refine b0d _ rfl ?_ ?_
   ·intro hc1
    have hr1:¬c0l fl ts (x0,x1,(w:Int),x3,x4)=true:=by
     rw [hrp]
     intro h
     simp only [Bool.and_eq_true,decide_eq_true_eq] at h
     first
     |(rcases hc1 with q | q;· (rw [h.1] at q;cases q);· omega)
     |(simp [h.1] at hc1;omega)
     |(have:=hc1 h.1;omega)
    refine zn [1,8,9,10,17,18,19] ⟨?_⟩;refine yV ⟨?_⟩;refine n7 _ (i+1) ?_ ?_ ?_
    ·refine b0b [1,8,9,10,17,18,19] [0,1,5] ⟨?_⟩
     rw [hst,if_neg hr1,hal,List.map_append];rfl
    ·exact hlt
    ·show _ < _;omega
   ·intro hc1
    have hr1:c0l fl ts (x0,x1,(w:Int),x3,x4)=true:=by rw [hrp];simpa using hc1
    refine zn [1,8,9,10,11,12,17,18,19] ⟨?_⟩;refine yR [1,8,9,10,11,12,13,17,18,19] ⟨?_⟩;refine f1r (A:=Nat) (fun e1=>⟨[(1,.sl (fl.map (fun t:TA=>V.agg [V.str t.1,V.int .i64 t.2.1,V.int .i64 t.2.2.1,V.int .i64 t.2.2.2.1,V.int .i64 t.2.2.2.2]))),(8,.ref 0),(9,.ref 1),(10,.ref 3),(11,.int .i64 (Nat.cast i)),(13,.int .i64 (Nat.cast e1)),(17,.sl (fl.map (fun t:TA=>V.agg [V.str t.1,V.int .i64 t.2.1,V.int .i64 t.2.2.1,V.int .i64 t.2.2.2.1,V.int .i64 t.2.2.2.2]))),(18,.int .i64 fl.length),(19,.int .i64 (Nat.cast i))],[.arr (ts.map (V.int .i64)) .flat,.arr ((b2z (b47 fl ts) (b2c fl ts i)).map (V.int .i64)) .flat,.box (.agg [V.str x0,V.int .i64 x1,V.int .i64 (Nat.cast w),V.int .i64 x3,V.int .i64 x4]) .flat,.arr ((d93 (fl.take (i+1)) ts).map (V.int .i64)) .flat],false,83,0⟩) (fun e1=>e1≤(b2z (b47 fl ts) (b2c fl ts i)).length∧d95 (b47 fl ts) (b2z (b47 fl ts) (b2c fl ts i)) (i:Int)=(b2z (b47 fl ts) (b2c fl ts i)).take e1++(i:Int)::(b2z (b47 fl ts) (b2c fl ts i)).drop e1) ?_ ?_
    ·intro Q20 n20 e20 r20
     refine b0g ?_;intros;refine b08 (fun j=>⟨[(1,.sl (fl.map (fun t:TA=>V.agg [V.str t.1,V.int .i64 t.2.1,V.int .i64 t.2.2.1,V.int .i64 t.2.2.2.1,V.int .i64 t.2.2.2.2]))),(8,.ref 0),(9,.ref 1),(10,.ref 3),(11,.int .i64 (Nat.cast i)),(12,.ptr 2 0 0),(13,.int .i64 (Nat.cast j)),(17,.sl (fl.map (fun t:TA=>V.agg [V.str t.1,V.int .i64 t.2.1,V.int .i64 t.2.2.1,V.int .i64 t.2.2.2.1,V.int .i64 t.2.2.2.2]))),(18,.int .i64 fl.length),(19,.int .i64 (Nat.cast i))],[.arr (ts.map (V.int .i64)) .flat,.arr ((b2z (b47 fl ts) (b2c fl ts i)).map (V.int .i64)) .flat,.box (.agg [V.str x0,V.int .i64 x1,V.int .i64 (Nat.cast w),V.int .i64 x3,V.int .i64 x4]) .flat,.arr ((d93 (fl.take (i+1)) ts).map (V.int .i64)) .flat],false,83,0⟩) (fun j=>j≤(b2z (b47 fl ts) (b2c fl ts i)).length∧b72 (b47 fl ts) (i:Int) (b2z (b47 fl ts) (b2c fl ts i)) j=b72 (b47 fl ts) (i:Int) (b2z (b47 fl ts) (b2c fl ts i)) (b2z (b47 fl ts) (b2c fl ts i)).length) (fun j=>j) (b2z (b47 fl ts) (b2c fl ts i)).length ?_ ?_ ?_
     ·refine b0b [1,8,9,10,11,12,13,17,18,19] [0,1,3,5] ⟨?_⟩
      rw [hal,List.map_append];rfl
     ·exact ⟨Nat.le_refl _,rfl⟩
     ·rintro j hok22 Q22 n22 e22 r22
      obtain ⟨hj1,hR2⟩:=hok22
      rcases Nat.eq_zero_or_pos j with hj00 | hj00
      ·skip
       have hj0:¬((0:Int) < (j:Int)):=by omega
       refine b0c ?_;intros;refine b0c ?_;intro Q24 n24 e24 r24;refine b1p (by kernel_rfl) ?_;intro K25 q25 k25
       show b14 _ _ _ _ 22 (Array.replicate 22 false) _
       have F:=Fc.mk (ai (gdm hx) (ai (gdm hp) (ai hj0 (ai @decide_false @Bool.and_false))))
       refine b0o q25 true 0 45 ?_;refine b2a q25 true 1 46 ?_;refine b0o q25 true 2 47 ?_;refine b0y q25 true 3 48 ?_;refine b0y q25 true 4 49 ?_;refine b0y q25 true 5 50 ?_;refine b0y q25 true 6 51 ?_;refine b2e q25 true 7 52 ?_;refine b0x q25 true 8 53 ?_;refine b0q q25 true 9 54 ?_;refine b0x q25 true 10 55 ?_;refine b0e q25 true 11 56 ?_;refine b0q q25 true 12 57 ?_;refine b0x q25 true 13 58 ?_;refine b0q q25 true 14 59 ?_;refine b0y q25 true 15 60 ?_;refine b0e q25 true 16 61 ?_;refine b0q q25 true 17 62 ?_;refine b0x q25 true 18 63 ?_;refine b0q q25 true 19 64 ?_;refine b0z q25 true 20 65 ?_;refine b1w q25 true 21 66 ?_;refine b0j (by kernel_rfl) ?_;refine k25 _ ?_;refine n24 _ _ (b0f [1,8,9,10,11,12,13,17,18,19,66] _) ?_;refine zk ⟨?_⟩;refine b1z _ rfl ?_ ?_
       ·intro hc2
        exfalso;simp [hj0] at hc2
       ·intro hc2
        try simp only [zC,reduceCtorEq] at hc2
        refine zx ⟨?_⟩;refine n20 j _ ?_ ?_
        ·exact ⟨hj1,f2g (by rw [←hR2,hj00];rfl)⟩
        ·exact b3r [1,8,9,10,11,13,17,18,19] [0,1,2,3]
      ·skip
       obtain ⟨m,rfl⟩:∃m,j=m+1:=⟨j - 1,by omega⟩
       have hj0:(0:Int) < ((m+1:Nat):Int):=by omega
       obtain ⟨b,hyp⟩:∃y,(b2z (b47 fl ts) (b2c fl ts i))[m]? =some y:=⟨_,List.getElem?_eq_getElem (by omega)⟩
       have hk:(((m+1:Nat):Int) - 1).toNat=m:=by omega
       obtain ⟨kb,xb,hb1,hb2,hb3,_⟩:=b8t fl ts i b (c6r.1 (List.mem_of_getElem? hyp))
       have hb:∃(k:Nat) (x:TA) (w:Nat),b=(k:Int)∧fl[k]? =some x∧x.2.2.1=(w:Int)∧w < ts.length:=by
        have hapb:=hd.hap _ (List.mem_of_getElem? hb3)
        obtain ⟨v,hv⟩:=Int.eq_ofNat_of_zero_le hapb.2.1
        exact ⟨kb,xb,v,hb1,hb3,hv,by rw [htl];omega⟩
       obtain ⟨k2,⟨y0,y1,y2,y3,y4⟩,v,rfl,hy,hbw,hbl⟩:=hb
       simp only [] at hbw
       subst hbw
       obtain ⟨q,hq⟩:∃p,ts[v]? =some p:=⟨_,List.getElem?_eq_getElem hbl⟩
       have hk2l:k2 < fl.length:=(List.getElem?_eq_some_iff.1 hy).1
       have ek2:=c6u (ts:=ts) hy rfl hq
       refine b0c ?_;intros;refine b0c ?_;intro Q28 n28 e28 r28;refine b1p (by kernel_rfl) ?_;intro K29 q29 k29
       show b14 _ _ _ _ 22 (Array.replicate 22 false) _
       have F:=Fc.mk (ai (gdm hx) (ai (gdm hp) (ai hj0 (ai @decide_true (ai @Bool.and_true (ai hk (ai (gdm hyp) (ai (gdm hy) (gdm hq)))))))))
       refine b0o q29 true 0 45 ?_;refine b2a q29 true 1 46 ?_;refine b0o q29 true 2 47 ?_;refine b0y q29 true 3 48 ?_;refine b0y q29 true 4 49 ?_;refine b0y q29 true 5 50 ?_;refine b0y q29 true 6 51 ?_;refine b2e q29 true 7 52 ?_;refine b0x q29 true 8 53 ?_;refine b0q q29 true 9 54 ?_;refine b0x q29 true 10 55 ?_;refine b0e q29 true 11 56 ?_;refine b0q q29 true 12 57 ?_;refine b0x q29 true 13 58 ?_;refine b0q q29 true 14 59 ?_;refine b0y q29 true 15 60 ?_;refine b0e q29 true 16 61 ?_;refine b0q q29 true 17 62 ?_;refine b0x q29 true 18 63 ?_;refine b0q q29 true 19 64 ?_;refine b0z q29 true 20 65 ?_;refine b1w q29 true 21 66 ?_;refine b0j (by kernel_rfl) ?_;refine k29 _ ?_;refine n28 _ _ (b0f [1,8,9,10,11,12,13,17,18,19,66] _) ?_;refine zk ⟨?_⟩;refine b0d _ rfl ?_ ?_
       ·intro hc2
        have hlc:b47 fl ts (i:Int) (k2:Int)=true:=by rw [b47,hki,ek2];simpa [hj0] using hc2
        refine zn [1,8,9,10,11,12,13,17,18,19] ⟨?_⟩;refine b0g ?_;intros;refine yV ⟨?_⟩;refine n22 _ m ?_ ?_ ?_
        ·refine b0b [1,8,9,10,11,12,13,17,18,19] [0,1,2,3] ⟨?_⟩
         rw [show ((m+1:Nat):Int) - 1=(m:Int) by omega]
        ·exact ⟨by omega,by rw [←hR2,c9y hyp hlc]⟩
        ·show m < m+1;omega
       ·intro hc2
        refine zx ⟨?_⟩;refine n20 (m+1) _ ?_ ?_
        ·exact ⟨hj1,f2g (by rw [←hR2,c8p hyp (by rw [b47,hki,ek2];simpa [hj0] using hc2)])⟩
        ·exact b3r [1,8,9,10,11,13,17,18,19] [0,1,2,3]
    ·rintro e1 hok20
     obtain ⟨hj1,hend⟩:=hok20
     skip
     ·skip
      have htk:((b2z (b47 fl ts) (b2c fl ts i)).take e1).length=e1:=by rw [List.length_take];omega
      have hcon:=c3l ((b2z (b47 fl ts) (b2c fl ts i)).take e1) (by omega)
      have hdt:List.take ((b2z (b47 fl ts) (b2c fl ts i)).length - e1) (List.drop e1 (List.map (V.int .i64) (b2z (b47 fl ts) (b2c fl ts i))))=List.map (V.int .i64) ((b2z (b47 fl ts) (b2c fl ts i)).drop e1):=by rw [←List.map_drop,List.take_of_length_le (by simp)]
      have hsn:List.map (V.int .i64) ((b2z (b47 fl ts) (b2c fl ts i)).take e1)++[V.int .i64 (i:Int)]=List.map (V.int .i64) ((b2z (b47 fl ts) (b2c fl ts i)).take e1++[(i:Int)]):=f7w
      refine b1p (by kernel_rfl) ?_;intro K33 q33 k33
      show b14 _ _ _ _ 12 (Array.replicate 12 false) _
      have F:=Fc.mk (ai (gdm hx) (ai (gdm hp) (ai hdt hsn)))
      refine b0o q33 true 0 69 ?_;refine b0o q33 true 1 70 ?_;refine b7m q33 true 2 71 ?_;refine b0o q33 true 4 73 ?_;refine b0o q33 false 7 76 ?_;refine b0o q33 false 8 77 ?_;refine b58 3 5 9 rfl rfl rfl (by kernel_rfl) ?_ ?_ ?_
      ·refine zsc (hcon) ⟨?_⟩
       refine b1s 5 9 rfl rfl (by kernel_rfl) ?_ ?_
       ·refine b1u ⟨?_⟩
        refine b1s 6 9 rfl rfl (by kernel_rfl) ?_ ?_
        ·refine b2v ⟨?_⟩
         refine b7m q33 true 9 78 ?_;refine b0u 10 ⟨?_⟩;refine b0t 11 ⟨?_⟩;refine b0j (by kernel_rfl) ?_;refine k33 _ ?_;refine n12 _ ?_;refine n11 _ _ (b0f [1,8,9,10,17,18,19] _) ?_;refine zk ⟨?_⟩;refine yV ⟨?_⟩;refine n7 _ (i+1) ?_ ?_ ?_
         ·refine b0b [1,8,9,10,17,18,19] [0,7,3] ⟨?_⟩
          rw [hst,if_pos hr1,b4w,hend,←List.map_append,List.append_assoc]
          try rfl
         ·exact hlt
         ·show _ < _;omega
        ·refine b3i ⟨?_⟩
         refine b0u 6 ⟨?_⟩;refine b0u 10 ⟨?_⟩;refine b0t 11 ⟨?_⟩;refine b0j (by kernel_rfl) ?_;refine k33 _ ?_;refine n12 _ ?_;refine n11 _ _ (b0f [1,8,9,10,17,18,19] _) ?_;refine zk ⟨?_⟩;refine yV ⟨?_⟩;refine n7 _ (i+1) ?_ ?_ ?_
         ·refine b0b [1,8,9,10,17,18,19] [0,7,3] ⟨?_⟩
          rw [hst,if_pos hr1,b4w,hend,←List.map_append,List.append_assoc]
          try rfl
         ·exact hlt
         ·show _ < _;omega
       ·refine b3i ⟨?_⟩
        refine b12 5 ⟨?_⟩;refine b0u 6 ⟨?_⟩;refine b0u 10 ⟨?_⟩;refine b0t 11 ⟨?_⟩;refine b0j (by kernel_rfl) ?_;refine k33 _ ?_;refine n12 _ ?_;refine n11 _ _ (b0f [1,8,9,10,17,18,19] _) ?_;refine zk ⟨?_⟩;refine yV ⟨?_⟩;refine n7 _ (i+1) ?_ ?_ ?_
        ·refine b0b [1,8,9,10,17,18,19] [0,7,3] ⟨?_⟩
         rw [hst,if_pos hr1,b4w,hend,←List.map_append,List.append_assoc]
         try rfl
        ·exact hlt
        ·show _ < _;omega
      ·refine b1u ⟨?_⟩
       refine b1s 3 9 rfl rfl (by kernel_rfl) ?_ ?_
       ·refine zsc (hcon) ⟨?_⟩
        refine b1s 6 9 rfl rfl (by kernel_rfl) ?_ ?_
        ·refine b2v ⟨?_⟩
         refine b7m q33 true 9 78 ?_;refine b0u 10 ⟨?_⟩;refine b0t 11 ⟨?_⟩;refine b0j (by kernel_rfl) ?_;refine k33 _ ?_;refine n12 _ ?_;refine n11 _ _ (b0f [1,8,9,10,17,18,19] _) ?_;refine zk ⟨?_⟩;refine yV ⟨?_⟩;refine n7 _ (i+1) ?_ ?_ ?_
         ·refine b0b [1,8,9,10,17,18,19] [0,7,3] ⟨?_⟩
          rw [hst,if_pos hr1,b4w,hend,←List.map_append,List.append_assoc]
          try rfl
         ·exact hlt
         ·show _ < _;omega
        ·refine b3i ⟨?_⟩
         refine b0u 6 ⟨?_⟩;refine b0u 10 ⟨?_⟩;refine b0t 11 ⟨?_⟩;refine b0j (by kernel_rfl) ?_;refine k33 _ ?_;refine n12 _ ?_;refine n11 _ _ (b0f [1,8,9,10,17,18,19] _) ?_;refine zk ⟨?_⟩;refine yV ⟨?_⟩;refine n7 _ (i+1) ?_ ?_ ?_
         ·refine b0b [1,8,9,10,17,18,19] [0,7,3] ⟨?_⟩
          rw [hst,if_pos hr1,b4w,hend,←List.map_append,List.append_assoc]
          try rfl
         ·exact hlt
         ·show _ < _;omega
       ·refine b3i ⟨?_⟩
        refine zoc 3 (hcon) ⟨?_⟩;refine b0u 6 ⟨?_⟩;refine b0u 10 ⟨?_⟩;refine b0t 11 ⟨?_⟩;refine b0j (by kernel_rfl) ?_;refine k33 _ ?_;refine n12 _ ?_;refine n11 _ _ (b0f [1,8,9,10,17,18,19] _) ?_;refine zk ⟨?_⟩;refine yV ⟨?_⟩;refine n7 _ (i+1) ?_ ?_ ?_
        ·refine b0b [1,8,9,10,17,18,19] [0,7,3] ⟨?_⟩
         rw [hst,if_pos hr1,b4w,hend,←List.map_append,List.append_assoc]
         try rfl
        ·exact hlt
        ·show _ < _;omega
      ·refine b3i ⟨?_⟩
       refine b1s 3 5 rfl rfl (by kernel_rfl) ?_ ?_
       ·refine zsc (hcon) ⟨?_⟩
        refine b12 5 ⟨?_⟩;refine b0u 6 ⟨?_⟩;refine b0u 10 ⟨?_⟩;refine b0t 11 ⟨?_⟩;refine b0j (by kernel_rfl) ?_;refine k33 _ ?_;refine n12 _ ?_;refine n11 _ _ (b0f [1,8,9,10,17,18,19] _) ?_;refine zk ⟨?_⟩;refine yV ⟨?_⟩;refine n7 _ (i+1) ?_ ?_ ?_
        ·refine b0b [1,8,9,10,17,18,19] [0,7,3] ⟨?_⟩
         rw [hst,if_pos hr1,b4w,hend,←List.map_append,List.append_assoc]
         try rfl
        ·exact hlt
        ·show _ < _;omega
       ·refine b1u ⟨?_⟩
        refine zoc 3 (hcon) ⟨?_⟩;refine b0u 6 ⟨?_⟩;refine b0u 10 ⟨?_⟩;refine b0t 11 ⟨?_⟩;refine b0j (by kernel_rfl) ?_;refine k33 _ ?_;refine n12 _ ?_;refine n11 _ _ (b0f [1,8,9,10,17,18,19] _) ?_;refine zk ⟨?_⟩;refine yV ⟨?_⟩;refine n7 _ (i+1) ?_ ?_ ?_
        ·refine b0b [1,8,9,10,17,18,19] [0,7,3] ⟨?_⟩
         rw [hst,if_pos hr1,b4w,hend,←List.map_append,List.append_assoc]
         try rfl
        ·exact hlt
        ·show _ < _;omega
  ·intro hc0
   have hend:i=fl.length:=by omega
   subst hend
   refine zn [9,10] ⟨?_⟩;refine yR [6,7] ⟨?_⟩;refine zr ⟨?_⟩
   exact c0e [1,2] rfl rfl (by decide) rfl (by simp [b8a]) (by simp [Blk.kindIs]) rfl
def b46 (x:ByteArray):Nat→List ByteArray→Int
  | _,[]=>-1
  | i,y::l=>if x=y then i else b46 x (i+1) l
theorem f1g {x y:ByteArray} {l:List ByteArray} {i:Nat} (h:l[i]? =some y):b46 x i (l.drop i)=if x=y then (i:Int) else b46 x (i+1) (l.drop (i+1)):=by
  rw [b0r h,b46]
theorem f4o {x:ByteArray} {l:List ByteArray} {i k:Nat} (h:l.length≤i):b46 x k (l.drop i)=-1:=by
  rw [List.drop_of_length_le h,b46]
def inS (x:ByteArray) (l:List ByteArray):Bool:=l.any fun y=>decide (x=y)
theorem d7e (x:ByteArray):∀(l:List ByteArray) (i:Nat),decide (0≤b46 x i l)=inS x l
  | [],i=>by rw [b46];rfl
  | y::l,i=>by
    rw [b46,inS,List.any_cons]
    split
    · rename_i h;simp [h]
    · rename_i h;rw [d7e x l (i+1)];simp [h,inS]
theorem f3k {x y:ByteArray} {l:List ByteArray} {i:Nat} (h:l[i]? =some y):inS x (l.drop i)=(decide (x=y) || inS x (l.drop (i+1))):=by
  rw [b0r h,inS,List.any_cons];rfl
theorem f5w {x:ByteArray} {l:List ByteArray} {i:Nat} (h:l.length≤i):inS x (l.drop i)=false:=by
  rw [List.drop_of_length_le h];rfl
theorem d3s (l:List ByteArray) (x:ByteArray) (hl:l.length≤1048576):Con Tryz.prog 234 [.sl (l.map V.str),.str x] [] (.int .i64 (b46 x 0 l)) []:=by
 refine b05 [.tmp 4] [] Tryz.func234 rfl rfl rfl (by simp [Tryz.ntmps234]) ?_
 intro Q0 n0 r0
 simp only [Tryz.ntmps234,b0l,Nat.reduceAdd]
 have T:=Tys.mk (ai Ty.t3 (ai Ty.t9 Ty.t51))
 have F:=Fc.mk True.intro
 refine yR [0,1] ⟨?_⟩;refine b0c ?_;intros;refine yR [0,1,7,8] ⟨?_⟩;refine b0g ?_;intros;refine b08 (fun i=>⟨[(0,.sl (l.map V.str)),(1,.str x),(7,.int .i64 l.length),(8,.int .i64 (Nat.cast i))],[],false,19,0⟩) (fun i=>i≤l.length∧b46 x i (l.drop i)=b46 x 0 l) (fun i=>l.length - i) 0 ?_ ?_ ?_
 ·refine b1a [0,1,7,8] ?_
  simp only [b0s,b0k,b0h,b0i,b0n,Nat.reduceEqDiff,reduceIte]
  rfl
 ·exact ⟨Nat.zero_le _,rfl⟩
 ·rintro i hok5 Q5 n5 e5 r5
  obtain ⟨hi1,hR⟩:=hok5
  refine yR [0,1,7,8,9] ⟨?_⟩;refine b0c ?_;intros;refine b0d _ rfl ?_ ?_
  ·intro hc0
   have hlt:i < l.length:=by omega
   obtain ⟨y,hy⟩:∃y,l[i]? =some y:=⟨l[i],List.getElem?_eq_getElem hlt⟩
   have hst:=f1g (x:=x) hy
   refine zn [0,1,7,8] ⟨?_⟩;refine b0c ?_;intros;refine b0g ?_;intros
   have F:=Fc.mk (gdm hy)
   refine yR [0,1,5,7,8] ⟨?_⟩;refine yR [0,1,5,7,8,16] ⟨?_⟩;refine b0d _ rfl ?_ ?_
   ·intro hc1
    refine yR [4] ⟨?_⟩;refine zr ⟨?_⟩
    exact b0a rfl (by rw [←hR,hst,if_pos hc1]) (.inl rfl)
   ·intro hc1
    refine zn [0,1,7,8] ⟨?_⟩;refine yV ⟨?_⟩;refine n5 _ (i+1) ?_ ?_ ?_
    ·refine b0b [0,1,7,8] [] ⟨?_⟩
     rfl
    ·exact ⟨by omega,by rw [←hR,hst,if_neg hc1]⟩
    ·show _ < _;omega
  ·intro hc0
   refine zn [] ⟨?_⟩;refine yR [4] ⟨?_⟩;refine zr ⟨?_⟩
   exact b0a rfl (by rw [←hR,f4o (by omega)]) (.inl rfl)
theorem c64 (l:List ByteArray) (x:ByteArray) (hl:l.length≤1048576):Con Tryz.prog 200 [.sl (l.map V.str),.str x] [] (.bool (inS x l)) []:=by
 refine b05 [.tmp 4] [] Tryz.func200 rfl rfl rfl (by simp [Tryz.ntmps200]) ?_
 intro Q0 n0 r0
 simp only [Tryz.ntmps200,b0l,Nat.reduceAdd]
 have T:=Tys.mk (ai Ty.t3 (ai Ty.t9 Ty.t51))
 have F:=Fc.mk True.intro
 refine yR [0,1] ⟨?_⟩;refine yRc [4] (d3s l x hl) ⟨?_⟩;refine zr ⟨?_⟩
 exact b0a rfl (by congr 1;exact d7e x l 0) (.inl rfl)
theorem c7z (l:List ByteArray) (x:ByteArray) (hl:l.length≤1048576):Con Tryz.prog 58 [.sl (l.map V.str),.str x] [] (.bool (inS x l)) []:=by
 refine b05 [.tmp 4] [] Tryz.func58 rfl rfl rfl (by simp [Tryz.ntmps58]) ?_
 intro Q0 n0 r0
 simp only [Tryz.ntmps58,b0l,Nat.reduceAdd]
 have T:=Tys.mk (ai Ty.t3 (ai Ty.t9 Ty.t51))
 have F:=Fc.mk True.intro
 refine yR [0,1] ⟨?_⟩;refine b0c ?_;intros;refine yR [1,7,8,9] ⟨?_⟩;refine b0g ?_;intros;refine b08 (fun i=>⟨[(1,.str x),(7,.sl (l.map V.str)),(8,.int .i64 l.length),(9,.int .i64 (Nat.cast i))],[],false,17,0⟩) (fun i=>i≤l.length∧inS x (l.drop i)=inS x l) (fun i=>l.length - i) 0 ?_ ?_ ?_
 ·refine b1a [1,7,8,9] ?_
  simp only [b0s,b0k,b0h,b0i,b0n,Nat.reduceEqDiff,reduceIte]
  rfl
 ·exact ⟨Nat.zero_le _,rfl⟩
 ·rintro i hok5 Q5 n5 e5 r5
  obtain ⟨hi1,hR⟩:=hok5
  refine yR [1,7,8,9,10] ⟨?_⟩;refine b0c ?_;intros;refine b0d _ rfl ?_ ?_
  ·intro hc0
   have hlt:i < l.length:=by omega
   obtain ⟨y,hy⟩:∃y,l[i]? =some y:=⟨l[i],List.getElem?_eq_getElem hlt⟩
   have hst:=f3k (x:=x) hy
   refine zn [1,7,8,9] ⟨?_⟩;refine b0c ?_;intros;refine b0g ?_;intros
   have F:=Fc.mk (gdm hy)
   refine yR [1,6,7,8,9] ⟨?_⟩;refine yR [1,7,8,9,15] ⟨?_⟩;refine b0d _ rfl ?_ ?_
   ·intro hc1
    refine yR [4] ⟨?_⟩;refine zr ⟨?_⟩
    exact b0a rfl (by rw [←hR,hst,decide_eq_true hc1.symm];rfl) (.inl rfl)
   ·intro hc1
    refine zn [1,7,8,9] ⟨?_⟩;refine yV ⟨?_⟩;refine n5 _ (i+1) ?_ ?_ ?_
    ·refine b0b [1,7,8,9] [] ⟨?_⟩
     rfl
    ·exact ⟨by omega,by rw [←hR,hst,decide_eq_false (fun q=>hc1 q.symm)];rfl⟩
    ·show _ < _;omega
  ·intro hc0
   refine zn [] ⟨?_⟩;refine yR [4] ⟨?_⟩;refine zr ⟨?_⟩
   exact b0a rfl (by rw [←hR,f5w (by omega)]) (.inl rfl)
theorem d57 (l:List ByteArray) (hl:l.length≤1048576):Con Tryz.prog 229 [.sl (l.map V.str)] [] (.bool (b1x (fun _:ByteArray=>true) b2f l 0)) []:=by
 refine b05 [.tmp 2] [] Tryz.func229 rfl rfl rfl (by simp [Tryz.ntmps229]) ?_
 intro Q0 n0 r0
 simp only [Tryz.ntmps229,b0l,Nat.reduceAdd]
 have T:=Tys.mk (ai Ty.t3 (ai Ty.t9 Ty.t51))
 have F:=Fc.mk True.intro
 refine yR [0] ⟨?_⟩;refine b0c ?_;intros;refine yR [0,5,6,7] ⟨?_⟩;refine b0g ?_;intros;refine b08 (fun i=>⟨[(0,.sl (l.map V.str)),(5,.sl (l.map V.str)),(6,.int .i64 l.length),(7,.int .i64 (Nat.cast i))],[],false,24,0⟩) (fun i=>i≤l.length∧b1x (fun _:ByteArray=>true) b2f l i=b1x (fun _:ByteArray=>true) b2f l 0) (fun i=>l.length - i) 0 ?_ ?_ ?_
 ·refine b1a [0,5,6,7] ?_
  simp only [b0s,b0k,b0h,b0i,b0n,Nat.reduceEqDiff,reduceIte]
  rfl
 ·exact ⟨Nat.zero_le _,rfl⟩
 ·rintro i hok5 Q5 n5 e5 r5
  obtain ⟨hi1,hR⟩:=hok5
  refine yR [0,5,6,7,8] ⟨?_⟩;refine b0c ?_;intros;refine b0d _ rfl ?_ ?_
  ·intro hc0
   have hlt:i < l.length:=by omega
   obtain ⟨x,hx⟩:∃x,l[i]? =some x:=⟨l[i],List.getElem?_eq_getElem hlt⟩
   rcases Nat.eq_zero_or_pos i with h0 | h0
   ·skip
    have hi0:¬((0:Int) < (i:Int)):=by omega
    have hst:b1x (fun _:ByteArray=>true) b2f l i=b1x (fun _:ByteArray=>true) b2f l (i+1):=by have q:=b60 (ok:=(fun _:ByteArray=>true)) (bf:=b2f) (l:=l) (x:=x) (by subst h0;exact hx);subst h0;simpa using q
    refine zn [0,5,6,7] ⟨?_⟩;refine b0c ?_;intros;refine b0g ?_;intros
    have F:=Fc.mk (ai (gdm hx) (ai hi0 (ai @decide_false @Bool.and_false)))
    refine yR [0,3,4,5,6,7] ⟨?_⟩;refine yR [0,5,6,7,22] ⟨?_⟩;refine b1z _ rfl ?_ ?_
    ·intro hc1
     exfalso;simp at hc1
    ·intro hc1
     try simp only [zC,reduceCtorEq] at hc1
     refine zn [0,5,6,7] ⟨?_⟩;refine yV ⟨?_⟩;refine n5 _ (i+1) ?_ ?_ ?_
     ·refine b0b [0,5,6,7] [] ⟨?_⟩
      rfl
     ·exact ⟨by omega,by first | (rw [←hR,hst];done) | (rw [←hR,hst];(try simp at hc1);first | (simp [hc1];done) | (simp;done) | rfl)⟩
     ·show _ < _;omega
   ·skip
    obtain ⟨y,hy⟩:∃y,l[i - 1]? =some y:=⟨_,List.getElem?_eq_getElem (by omega)⟩
    have hi0:(0:Int) < i:=by omega
    have hk:((i:Int) - 1).toNat=i - 1:=by omega
    have hst:=b66 (ok:=(fun _:ByteArray=>true)) (bf:=b2f) h0 hy hx
    refine zn [0,5,6,7] ⟨?_⟩;refine b0c ?_;intros;refine b0g ?_;intros
    have F:=Fc.mk (ai (gdm hx) (ai hi0 (ai hk (ai (gdm hy) (ai @decide_true @Bool.and_true)))))
    refine yR [0,3,4,5,6,7] ⟨?_⟩;refine yR [0,5,6,7,22] ⟨?_⟩;refine b0d _ rfl ?_ ?_
    ·intro hc1
     refine yR [2] ⟨?_⟩;refine zr ⟨?_⟩
     exact b0a rfl (by rw [←hR,hst];(try simp at hc1);simp [hc1]) (.inl rfl)
    ·intro hc1
     refine zn [0,5,6,7] ⟨?_⟩;refine yV ⟨?_⟩;refine n5 _ (i+1) ?_ ?_ ?_
     ·refine b0b [0,5,6,7] [] ⟨?_⟩
      rfl
     ·exact ⟨by omega,by first | (rw [←hR,hst];done) | (rw [←hR,hst];(try simp at hc1);first | (simp [hc1];done) | (simp;done) | rfl)⟩
     ·show _ < _;omega
  ·intro hc0
   refine zn [] ⟨?_⟩;refine yR [2] ⟨?_⟩;refine zr ⟨?_⟩
   exact b0a rfl (by rw [←hR,b82 (by omega)]) (.inl rfl)
theorem d41 (fl:List TA) (s:ByteArray):b5a fl s=-1∨∃(k:Nat) (x:TA),b5a fl s=(k:Int)∧fl[k]? =some x∧x.1=s:=by
  by_cases h:b5a fl s=-1
  · exact .inl h
  · obtain ⟨k,h1,h2,_,x,h4,h5⟩:=c3y h
    exact .inr ⟨k,x,by rw [b5a,h2,Nat.zero_add],h4,by simpa using h5⟩
def c2f (l:List Int):Bool:=decide ((l.length:Int)=4) && l.all (fun x:Int=>inR x 0 6)
theorem b7n {l:List Int} (h:c2f l=true):l.length=4∧∀x∈l,0≤x∧x≤6:=by
  simp only [c2f,Bool.and_eq_true,decide_eq_true_eq,List.all_eq_true,inR] at h
  exact ⟨by omega,h.2⟩
theorem b8z (l:List Int) (hl:l.length≤1048576):Con Tryz.prog 136 [.sl (l.map (V.int .i64))] [] (.bool (c2f l)) []:=by
 refine b05 [.tmp 2] [] Tryz.func136 rfl rfl rfl (by simp [Tryz.ntmps136]) ?_
 intro Q0 n0 r0
 simp only [Tryz.ntmps136,b0l,Nat.reduceAdd]
 have T:=Tys.mk (ai Ty.t3 (ai Ty.t4 Ty.t75))
 have F:=Fc.mk True.intro
 refine yR [0] ⟨?_⟩;refine b0c ?_;intros;refine yR [0,5,6,7] ⟨?_⟩;refine b0g ?_;intros;refine b08 (fun i=>⟨[(0,.sl (l.map (V.int .i64))),(5,.sl (l.map (V.int .i64))),(6,.int .i64 l.length),(7,.int .i64 (Nat.cast i))],[],false,18,0⟩) (fun i=>i≤l.length∧(l.drop i).all (fun x:Int=>inR x 0 6)=l.all (fun x:Int=>inR x 0 6)) (fun i=>l.length - i) 0 ?_ ?_ ?_
 ·refine b1a [0,5,6,7] ?_
  simp only [b0s,b0k,b0h,b0i,b0n,Nat.reduceEqDiff,reduceIte]
  rfl
 ·exact ⟨Nat.zero_le _,rfl⟩
 ·rintro i hok5 Q5 n5 e5 r5
  obtain ⟨hi1,hR⟩:=hok5
  refine yR [0,5,6,7,8] ⟨?_⟩;refine b0c ?_;intros;refine b0d _ rfl ?_ ?_
  ·intro hc0
   have hlt:i < l.length:=by omega
   obtain ⟨x,hx⟩:∃x,l[i]? =some x:=⟨_,List.getElem?_eq_getElem hlt⟩
   have hst:=b5m (p:=(fun x:Int=>inR x 0 6)) hx
   refine zn [0,5,6,7] ⟨?_⟩;refine b0c ?_;intros;refine b0g ?_;intros
   have F:=Fc.mk (gdm hx)
   refine yR [0,4,5,6,7] ⟨?_⟩;refine yRc [0,5,6,7,13] (b2b _ _ _) ⟨?_⟩;refine b0d _ rfl ?_ ?_
   ·intro hc1
    refine yR [2] ⟨?_⟩;refine zr ⟨?_⟩
    exact b0a rfl (by rw [c2f,←hR,hst];(try simp at hc1);simp [inR];intros;omega) (.inl rfl)
   ·intro hc1
    refine zn [0,5,6,7] ⟨?_⟩;refine yV ⟨?_⟩;refine n5 _ (i+1) ?_ ?_ ?_
    ·refine b0b [0,5,6,7] [] ⟨?_⟩
     rfl
    ·exact ⟨by omega,by rw [←hR,hst];(try simp at hc1);simp [inR];intros;omega⟩
    ·show _ < _;omega
  ·intro hc0
   refine zn [0] ⟨?_⟩;refine yR [2] ⟨?_⟩;refine zr ⟨?_⟩
   exact b0a rfl (by rw [c2f,←hR,b7k (by omega)];simp) (.inl rfl)
theorem c9t (l:List Int) (hl:l.length≤1048576):Con Tryz.prog 191 [.sl (l.map (V.int .i64))] [] (.bool (c2f l)) []:=by
 refine b05 [.tmp 2] [] Tryz.func191 rfl rfl rfl (by simp [Tryz.ntmps191]) ?_
 intro Q0 n0 r0
 simp only [Tryz.ntmps191,b0l,Nat.reduceAdd]
 have T:=Tys.mk (ai Ty.t3 (ai Ty.t4 Ty.t75))
 have F:=Fc.mk True.intro
 refine yR [0] ⟨?_⟩;refine yRg [2] (c7d l 0 6 hl) ⟨?_⟩;refine zr ⟨?_⟩
 exact b0a rfl (by simp [c2f,inR]) (.inl rfl)
theorem b5c (l:List Int) (hl:l.length≤1048576):Con Tryz.prog 141 [.sl (l.map (V.int .i64))] [] (.ref 0) [.arr (l.map (V.int .i64)) .flat]:=by
 have hns:(l.map (V.int .i64)).all V.noSl=true:=by rw [List.all_map,List.all_eq_true];intro a _;rfl
 refine b05 [.tmp 2] [] Tryz.func141 rfl rfl rfl (by simp [Tryz.ntmps141]) ?_
 intro Q0 n0 r0
 simp only [Tryz.ntmps141,b0l,Nat.reduceAdd]
 have T:=Tys.mk (ai Ty.t3 Ty.t75)
 have F:=Fc.mk True.intro
 have F:=Fc.mk hns
 refine yR [0] ⟨?_⟩;refine b0c ?_;intros;refine b4y [0,4] ?_;intro K3 k3;refine b6n ⟨?_⟩;refine f7u ⟨?_⟩
 intro nb4 hnb4
 refine k3 _ ?_;refine zk ⟨?_⟩;refine b0d _ rfl ?_ ?_
 ·intro hc0
  have hnil:l=[]:=by cases l with | nil=>rfl | cons a b=>have:=hnb4 (by simp);rw [hc0] at this;cases this
  refine yR [2] ⟨?_⟩;refine zr ⟨?_⟩
  rw [hnil];exact b1t rfl rfl rfl
 ·intro hc0
  refine zn [0] ⟨?_⟩;refine yR [2] ⟨?_⟩;refine zr ⟨?_⟩
  exact b1t rfl rfl (by simp)
theorem d69 {fl:List TA} {s:List Int×List Int} {k kd:Nat} {x:TA} {v:Int} (hx:fl[k]? =some x) (hk:x.2.1=(kd:Int)) (hv:s.1[kd]? =some v):c5q fl s (k:Int)=if 0 < v then (s.1.set kd (v - 1),s.2++[(k:Int)]) else s:=by
  rw [c5q,Int.toNat_natCast,hx]
  simp only [hk,Int.toNat_natCast,List.getD_eq_getElem?_getD,hv,Option.getD_some]
def c2e (n:Int) (ss:List TS) (fl:List TA) (node:Int) (need:List Int):List Int×List Int:=b91 fl (b8a fl (tmL n ss node)) need
set_option maxRecDepth 8000 in
theorem d9s (n:Int) (ss:List TS) (fl:List TA) (node:Int) (need:List Int) (hd:DsFacts n ss fl) (hu:0≤node∧node < n) (hn:need.length=4∧∀x∈need,0≤x∧x≤6):Con Tryz.prog 158 [.pv [.agg [.int .i64 n,.sl (ss.map (fun t:TS=>V.agg [V.int .i64 t.1,V.int .i64 t.2.1,V.int .i64 t.2.2]))]] 0 0,.sl (fl.map (fun t:TA=>V.agg [V.str t.1,V.int .i64 t.2.1,V.int .i64 t.2.2.1,V.int .i64 t.2.2.2.1,V.int .i64 t.2.2.2.2])),.int .i64 node,.sl (need.map (V.int .i64))] [] (.ref 0) [.arr ((c2e n ss fl node need).2.map (V.int .i64)) .flat]:=by
 have hfl:=hd.hfl
 obtain ⟨ts,hts⟩:∃ts,ts=tmL n ss node:=⟨_,rfl⟩
 have htl:ts.length=n.toNat:=by rw [hts,c21]
 have htb:=c58 hd.hn hu hd.hss hd.hsl
 rw [←hts] at htb
 have hn14:=hd.hn
 obtain ⟨rl,hrl⟩:∃rl,rl=b8a fl ts:=⟨_,rfl⟩
 have hrn:rl.length≤fl.length:=by rw [hrl];exact c4q fl ts
 rw [c2e,←hts,←hrl]
 have hval:∀{y:Int},y∈rl→∃(k:Nat) (x:TA) (w:Nat),y=(k:Int)∧fl[k]? =some x∧x.2.2.1=(w:Int)∧w < ts.length:=by
  intro y hy
  rw [hrl] at hy
  obtain ⟨k,x,h1,h2,h3,_⟩:=c4n hy
  have hap:=hd.hap _ (List.mem_of_getElem? h3)
  obtain ⟨w,hw⟩:=Int.eq_ofNat_of_zero_le hap.2.1
  exact ⟨k,x,w,h1,h3,hw,by rw [htl];omega⟩
 refine b05 [.tmp 8] [] Tryz.func158 rfl rfl rfl (by simp [Tryz.ntmps158]) ?_
 intro Q0 n0 r0
 simp only [Tryz.ntmps158,b0l,Nat.reduceAdd]
 have T:=Tys.mk (ai Ty.t3 (ai Ty.t9 (ai Ty.t32 (ai Ty.t39 (ai Ty.t41 (ai Ty.t75 (ai Ty.t96 (ai Ty.t108 Ty.t169))))))))
 have F:=Fc.mk True.intro
 refine yR [0,1,2,3] ⟨?_⟩;refine yRc [0,1,2,9] (b5c need (by omega)) ⟨?_⟩;refine yR [0,1,2,9,10] ⟨?_⟩;refine b0c ?_;intros;refine yRc [1,9,10,18,19,20] ((hrl ▸ hts ▸ readyOrder_con n ss fl node hd hu:Con _ _ _ _ _ [.arr (rl.map (V.int .i64)) .flat])) ⟨?_⟩;refine b0g ?_;intros;refine b08 (fun i=>⟨[(1,.sl (fl.map (fun t:TA=>V.agg [V.str t.1,V.int .i64 t.2.1,V.int .i64 t.2.2.1,V.int .i64 t.2.2.2.1,V.int .i64 t.2.2.2.2]))),(9,.ref 0),(10,.ref 1),(18,.ref 2),(19,.int .i64 rl.length),(20,.int .i64 (Nat.cast i))],[.arr ((b91 fl (rl.take i) need).1.map (V.int .i64)) .flat,.arr ((b91 fl (rl.take i) need).2.map (V.int .i64)) .flat,.arr (rl.map (V.int .i64)) .flat],false,49,0⟩) (fun i=>i≤rl.length) (fun i=>rl.length - i) 0 ?_ ?_ ?_
 ·refine b0b [1,9,10,18,19,20] [1,2,3] ⟨?_⟩
  rfl
 ·exact Nat.zero_le _
 ·rintro i hok7 Q7 n7 e7 r7
  have hi1:i≤rl.length:=hok7
  refine yR [1,9,10,18,19,20,21] ⟨?_⟩;refine b0c ?_;intros;refine b0d _ rfl ?_ ?_
  ·intro hc0
   have hlt:i < rl.length:=by omega
   obtain ⟨y,hy⟩:∃y,rl[i]? =some y:=⟨_,List.getElem?_eq_getElem hlt⟩
   have hv:=hval (List.mem_of_getElem? hy)
   have hst:=d14 (fl:=fl) (need:=need) hy
   obtain ⟨k,⟨x0,x1,x2,x3,x4⟩,w,rfl,hx,hvw,hvl⟩:=hv
   simp only [] at hvw
   subst hvw
   obtain ⟨p,hp⟩:∃p,ts[w]? =some p:=⟨_,List.getElem?_eq_getElem hvl⟩
   have hkl:k < fl.length:=(List.getElem?_eq_some_iff.1 hx).1
   have ek:=c6u (ts:=ts) hx rfl hp
   have hap:=hd.hap _ (List.mem_of_getElem? hx)
   simp only [] at hap
   obtain ⟨kd,hkd⟩:=Int.eq_ofNat_of_zero_le hap.1.1
   subst hkd
   have hpk:=b62 (fl:=fl) hn (rl.take i)
   have hll:=hpk.1
   have hol:=hpk.2.2.1
   have hlt2:(rl.take i).length≤i:=List.length_take_le ..
   obtain ⟨v,hv⟩:∃v,(b91 fl (rl.take i) need).1[kd]? =some v:=⟨_,List.getElem?_eq_getElem (by omega)⟩
   have hvb:=hpk.2.1 v (List.mem_of_getElem? hv)
   have hpf:=d69 (s:=(b91 fl (rl.take i) need)) hx rfl hv
   refine zn [1,9,10,18,19,20] ⟨?_⟩;refine b0c ?_;intros;refine b0g ?_;intros
   have F:=Fc.mk (ai (gdm hx) (ai (gdm hy) (ai (gdm hv) (ai hll @b3k))))
   refine yR [1,9,10,12,18,19,20] ⟨?_⟩;refine yR [1,9,10,12,18,19,20,32] ⟨?_⟩;refine b0d _ rfl ?_ ?_
   ·intro hc1
    refine yR [1,9,10,12,18,19,20] ⟨?_⟩;refine yQ [1,9,10,18,19,20] ⟨?_⟩;refine yV ⟨?_⟩;refine n7 _ (i+1) ?_ ?_ ?_
    ·refine b0b [1,9,10,18,19,20] [0,4,2] ⟨?_⟩
     rw [hst,hpf,if_pos hc1,List.map_append];rfl
    ·exact hlt
    ·show _ < _;omega
   ·intro hc1
    refine zn [1,9,10,18,19,20] ⟨?_⟩;refine yV ⟨?_⟩;refine n7 _ (i+1) ?_ ?_ ?_
    ·refine b0b [1,9,10,18,19,20] [0,1,2] ⟨?_⟩
     rw [hst,hpf,if_neg (by omega)];rfl
    ·exact hlt
    ·show _ < _;omega
  ·intro hc0
   have hend:i=rl.length:=by omega
   subst hend
   refine zn [10] ⟨?_⟩;refine yR [8] ⟨?_⟩;refine zr ⟨?_⟩
   exact b1t rfl rfl (by rw [List.take_length])
set_option maxRecDepth 8000 in
theorem d70 (n:Int) (ss:List TS) (fl:List TA) (node:Int) (need:List Int) (hd:DsFacts n ss fl) (hu:0≤node∧node < n) (hn:need.length=4∧∀x∈need,0≤x∧x≤6):Con Tryz.prog 154 [.agg [.int .i64 n,.sl (ss.map (fun t:TS=>V.agg [V.int .i64 t.1,V.int .i64 t.2.1,V.int .i64 t.2.2]))],.sl (fl.map (fun t:TA=>V.agg [V.str t.1,V.int .i64 t.2.1,V.int .i64 t.2.2.1,V.int .i64 t.2.2.2.1,V.int .i64 t.2.2.2.2])),.int .i64 node,.sl (need.map (V.int .i64))] [] (.tup [.ref 0,.ref 1,.ref 2]) [.arr ((c2e n ss fl node need).2.map (V.int .i64)) .flat,.arr ((c2e n ss fl node need).1.map (V.int .i64)) .flat,.arr ((d93 fl (tmL n ss node)).map (V.int .i64)) .flat]:=by
 have hfl:=hd.hfl
 obtain ⟨ts,hts⟩:∃ts,ts=tmL n ss node:=⟨_,rfl⟩
 have htl:ts.length=n.toNat:=by rw [hts,c21]
 have htb:=c58 hd.hn hu hd.hss hd.hsl
 rw [←hts] at htb
 have hn14:=hd.hn
 obtain ⟨rl,hrl⟩:∃rl,rl=b8a fl ts:=⟨_,rfl⟩
 have hrn:rl.length≤fl.length:=by rw [hrl];exact c4q fl ts
 rw [c2e,←hts,←hrl]
 have hval:∀{y:Int},y∈rl→∃(k:Nat) (x:TA) (w:Nat),y=(k:Int)∧fl[k]? =some x∧x.2.2.1=(w:Int)∧w < ts.length:=by
  intro y hy
  rw [hrl] at hy
  obtain ⟨k,x,h1,h2,h3,_⟩:=c4n hy
  have hap:=hd.hap _ (List.mem_of_getElem? h3)
  obtain ⟨w,hw⟩:=Int.eq_ofNat_of_zero_le hap.2.1
  exact ⟨k,x,w,h1,h3,hw,by rw [htl];omega⟩
 refine b05 [.tmp 8,.tmp 9,.tmp 10] [] Tryz.func154 rfl rfl rfl (by simp [Tryz.ntmps154]) ?_
 intro Q0 n0 r0
 simp only [Tryz.ntmps154,b0l,Nat.reduceAdd]
 have T:=Tys.mk (ai Ty.t3 (ai Ty.t9 (ai Ty.t32 (ai Ty.t39 (ai Ty.t41 (ai Ty.t75 (ai Ty.t96 Ty.t169)))))))
 have F:=Fc.mk True.intro
 refine yR [1,2,3,4] ⟨?_⟩;refine yRc [1,3,11,12] ((hrl ▸ hts ▸ dsReady_con n ss fl node hd hu:Con _ _ _ _ _ [.arr (rl.map (V.int .i64)) .flat,.arr ((d93 fl ts).map (V.int .i64)) .flat])) ⟨?_⟩;refine yRc [1,11,12,13] (c3l need (by omega)) ⟨?_⟩;refine yR [1,11,12,13,14] ⟨?_⟩;refine b0c ?_;intros;refine yR [1,12,13,14,26,27,28] ⟨?_⟩;refine b0g ?_;intros;refine b08 (fun i=>⟨[(1,.sl (fl.map (fun t:TA=>V.agg [V.str t.1,V.int .i64 t.2.1,V.int .i64 t.2.2.1,V.int .i64 t.2.2.2.1,V.int .i64 t.2.2.2.2]))),(12,.ref 1),(13,.ref 2),(14,.ref 3),(26,.ref 0),(27,.int .i64 rl.length),(28,.int .i64 (Nat.cast i))],[.arr (rl.map (V.int .i64)) .flat,.arr ((d93 fl ts).map (V.int .i64)) .flat,.arr ((b91 fl (rl.take i) need).1.map (V.int .i64)) .flat,.arr ((b91 fl (rl.take i) need).2.map (V.int .i64)) .flat],false,59,0⟩) (fun i=>i≤rl.length) (fun i=>rl.length - i) 0 ?_ ?_ ?_
 ·refine b0b [1,12,13,14,26,27,28] [4,5,6,7] ⟨?_⟩
  rfl
 ·exact Nat.zero_le _
 ·rintro i hok8 Q8 n8 e8 r8
  have hi1:i≤rl.length:=hok8
  refine yR [1,12,13,14,26,27,28,29] ⟨?_⟩;refine b0c ?_;intros;refine b0d _ rfl ?_ ?_
  ·intro hc0
   have hlt:i < rl.length:=by omega
   obtain ⟨y,hy⟩:∃y,rl[i]? =some y:=⟨_,List.getElem?_eq_getElem hlt⟩
   have hv:=hval (List.mem_of_getElem? hy)
   have hst:=d14 (fl:=fl) (need:=need) hy
   obtain ⟨k,⟨x0,x1,x2,x3,x4⟩,w,rfl,hx,hvw,hvl⟩:=hv
   simp only [] at hvw
   subst hvw
   obtain ⟨p,hp⟩:∃p,ts[w]? =some p:=⟨_,List.getElem?_eq_getElem hvl⟩
   have hkl:k < fl.length:=(List.getElem?_eq_some_iff.1 hx).1
   have ek:=c6u (ts:=ts) hx rfl hp
   have hap:=hd.hap _ (List.mem_of_getElem? hx)
   simp only [] at hap
   obtain ⟨kd,hkd⟩:=Int.eq_ofNat_of_zero_le hap.1.1
   subst hkd
   have hpk:=b62 (fl:=fl) hn (rl.take i)
   have hll:=hpk.1
   have hol:=hpk.2.2.1
   have hlt2:(rl.take i).length≤i:=List.length_take_le ..
   obtain ⟨v,hv⟩:∃v,(b91 fl (rl.take i) need).1[kd]? =some v:=⟨_,List.getElem?_eq_getElem (by omega)⟩
   have hvb:=hpk.2.1 v (List.mem_of_getElem? hv)
   have hpf:=d69 (s:=(b91 fl (rl.take i) need)) hx rfl hv
   refine zn [1,12,13,14,26,27,28] ⟨?_⟩;refine b0c ?_;intros;refine b0g ?_;intros
   have F:=Fc.mk (ai (gdm hx) (ai (gdm hy) (ai (gdm hv) (ai hll @b3k))))
   refine yR [1,12,13,14,16,26,27,28] ⟨?_⟩;refine yR [1,12,13,14,16,26,27,28,40] ⟨?_⟩;refine b0d _ rfl ?_ ?_
   ·intro hc1
    refine yR [1,12,13,14,16,26,27,28] ⟨?_⟩;refine yQ [1,12,13,14,26,27,28] ⟨?_⟩;refine yV ⟨?_⟩;refine n8 _ (i+1) ?_ ?_ ?_
    ·refine b0b [1,12,13,14,26,27,28] [0,1,2,5] ⟨?_⟩
     rw [hst,hpf,if_pos hc1,List.map_append];rfl
    ·exact hlt
    ·show _ < _;omega
   ·intro hc1
    refine zn [1,12,13,14,26,27,28] ⟨?_⟩;refine yV ⟨?_⟩;refine n8 _ (i+1) ?_ ?_ ?_
    ·refine b0b [1,12,13,14,26,27,28] [0,1,2,3] ⟨?_⟩
     rw [hst,hpf,if_neg (by omega)];rfl
    ·exact hlt
    ·show _ < _;omega
  ·intro hc0
   have hend:i=rl.length:=by omega
   subst hend
   refine zn [12,13,14] ⟨?_⟩;refine yR [8,9,10] ⟨?_⟩;refine zr ⟨?_⟩
   exact c0e [3,2,1] rfl rfl (by decide) rfl (by simp) (by simp [Blk.kindIs]) rfl
def b5o (a:TA):TA:=(a.1,a.2.1,a.2.2.1,a.2.2.2.1,1)
def b2x (fl:List TA) (order:List Int):Nat→List TA
  | 0=>[]
  | m+1=>b2x fl order m++(match fl[m]? with | some a=>[if (m:Int)∈order then b5o a else a] | none=>[])
theorem b6b (fl:List TA) (order:List Int):∀m,m≤fl.length→(b2x fl order m).length=m
  | 0,_=>rfl
  | m+1,h=>by
    have:=b6b fl order m (by omega)
    rw [b2x,List.getElem?_eq_getElem (by omega:m < fl.length)]
    simp [this]
theorem c94 {fl:List TA} {order:List Int} {i:Nat} {x:TA} (h:fl[i]? =some x) (ho:(i:Int)∈order):(b2x fl order i++fl.drop i).set i (b5o x)=b2x fl order (i+1)++fl.drop (i+1):=by
  have hi:i < fl.length:=(List.getElem?_eq_some_iff.1 h).1
  have hl:=b6b fl order i (by omega)
  rw [b0r h,List.set_append_right _ _ (by omega),hl,Nat.sub_self,List.set_cons_zero,b2x,h]
  simp [ho]
theorem d3o {fl:List TA} {order:List Int} {i:Nat} {x:TA} (h:fl[i]? =some x) (ho:¬(i:Int)∈order):b2x fl order i++fl.drop i=b2x fl order (i+1)++fl.drop (i+1):=by
  rw [b0r h,b2x,h]
  simp [ho]
theorem c4s {fl:List TA} {order:List Int} {i:Nat} {x:TA} (h:fl[i]? =some x):(b2x fl order i++fl.drop i)[i]? =some x:=by
  have hi:i < fl.length:=(List.getElem?_eq_some_iff.1 h).1
  have hl:=b6b fl order i (by omega)
  rw [List.getElem?_append_right (by omega),hl,Nat.sub_self,b0r h];rfl
theorem d85 {fl:List TA} {order:List Int} {i:Nat} (h:i≤fl.length):(b2x fl order i++fl.drop i).length=fl.length:=by
  rw [List.length_append,b6b fl order i h,List.length_drop];omega
theorem d1g (fl:List TA) (order:List Int):∀m,(b9v fl order m).length≤m
  | 0=>Nat.le_refl _
  | m+1=>by
    have:=d1g fl order m
    rw [b9v,List.length_append]
    split
    · split<;>simp<;>omega
    · simp;omega
set_option maxRecDepth 8000 in
theorem d9y (fl:List TA) (order:List Int) (hl:fl.length≤1048576) (ho:order.length≤1048576):Con Tryz.prog 155 [.sl (fl.map (fun t:TA=>V.agg [V.str t.1,V.int .i64 t.2.1,V.int .i64 t.2.2.1,V.int .i64 t.2.2.2.1,V.int .i64 t.2.2.2.2])),.sl (order.map (V.int .i64))] [] (.tup [.ref 0,.ref 1]) [.arr ((b2x fl order fl.length).map (fun t:TA=>V.agg [V.str t.1,V.int .i64 t.2.1,V.int .i64 t.2.2.1,V.int .i64 t.2.2.2.1,V.int .i64 t.2.2.2.2])) .flat,.arr ((b9v fl order fl.length).map V.str) .flat]:=by
 have hns:(fl.map (fun t:TA=>V.agg [V.str t.1,V.int .i64 t.2.1,V.int .i64 t.2.2.1,V.int .i64 t.2.2.2.1,V.int .i64 t.2.2.2.2])).all V.noSl=true:=by rw [List.all_map,List.all_eq_true];intro a _;rfl
 refine b05 [.tmp 4,.tmp 5] [] Tryz.func155 rfl rfl rfl (by simp [Tryz.ntmps155]) ?_
 intro Q0 n0 r0
 simp only [Tryz.ntmps155,b0l,Nat.reduceAdd]
 have T:=Tys.mk (ai Ty.t3 (ai Ty.t4 (ai Ty.t9 (ai Ty.t32 (ai Ty.t51 (ai Ty.t75 Ty.t96))))))
 have F:=Fc.mk True.intro
 have F:=Fc.mk hns
 refine yR [0,1] ⟨?_⟩;refine yR [0,1,6] ⟨?_⟩;refine yR [0,1,6,7] ⟨?_⟩;refine b0c ?_;intros;refine yR [1,6,7,13,14,15] ⟨?_⟩;refine b0g ?_;intros;refine b08 (fun i=>⟨[(1,.sl (order.map (V.int .i64))),(6,.ref 0),(7,.ref 1),(13,.sl (fl.map (fun t:TA=>V.agg [V.str t.1,V.int .i64 t.2.1,V.int .i64 t.2.2.1,V.int .i64 t.2.2.2.1,V.int .i64 t.2.2.2.2]))),(14,.int .i64 fl.length),(15,.int .i64 (Nat.cast i))],[.arr ((b2x fl order i++fl.drop i).map (fun t:TA=>V.agg [V.str t.1,V.int .i64 t.2.1,V.int .i64 t.2.2.1,V.int .i64 t.2.2.2.1,V.int .i64 t.2.2.2.2])) .flat,.arr ((b9v fl order i).map V.str) .flat],false,36,0⟩) (fun i=>i≤fl.length) (fun i=>fl.length - i) 0 ?_ ?_ ?_
 ·refine b0b [1,6,7,13,14,15] [3,4] ⟨?_⟩
  simp [b2x,b9v]
 ·exact Nat.zero_le _
 ·rintro i hok7 Q7 n7 e7 r7
  have hi1:i≤fl.length:=hok7
  refine yR [1,6,7,13,14,15,16] ⟨?_⟩;refine b0c ?_;intros;refine b0d _ rfl ?_ ?_
  ·intro hc0
   have hlt:i < fl.length:=by omega
   obtain ⟨⟨x0,x1,x2,x3,x4⟩,hx⟩:∃x:TA,fl[i]? =some x:=⟨fl[i]'(by omega),List.getElem?_eq_getElem (by omega)⟩
   have hst:=d36 (order:=order) hx
   have hsl:=d1g fl order i
   have hcg:=c4s (order:=order) hx
   have hca:=d85 (fl:=fl) (order:=order) hi1
   have hsm:((b2x fl order i++fl.drop i).map (fun t:TA=>V.agg [V.str t.1,V.int .i64 t.2.1,V.int .i64 t.2.2.1,V.int .i64 t.2.2.2.1,V.int .i64 t.2.2.2.2])).set i (V.agg [V.str x0,V.int .i64 x1,V.int .i64 x2,V.int .i64 x3,V.int .i64 1])=((b2x fl order i++fl.drop i).set i (b5o (x0,x1,x2,x3,x4))).map (fun t:TA=>V.agg [V.str t.1,V.int .i64 t.2.1,V.int .i64 t.2.2.1,V.int .i64 t.2.2.2.1,V.int .i64 t.2.2.2.2]):=by have q:=List.map_set (f:=(fun t:TA=>V.agg [V.str t.1,V.int .i64 t.2.1,V.int .i64 t.2.2.1,V.int .i64 t.2.2.2.1,V.int .i64 t.2.2.2.2])) (l:=(b2x fl order i++fl.drop i)) (i:=i) (a:=b5o (x0,x1,x2,x3,x4));exact q.symm
   refine zn [1,6,7,13,14,15] ⟨?_⟩;refine b0c ?_;intros;refine b0g ?_;intros;refine b4y [1,6,7,8,9,13,14,15] ?_;intro K13 k13
   have F:=Fc.mk (ai hns (ai (gdm hx) (ai (gdm hcg) (ai hca hsm))))
   refine b6n ⟨?_⟩;refine b6a ⟨?_⟩;refine d5j ⟨?_⟩;refine f4z ⟨?_⟩;refine b30 ⟨?_⟩;refine b5v ?_;intro K k
   simp only [zE,zS,zJ,zL,zO,zN,b03,b0w,b0m,Nat.reduceEqDiff,reduceIte,Nat.reduceLT,implies_true,forall_const,reduceCtorEq,V.ofValue,V.ofScalar,V.un,V.gd,b1k,aop,b8f,b17,V.isVal,V.cells,b4i,b2k,V.noSl,V.noRef,gt_iff_lt,Nat.reduceAdd,Nat.reduceLeDiff,Nat.reduceMul,b92,b10,b2p,b1j,Blk.row,b4e,Nat.reduceBEq,c8i,Tryz.underlying3,Ty.c3,Ty.a3,Tryz.underlying9,Ty.c9,Ty.a9,Tryz.underlying96,Ty.c96,Ty.a96,hns,b7z hx,b7z hcg,hca,hsm]
   repeat (refine ai (by first | omega | (intros;omega) | (intros;simp_all;done) | (simp [List.length_set];omega)) ?_)
   refine k _ ?_;clear k K;refine k13 _ ?_;refine zk ⟨?_⟩;refine yRc [1,6,7,8,9,13,14,15,22] (f01 order (i:Int) ho) ⟨?_⟩;refine b0d _ rfl ?_ ?_
   ·intro hc1
    have hcy:=c94 hx hc1
    refine b4y [1,6,7,8,9,13,14,15] ?_;intro K16 k16;refine c00 ⟨?_⟩;refine b5v ?_;intro K k
    simp only [zE,zS,zJ,zL,zO,zN,b03,b0w,b0m,Nat.reduceEqDiff,reduceIte,Nat.reduceLT,implies_true,forall_const,reduceCtorEq,V.ofValue,V.ofScalar,V.un,V.gd,b1k,aop,b8f,b17,V.isVal,V.cells,b4i,b2k,V.noSl,V.noRef,gt_iff_lt,Nat.reduceAdd,Nat.reduceLeDiff,Nat.reduceMul,b92,b10,b2p,b1j,Blk.row,b4e,Nat.reduceBEq,c8i,Tryz.underlying3,Ty.c3,Ty.a3,hns,b7z hx,b7z hcg,hca,hsm]
    repeat (refine ai (by first | omega | (intros;omega) | (intros;simp_all;done) | (simp [List.length_set];omega)) ?_)
    refine k _ ?_;clear k K;refine k16 _ ?_;refine zk ⟨?_⟩;refine b4y [1,6,7,9,13,14,15] ?_;intro K17 k17;refine zq5 ⟨?_⟩;refine d5j ⟨?_⟩;refine b6a ⟨?_⟩;refine b5v ?_;intro K k
    simp only [zE,zS,zJ,zL,zO,zN,b03,b0w,b0m,Nat.reduceEqDiff,reduceIte,Nat.reduceLT,implies_true,forall_const,reduceCtorEq,V.ofValue,V.ofScalar,V.un,V.gd,b1k,aop,b8f,b17,V.isVal,V.cells,b4i,b2k,V.noSl,V.noRef,gt_iff_lt,Nat.reduceAdd,Nat.reduceLeDiff,Nat.reduceMul,b92,b10,b2p,b1j,Blk.row,b4e,Nat.reduceBEq,c8i,Tryz.underlying3,Ty.c3,Ty.a3,Tryz.underlying9,Ty.c9,Ty.a9,Tryz.underlying96,Ty.c96,Ty.a96,hns,b7z hx,b7z hcg,hca,hsm]
    repeat (refine ai (by first | omega | (intros;omega) | (intros;simp_all;done) | (simp [List.length_set];omega)) ?_)
    refine k _ ?_;clear k K;refine k17 _ ?_;refine zk ⟨?_⟩;refine yQ [1,6,7,13,14,15] ⟨?_⟩;refine yV ⟨?_⟩;refine n7 _ (i+1) ?_ ?_ ?_
    ·refine b0b [1,6,7,13,14,15] [0,4] ⟨?_⟩
     rw [hcy,hst,if_pos hc1];simp only [List.map_append];rfl
    ·exact hlt
    ·show _ < _;omega
   ·intro hc1
    have hcn:=d3o hx hc1
    refine zn [1,6,7,13,14,15] ⟨?_⟩;refine yV ⟨?_⟩;refine n7 _ (i+1) ?_ ?_ ?_
    ·refine b0b [1,6,7,13,14,15] [0,1] ⟨?_⟩
     rw [hcn,hst,if_neg hc1];rfl
    ·exact hlt
    ·show _ < _;omega
  ·intro hc0
   have hend:i=fl.length:=by omega
   subst hend
   refine zn [6,7] ⟨?_⟩;refine yR [4,5] ⟨?_⟩;refine zr ⟨?_⟩
   exact c0e [0,1] rfl rfl (by decide) rfl (by simp) (by simp [Blk.kindIs]) rfl
end Go.Proofs.YtaefoaghpehbpaaGreat
