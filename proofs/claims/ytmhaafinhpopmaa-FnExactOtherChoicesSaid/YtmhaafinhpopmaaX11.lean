/- What functions compute. No condition. -/
import Derived.Test.YtmhaafinhpopmaaX10
import Derived.Test.YtmhaafinhpopmaaX3
set_option linter.unusedSimpArgs false
set_option linter.unusedVariables false
set_option linter.defProp false
namespace Go.Proofs.Ytmhaafinhpopmaa
open Go Go.Vm
set_option maxHeartbeats 8000000
theorem allT_step {fl:List TA} {ts:List Int} {i:Nat} {x:TA} (h:fl[i]? =some x):allT (fl.take (i+1)) ts=allT (fl.take i) ts++[Tm.at_ ts x.2.2.1.toNat]:=by
  rw [allT,List.take_add_one,h,Option.toList,ql2];rfl
theorem allT_len (fl:List TA) (ts:List Int):(allT fl ts).length=fl.length:=by rw [allT,qmb]
theorem insR_is {lt:Int→Int→Bool} {p:List Int} {x:Int} {j:Nat} (h:insPos lt x p p.length=j):insR lt p x=p.take j++x::p.drop j:=by rw [insR,h]
theorem l1Own_con (l:List Int) (hl:l.length≤1048576):Con Try.prog 47 [.sl (l.map (V.int .i64))] [] (.ref 0) [.arr (l.map (V.int .i64)) .flat]:=by
 have hns:(l.map (V.int .i64)).all V.noSl=true:=by rw [List.all_map,qlt];intro a _;rfl
 refine v_con [.tmp 2] [] Try.func47 rfl rfl rfl (by simp [Try.ntmps47]) ?_;intro Q0 n0 r0;simp only [Try.ntmps47,envFrom,Nat.reduceAdd];have T:=Tys.mk (ai Ty.t3 Ty.t26);have F:=Fc.mk True.intro;have F:=Fc.mk hns;refine yR [0] ⟨?_⟩;refine yR [2] ⟨?_⟩;refine zr ⟨?_⟩;exact ret_refK rfl rfl (by simp)
set_option maxRecDepth 8000 in
theorem dsReady_con (n:Int) (ss:List TS) (fl:List TA) (node:Int) (hd:DsFacts n ss fl) (hu:0≤node∧node < n):Con Try.prog 25 [.agg [.int .i64 n,.sl (ss.map (fun t:TS=>V.agg [V.int .i64 t.1,V.int .i64 t.2.1,V.int .i64 t.2.2]))],.sl (fl.map (fun t:TA=>V.agg [V.str t.1,V.int .i64 t.2.1,V.int .i64 t.2.2.1,V.int .i64 t.2.2.2.1,V.int .i64 t.2.2.2.2])),.int .i64 node] [] (.tup [.ref 0,.ref 1]) [.arr ((readyL fl (tmL n ss node)).map (V.int .i64)) .flat,.arr ((allT fl (tmL n ss node)).map (V.int .i64)) .flat]:=by
 have hfl:=hd.hfl;obtain ⟨ts,hts⟩:∃ts,ts=tmL n ss node:=⟨_,rfl⟩;have htl:ts.length=n.toNat:=by rw [hts,times_len]
 have htb:=tm_facts hd.hn hu hd.hss hd.hsl;rw [←hts] at htb⊢;have hn14:=hd.hn;have hvalid:∀{a:Int},a∈readyTo fl ts fl.length→∃(k:Nat) (x:TA) (w:Nat),a=(k:Int)∧fl[k]? =some x∧x.2.2.1=(w:Int)∧w < ts.length:=by
  intro a ha;obtain ⟨k,x,h1,h2,h3,_⟩:=ready_mem fl ts _ a ha;have hap:=hd.hap _ (qlb h3);obtain ⟨w,hw⟩:=qln hap.2.1;exact ⟨k,x,w,h1,h3,hw,by rw [htl];omega⟩
 have hrl:=ready_len fl ts fl.length;refine v_con [.tmp 6,.tmp 7] [] Try.func25 rfl rfl rfl (by simp [Try.ntmps25]) ?_;intro Q0 n0 r0;simp only [Try.ntmps25,envFrom,Nat.reduceAdd];have T:=Tys.mk (ai Ty.t3 (ai Ty.t4 (ai Ty.t9 (ai Ty.t26 (ai Ty.t32 (ai Ty.t34 (ai Ty.t36 (ai Ty.t60 Ty.t79))))))));have F:=Fc.mk True.intro;refine yR [1,2,3] ⟨?_⟩;refine yRc [1,8] ((hts ▸ toTimes_con n ss node hd.hn hu hd.hss hd.hsl:Con _ _ _ _ _ [.arr (ts.map (V.int .i64)) .flat])) ⟨?_⟩;refine yR [1,8,9,10] ⟨?_⟩;refine v_seq ?_;intros;refine yR [1,8,9,10,17,18,19] ⟨?_⟩;refine v_block ?_;intros;refine v_loop (fun i=>⟨[(1,.sl (fl.map (fun t:TA=>V.agg [V.str t.1,V.int .i64 t.2.1,V.int .i64 t.2.2.1,V.int .i64 t.2.2.2.1,V.int .i64 t.2.2.2.2]))),(8,.ref 0),(9,.ref 1),(10,.ref 2),(17,.sl (fl.map (fun t:TA=>V.agg [V.str t.1,V.int .i64 t.2.1,V.int .i64 t.2.2.1,V.int .i64 t.2.2.2.1,V.int .i64 t.2.2.2.2]))),(18,.int .i64 fl.length),(19,.int .i64 (Nat.cast i))],[.arr (ts.map (V.int .i64)) .flat,.arr ((isort (byKey fl ts) (readyTo fl ts i)).map (V.int .i64)) .flat,.arr ((allT (fl.take i) ts).map (V.int .i64)) .flat],false,83,0⟩) (fun i=>i≤fl.length) (fun i=>fl.length - i) 0 ?_ ?_ ?_
 ·refine weak_bothS [1,8,9,10,17,18,19] [3,4,5] ⟨?_⟩;rfl
 ·exact qlg _
 ·rintro i hok7 Q7 n7 e7 r7;have hi1:i≤fl.length:=hok7;refine yR [1,8,9,10,17,18,19,20] ⟨?_⟩;refine v_seq ?_;intros;refine v_condS _ rfl ?_ ?_
  ·intro hc0;have hlt:i < fl.length:=by omega
   obtain ⟨⟨x0,x1,x2,x3,x4⟩,hx⟩:∃x:TA,fl[i]? =some x:=⟨fl[i]'(by omega),qla (by omega)⟩;have hap:=hd.hap _ (qlb hx);simp only [] at hap;obtain ⟨w,hw⟩:=qln hap.2.1;subst hw;obtain ⟨p,hp⟩:∃p,ts[w]? =some p:=⟨_,qla (by rw [htl];omega)⟩;have hwl:w < ts.length:=by rw [htl];omega
   have hpb:=htb w;rw [Tm.at_get hp] at hpb;have hrp:=ready_is (fl:=fl) (x:=(x0,x1,(w:Int),x3,x4)) rfl hp;have hst:=ready_step (ts:=ts) hx;have hrl2:=ready_len fl ts i;have hki:=key_is (ts:=ts) hx rfl hp;have hal:=allT_step (ts:=ts) hx;simp only [Int.toNat_natCast,Tm.at_get hp] at hal;have hall:=allT_len (fl.take i) ts;have hlti:(fl.take i).length=i:=by rw [qlz];omega
   have hpl:=isort_len (byKey fl ts) (readyTo fl ts i);refine zn [1,8,9,10,17,18,19] ⟨?_⟩;refine v_seq ?_;intro Q11 n11 e11 r11;refine v_block ?_;intro Q12 n12 x12 e12 r12;have F:=Fc.mk (ai (gdm hx) (gdm hp));refine yR [1,8,9,10,11,12,17,18,19] ⟨?_⟩;refine yR [1,8,9,10,11,12,17,18,19] ⟨?_⟩;refine v_seq ?_;intros;refine yRc [1,8,9,10,11,12,17,18,19,42] (apReady_con x0 x1 (w:Int) x3 x4 hap.1) ⟨?_⟩;refine v_condS _ rfl ?_ ?_
   ·intro hc1;have hr1:¬readyP fl ts (x0,x1,(w:Int),x3,x4)=true:=by
     rw [hrp];intro h;simp only [Bool.and_eq_true,decide_eq_true_eq] at h;first
     |(rcases hc1 with q | q;· (rw [h.1] at q;cases q);· omega)
     |(simp [h.1] at hc1;omega)
     |(have:=hc1 h.1;omega)
    refine zn [1,8,9,10,17,18,19] ⟨?_⟩;refine yV ⟨?_⟩;refine n7 _ (i+1) ?_ ?_ ?_
    ·refine weak_bothS [1,8,9,10,17,18,19] [0,1,5] ⟨?_⟩;rw [hst,if_neg hr1,hal,ql2];rfl
    ·exact hlt
    ·show _ < _;omega
   ·intro hc1;have hr1:readyP fl ts (x0,x1,(w:Int),x3,x4)=true:=by rw [hrp];simpa using hc1
    refine zn [1,8,9,10,11,12,17,18,19] ⟨?_⟩;refine yR [1,8,9,10,11,12,13,17,18,19] ⟨?_⟩;refine v_join (A:=Nat) (fun e1=>⟨[(1,.sl (fl.map (fun t:TA=>V.agg [V.str t.1,V.int .i64 t.2.1,V.int .i64 t.2.2.1,V.int .i64 t.2.2.2.1,V.int .i64 t.2.2.2.2]))),(8,.ref 0),(9,.ref 1),(10,.ref 3),(11,.int .i64 (Nat.cast i)),(13,.int .i64 (Nat.cast e1)),(17,.sl (fl.map (fun t:TA=>V.agg [V.str t.1,V.int .i64 t.2.1,V.int .i64 t.2.2.1,V.int .i64 t.2.2.2.1,V.int .i64 t.2.2.2.2]))),(18,.int .i64 fl.length),(19,.int .i64 (Nat.cast i))],[.arr (ts.map (V.int .i64)) .flat,.arr ((isort (byKey fl ts) (readyTo fl ts i)).map (V.int .i64)) .flat,.box (.agg [V.str x0,V.int .i64 x1,V.int .i64 (Nat.cast w),V.int .i64 x3,V.int .i64 x4]) .flat,.arr ((allT (fl.take (i+1)) ts).map (V.int .i64)) .flat],false,83,0⟩) (fun e1=>e1≤(isort (byKey fl ts) (readyTo fl ts i)).length∧insR (byKey fl ts) (isort (byKey fl ts) (readyTo fl ts i)) (i:Int)=(isort (byKey fl ts) (readyTo fl ts i)).take e1++(i:Int)::(isort (byKey fl ts) (readyTo fl ts i)).drop e1) ?_ ?_
    ·intro Q20 n20 e20 r20;refine v_block ?_;intros;refine v_loop (fun j=>⟨[(1,.sl (fl.map (fun t:TA=>V.agg [V.str t.1,V.int .i64 t.2.1,V.int .i64 t.2.2.1,V.int .i64 t.2.2.2.1,V.int .i64 t.2.2.2.2]))),(8,.ref 0),(9,.ref 1),(10,.ref 3),(11,.int .i64 (Nat.cast i)),(12,.ptr 2 0 0),(13,.int .i64 (Nat.cast j)),(17,.sl (fl.map (fun t:TA=>V.agg [V.str t.1,V.int .i64 t.2.1,V.int .i64 t.2.2.1,V.int .i64 t.2.2.2.1,V.int .i64 t.2.2.2.2]))),(18,.int .i64 fl.length),(19,.int .i64 (Nat.cast i))],[.arr (ts.map (V.int .i64)) .flat,.arr ((isort (byKey fl ts) (readyTo fl ts i)).map (V.int .i64)) .flat,.box (.agg [V.str x0,V.int .i64 x1,V.int .i64 (Nat.cast w),V.int .i64 x3,V.int .i64 x4]) .flat,.arr ((allT (fl.take (i+1)) ts).map (V.int .i64)) .flat],false,83,0⟩) (fun j=>j≤(isort (byKey fl ts) (readyTo fl ts i)).length∧insPos (byKey fl ts) (i:Int) (isort (byKey fl ts) (readyTo fl ts i)) j=insPos (byKey fl ts) (i:Int) (isort (byKey fl ts) (readyTo fl ts i)) (isort (byKey fl ts) (readyTo fl ts i)).length) (fun j=>j) (isort (byKey fl ts) (readyTo fl ts i)).length ?_ ?_ ?_
     ·refine weak_bothS [1,8,9,10,11,12,13,17,18,19] [0,1,3,5] ⟨?_⟩;rw [hal,ql2];rfl
     ·exact ⟨qlu _,rfl⟩
     ·rintro j hok22 Q22 n22 e22 r22;obtain ⟨hj1,hR2⟩:=hok22;rcases Nat.eq_zero_or_pos j with hj00 | hj00
      ·skip;have hj0:¬((0:Int) < (j:Int)):=by omega
       refine v_seq ?_;intros;refine v_seq ?_;intro Q24 n24 e24 r24;refine v_draw (by kernel_rfl) ?_;intro K25 q25 k25;show aAny _ _ _ _ 22 (Array.replicate 22 false) _;have F:=Fc.mk (ai (gdm hx) (ai (gdm hp) (ai hj0 (ai @decide_false @Bool.and_false))));refine zdMove q25 true 0 45 ?_;refine zdBinOp q25 true 1 46 ?_;refine zdMove q25 true 2 47 ?_;refine zdgMove q25 true 3 48 ?_;refine zdgMove q25 true 4 49 ?_;refine zdgMove q25 true 5 50 ?_;refine zdgMove q25 true 6 51 ?_;refine zdgBinOpW q25 true 7 52 ?_;refine zdgIndexAddr q25 true 8 53 ?_;refine zdgLoad q25 true 9 54 ?_;refine zdgIndexAddr q25 true 10 55 ?_;refine zdgFieldAddr q25 true 11 56 ?_;refine zdgLoad q25 true 12 57 ?_;refine zdgIndexAddr q25 true 13 58 ?_;refine zdgLoad q25 true 14 59 ?_;refine zdgMove q25 true 15 60 ?_;refine zdgFieldAddr q25 true 16 61 ?_;refine zdgLoad q25 true 17 62 ?_;refine zdgIndexAddr q25 true 18 63 ?_;refine zdgLoad q25 true 19 64 ?_;refine zdgBinOp q25 true 20 65 ?_;refine zdPick q25 true 21 66 ?_;refine aAny_done (by kernel_rfl) ?_;refine k25 _ ?_;refine n24 _ _ (weak_keep [1,8,9,10,11,12,13,17,18,19,66] _) ?_;refine zk ⟨?_⟩;refine v_cond _ rfl ?_ ?_
       ·intro hc2;exfalso;simp [hj0] at hc2
       ·intro hc2;try simp only [zC,reduceCtorEq] at hc2
        refine zx ⟨?_⟩;refine n20 j _ ?_ ?_
        ·exact ⟨hj1,insR_is (by rw [←hR2,hj00];rfl)⟩
        ·exact weak_same [1,8,9,10,11,13,17,18,19] [0,1,2,3]
      ·skip;obtain ⟨m,rfl⟩:∃m,j=m+1:=⟨j - 1,by omega⟩;have hj0:(0:Int) < ((m+1:Nat):Int):=by omega
       obtain ⟨b,hyp⟩:∃y,(isort (byKey fl ts) (readyTo fl ts i))[m]? =some y:=⟨_,qla (by omega)⟩;have hk:(((m+1:Nat):Int) - 1).toNat=m:=by omega
       obtain ⟨kb,xb,hb1,hb2,hb3,_⟩:=ready_mem fl ts i b (isort_mem.1 (qlb hyp));have hb:∃(k:Nat) (x:TA) (w:Nat),b=(k:Int)∧fl[k]? =some x∧x.2.2.1=(w:Int)∧w < ts.length:=by
        have hapb:=hd.hap _ (qlb hb3);obtain ⟨v,hv⟩:=qln hapb.2.1;exact ⟨kb,xb,v,hb1,hb3,hv,by rw [htl];omega⟩
       obtain ⟨k2,⟨y0,y1,y2,y3,y4⟩,v,rfl,hy,hbw,hbl⟩:=hb;simp only [] at hbw;subst hbw;obtain ⟨q,hq⟩:∃p,ts[v]? =some p:=⟨_,qla hbl⟩;have hk2l:k2 < fl.length:=(qlf.1 hy).1;have ek2:=key_is (ts:=ts) hy rfl hq;refine v_seq ?_;intros;refine v_seq ?_;intro Q28 n28 e28 r28;refine v_draw (by kernel_rfl) ?_;intro K29 q29 k29;show aAny _ _ _ _ 22 (Array.replicate 22 false) _;have F:=Fc.mk (ai (gdm hx) (ai (gdm hp) (ai hj0 (ai @decide_true (ai @Bool.and_true (ai hk (ai (gdm hyp) (ai (gdm hy) (gdm hq)))))))));refine zdMove q29 true 0 45 ?_;refine zdBinOp q29 true 1 46 ?_;refine zdMove q29 true 2 47 ?_;refine zdgMove q29 true 3 48 ?_;refine zdgMove q29 true 4 49 ?_;refine zdgMove q29 true 5 50 ?_;refine zdgMove q29 true 6 51 ?_;refine zdgBinOpW q29 true 7 52 ?_;refine zdgIndexAddr q29 true 8 53 ?_;refine zdgLoad q29 true 9 54 ?_;refine zdgIndexAddr q29 true 10 55 ?_;refine zdgFieldAddr q29 true 11 56 ?_;refine zdgLoad q29 true 12 57 ?_;refine zdgIndexAddr q29 true 13 58 ?_;refine zdgLoad q29 true 14 59 ?_;refine zdgMove q29 true 15 60 ?_;refine zdgFieldAddr q29 true 16 61 ?_;refine zdgLoad q29 true 17 62 ?_;refine zdgIndexAddr q29 true 18 63 ?_;refine zdgLoad q29 true 19 64 ?_;refine zdgBinOp q29 true 20 65 ?_;refine zdPick q29 true 21 66 ?_;refine aAny_done (by kernel_rfl) ?_;refine k29 _ ?_;refine n28 _ _ (weak_keep [1,8,9,10,11,12,13,17,18,19,66] _) ?_;refine zk ⟨?_⟩;refine v_condS _ rfl ?_ ?_
       ·intro hc2;have hlc:byKey fl ts (i:Int) (k2:Int)=true:=by rw [byKey,hki,ek2];simpa [hj0] using hc2
        refine zn [1,8,9,10,11,12,13,17,18,19] ⟨?_⟩;refine v_block ?_;intros;refine yV ⟨?_⟩;refine n22 _ m ?_ ?_ ?_
        ·refine weak_bothS [1,8,9,10,11,12,13,17,18,19] [0,1,2,3] ⟨?_⟩;rw [show ((m+1:Nat):Int) - 1=(m:Int) by omega]
        ·exact ⟨by omega,by rw [←hR2,insPos_yes hyp hlc]⟩
        ·show m < m+1;omega
       ·intro hc2;refine zx ⟨?_⟩;refine n20 (m+1) _ ?_ ?_
        ·exact ⟨hj1,insR_is (by rw [←hR2,insPos_no hyp (by rw [byKey,hki,ek2];simpa [hj0] using hc2)])⟩
        ·exact weak_same [1,8,9,10,11,13,17,18,19] [0,1,2,3]
    ·rintro e1 hok20;obtain ⟨hj1,hend⟩:=hok20;skip
     ·skip;have htk:((isort (byKey fl ts) (readyTo fl ts i)).take e1).length=e1:=by rw [qlz];omega
      have hcon:=l1Own_con ((isort (byKey fl ts) (readyTo fl ts i)).take e1) (by omega);have hdt:List.take ((isort (byKey fl ts) (readyTo fl ts i)).length - e1) (List.drop e1 (List.map (V.int .i64) (isort (byKey fl ts) (readyTo fl ts i))))=List.map (V.int .i64) ((isort (byKey fl ts) (readyTo fl ts i)).drop e1):=by rw [←List.map_drop,List.take_of_length_le (by simp)]
      have hsn:List.map (V.int .i64) ((isort (byKey fl ts) (readyTo fl ts i)).take e1)++[V.int .i64 (i:Int)]=List.map (V.int .i64) ((isort (byKey fl ts) (readyTo fl ts i)).take e1++[(i:Int)]):=snocI;refine v_draw (by kernel_rfl) ?_;intro K33 q33 k33;show aAny _ _ _ _ 12 (Array.replicate 12 false) _;have F:=Fc.mk (ai (gdm hx) (ai (gdm hp) (ai hdt hsn)));refine zdMove q33 true 0 69 ?_;refine zdMove q33 true 1 70 ?_;refine zdSlice q33 true 2 71 ?_;refine zdMove q33 true 4 73 ?_;refine zdMove q33 false 7 76 ?_;refine zdMove q33 false 8 77 ?_;refine aAny_three 3 5 9 rfl rfl rfl (by kernel_rfl) ?_ ?_ ?_
      ·refine zsc (hcon) ⟨?_⟩;refine aAny_two 5 9 rfl rfl (by kernel_rfl) ?_ ?_
       ·refine zsBuildSlice ⟨?_⟩;refine aAny_two 6 9 rfl rfl (by kernel_rfl) ?_ ?_
        ·refine zsAppend ⟨?_⟩;refine zdSlice q33 true 9 78 ?_;refine zoAppend 10 ⟨?_⟩;refine zoAssign 11 ⟨?_⟩;refine aAny_done (by kernel_rfl) ?_;refine k33 _ ?_;refine n12 _ ?_;refine n11 _ _ (weak_keep [1,8,9,10,17,18,19] _) ?_;refine zk ⟨?_⟩;refine yV ⟨?_⟩;refine n7 _ (i+1) ?_ ?_ ?_
         ·refine weak_bothS [1,8,9,10,17,18,19] [0,7,3] ⟨?_⟩;rw [hst,if_pos hr1,isort_snoc,hend,←ql2,qls];try rfl
         ·exact hlt
         ·show _ < _;omega
        ·refine zsSlice ⟨?_⟩;refine zoAppend 6 ⟨?_⟩;refine zoAppend 10 ⟨?_⟩;refine zoAssign 11 ⟨?_⟩;refine aAny_done (by kernel_rfl) ?_;refine k33 _ ?_;refine n12 _ ?_;refine n11 _ _ (weak_keep [1,8,9,10,17,18,19] _) ?_;refine zk ⟨?_⟩;refine yV ⟨?_⟩;refine n7 _ (i+1) ?_ ?_ ?_
         ·refine weak_bothS [1,8,9,10,17,18,19] [0,7,3] ⟨?_⟩;rw [hst,if_pos hr1,isort_snoc,hend,←ql2,qls];try rfl
         ·exact hlt
         ·show _ < _;omega
       ·refine zsSlice ⟨?_⟩;refine zoBuildSlice 5 ⟨?_⟩;refine zoAppend 6 ⟨?_⟩;refine zoAppend 10 ⟨?_⟩;refine zoAssign 11 ⟨?_⟩;refine aAny_done (by kernel_rfl) ?_;refine k33 _ ?_;refine n12 _ ?_;refine n11 _ _ (weak_keep [1,8,9,10,17,18,19] _) ?_;refine zk ⟨?_⟩;refine yV ⟨?_⟩;refine n7 _ (i+1) ?_ ?_ ?_
        ·refine weak_bothS [1,8,9,10,17,18,19] [0,7,3] ⟨?_⟩;rw [hst,if_pos hr1,isort_snoc,hend,←ql2,qls];try rfl
        ·exact hlt
        ·show _ < _;omega
      ·refine zsBuildSlice ⟨?_⟩;refine aAny_two 3 9 rfl rfl (by kernel_rfl) ?_ ?_
       ·refine zsc (hcon) ⟨?_⟩;refine aAny_two 6 9 rfl rfl (by kernel_rfl) ?_ ?_
        ·refine zsAppend ⟨?_⟩;refine zdSlice q33 true 9 78 ?_;refine zoAppend 10 ⟨?_⟩;refine zoAssign 11 ⟨?_⟩;refine aAny_done (by kernel_rfl) ?_;refine k33 _ ?_;refine n12 _ ?_;refine n11 _ _ (weak_keep [1,8,9,10,17,18,19] _) ?_;refine zk ⟨?_⟩;refine yV ⟨?_⟩;refine n7 _ (i+1) ?_ ?_ ?_
         ·refine weak_bothS [1,8,9,10,17,18,19] [0,7,3] ⟨?_⟩;rw [hst,if_pos hr1,isort_snoc,hend,←ql2,qls];try rfl
         ·exact hlt
         ·show _ < _;omega
        ·refine zsSlice ⟨?_⟩;refine zoAppend 6 ⟨?_⟩;refine zoAppend 10 ⟨?_⟩;refine zoAssign 11 ⟨?_⟩;refine aAny_done (by kernel_rfl) ?_;refine k33 _ ?_;refine n12 _ ?_;refine n11 _ _ (weak_keep [1,8,9,10,17,18,19] _) ?_;refine zk ⟨?_⟩;refine yV ⟨?_⟩;refine n7 _ (i+1) ?_ ?_ ?_
         ·refine weak_bothS [1,8,9,10,17,18,19] [0,7,3] ⟨?_⟩;rw [hst,if_pos hr1,isort_snoc,hend,←ql2,qls];try rfl
         ·exact hlt
         ·show _ < _;omega
       ·refine zsSlice ⟨?_⟩;refine zoc 3 (hcon) ⟨?_⟩;refine zoAppend 6 ⟨?_⟩;refine zoAppend 10 ⟨?_⟩;refine zoAssign 11 ⟨?_⟩;refine aAny_done (by kernel_rfl) ?_;refine k33 _ ?_;refine n12 _ ?_;refine n11 _ _ (weak_keep [1,8,9,10,17,18,19] _) ?_;refine zk ⟨?_⟩;refine yV ⟨?_⟩;refine n7 _ (i+1) ?_ ?_ ?_
        ·refine weak_bothS [1,8,9,10,17,18,19] [0,7,3] ⟨?_⟩;rw [hst,if_pos hr1,isort_snoc,hend,←ql2,qls];try rfl
        ·exact hlt
        ·show _ < _;omega
      ·refine zsSlice ⟨?_⟩;refine aAny_two 3 5 rfl rfl (by kernel_rfl) ?_ ?_
       ·refine zsc (hcon) ⟨?_⟩;refine zoBuildSlice 5 ⟨?_⟩;refine zoAppend 6 ⟨?_⟩;refine zoAppend 10 ⟨?_⟩;refine zoAssign 11 ⟨?_⟩;refine aAny_done (by kernel_rfl) ?_;refine k33 _ ?_;refine n12 _ ?_;refine n11 _ _ (weak_keep [1,8,9,10,17,18,19] _) ?_;refine zk ⟨?_⟩;refine yV ⟨?_⟩;refine n7 _ (i+1) ?_ ?_ ?_
        ·refine weak_bothS [1,8,9,10,17,18,19] [0,7,3] ⟨?_⟩;rw [hst,if_pos hr1,isort_snoc,hend,←ql2,qls];try rfl
        ·exact hlt
        ·show _ < _;omega
       ·refine zsBuildSlice ⟨?_⟩;refine zoc 3 (hcon) ⟨?_⟩;refine zoAppend 6 ⟨?_⟩;refine zoAppend 10 ⟨?_⟩;refine zoAssign 11 ⟨?_⟩;refine aAny_done (by kernel_rfl) ?_;refine k33 _ ?_;refine n12 _ ?_;refine n11 _ _ (weak_keep [1,8,9,10,17,18,19] _) ?_;refine zk ⟨?_⟩;refine yV ⟨?_⟩;refine n7 _ (i+1) ?_ ?_ ?_
        ·refine weak_bothS [1,8,9,10,17,18,19] [0,7,3] ⟨?_⟩;rw [hst,if_pos hr1,isort_snoc,hend,←ql2,qls];try rfl
        ·exact hlt
        ·show _ < _;omega
  ·intro hc0;have hend:i=fl.length:=by omega
   subst hend;refine zn [9,10] ⟨?_⟩;refine yR [6,7] ⟨?_⟩;refine zr ⟨?_⟩;exact ret_gen [1,2] rfl rfl (by decide) rfl (by simp [readyL]) (by simp [Blk.kindIs]) rfl
def need4 (l:List Int):Bool:=decide ((l.length:Int)=4) && l.all (fun x:Int=>inR x 0 6)
theorem need4_facts {l:List Int} (h:need4 l=true):l.length=4∧∀x∈l,0≤x∧x≤6:=by
  simp only [need4,Bool.and_eq_true,decide_eq_true_eq,List.all_eq_true,inR] at h;exact ⟨by omega,h.2⟩
theorem isNeed_con (l:List Int) (hl:l.length≤1048576):Con Try.prog 31 [.sl (l.map (V.int .i64))] [] (.bool (need4 l)) []:=by
 refine v_con [.tmp 2] [] Try.func31 rfl rfl rfl (by simp [Try.ntmps31]) ?_;intro Q0 n0 r0;simp only [Try.ntmps31,envFrom,Nat.reduceAdd];have T:=Tys.mk (ai Ty.t3 (ai Ty.t4 Ty.t26));have F:=Fc.mk True.intro;refine yR [0] ⟨?_⟩;refine v_seq ?_;intros;refine yR [0,5,6,7] ⟨?_⟩;refine v_block ?_;intros;refine v_loop (fun i=>⟨[(0,.sl (l.map (V.int .i64))),(5,.sl (l.map (V.int .i64))),(6,.int .i64 l.length),(7,.int .i64 (Nat.cast i))],[],false,18,0⟩) (fun i=>i≤l.length∧(l.drop i).all (fun x:Int=>inR x 0 6)=l.all (fun x:Int=>inR x 0 6)) (fun i=>l.length - i) 0 ?_ ?_ ?_
 ·refine weak_of [0,5,6,7] ?_;simp only [keep_mk,keepE_nil,keepE_cons,look_cons,look_nil,Nat.reduceEqDiff,reduceIte];rfl
 ·exact ⟨qlg _,rfl⟩
 ·rintro i hok5 Q5 n5 e5 r5;obtain ⟨hi1,hR⟩:=hok5;refine yR [0,5,6,7,8] ⟨?_⟩;refine v_seq ?_;intros;refine v_condS _ rfl ?_ ?_
  ·intro hc0;have hlt:i < l.length:=by omega
   obtain ⟨x,hx⟩:∃x,l[i]? =some x:=⟨_,qla hlt⟩;have hst:=all_step (p:=(fun x:Int=>inR x 0 6)) hx;refine zn [0,5,6,7] ⟨?_⟩;refine v_seq ?_;intros;refine v_block ?_;intros;have F:=Fc.mk (gdm hx);refine yR [0,4,5,6,7] ⟨?_⟩;refine yRc [0,5,6,7,13] (inside_con _ _ _) ⟨?_⟩;refine v_condS _ rfl ?_ ?_
   ·intro hc1;refine yR [2] ⟨?_⟩;refine zr ⟨?_⟩;exact ret_pure rfl (by rw [need4,←hR,hst];(try simp at hc1);simp [inR];intros;omega) (.inl rfl)
   ·intro hc1;refine zn [0,5,6,7] ⟨?_⟩;refine yV ⟨?_⟩;refine n5 _ (i+1) ?_ ?_ ?_
    ·refine weak_bothS [0,5,6,7] [] ⟨?_⟩;rfl
    ·exact ⟨by omega,by rw [←hR,hst];(try simp at hc1);simp [inR];intros;omega⟩
    ·show _ < _;omega
  ·intro hc0;refine zn [0] ⟨?_⟩;refine yR [2] ⟨?_⟩;refine zr ⟨?_⟩;exact ret_pure rfl (by rw [need4,←hR,all_end (by omega)];simp) (.inl rfl)
theorem tbNeed_con (l:List Int) (hl:l.length≤1048576):Con Try.prog 23 [.sl (l.map (V.int .i64))] [] (.bool (need4 l)) []:=by
 refine v_con [.tmp 2] [] Try.func23 rfl rfl rfl (by simp [Try.ntmps23]) ?_;intro Q0 n0 r0;simp only [Try.ntmps23,envFrom,Nat.reduceAdd];have T:=Tys.mk (ai Ty.t3 (ai Ty.t4 Ty.t26));have F:=Fc.mk True.intro;refine yR [0] ⟨?_⟩;refine yRg [2] (l1All_con l 0 6 hl) ⟨?_⟩;refine zr ⟨?_⟩;exact ret_pure rfl (by simp [need4,inR]) (.inl rfl)
theorem cloneInt_con (l:List Int) (hl:l.length≤1048576):Con Try.prog 56 [.sl (l.map (V.int .i64))] [] (.ref 0) [.arr (l.map (V.int .i64)) .flat]:=by
 have hns:(l.map (V.int .i64)).all V.noSl=true:=by rw [List.all_map,qlt];intro a _;rfl
 refine v_con [.tmp 2] [] Try.func56 rfl rfl rfl (by simp [Try.ntmps56]) ?_;intro Q0 n0 r0;simp only [Try.ntmps56,envFrom,Nat.reduceAdd];have T:=Tys.mk (ai Ty.t3 Ty.t26);have F:=Fc.mk True.intro;have F:=Fc.mk hns;refine yR [0] ⟨?_⟩;refine v_seq ?_;intros;refine v_seqR [0,4] ?_;intro K3 k3;refine zMove ⟨?_⟩;refine zNil ⟨?_⟩;intro nb4 hnb4;refine k3 _ ?_;refine zk ⟨?_⟩;refine v_condS _ rfl ?_ ?_
 ·intro hc0;have hnil:l=[]:=by cases l with | nil=>rfl | cons a b=>have:=hnb4 (by simp);rw [hc0] at this;cases this
  refine yR [2] ⟨?_⟩;refine zr ⟨?_⟩;rw [hnil];exact ret_refK rfl rfl rfl
 ·intro hc0;refine zn [0] ⟨?_⟩;refine yR [2] ⟨?_⟩;refine zr ⟨?_⟩;exact ret_refK rfl rfl (by simp)
def markStr (k:Int) (n:Nat):List ByteArray:=markG (fun j:Nat=>markT (k+(j:Int))) n
theorem markStr_len (k:Int) (n:Nat):(markStr k n).length=n:=markG_len _ _
theorem markStr_at {k:Int} {n i:Nat} (h:i < n):(markStr k n)[i]? =some (markT (k+(i:Int))):=by
  simp [markStr,markG,List.getElem?_map,List.getElem?_range h]
theorem markStringS_con (l:List ByteArray) (k:Int) (hl:l.length≤1048576) (hk:0≤k∧k≤1000000000000000):Con Try.prog 39 [.ref 0,.int .i64 k] [.arr (l.map V.str) .flat] (.int .i64 (k+l.length)) [.arr ((markStr k l.length).map V.str) .flat]:=by
 refine v_con [.tmp 4] [] Try.func39 rfl rfl rfl (by simp [Try.ntmps39]) ?_;intro Q0 n0 r0;simp only [Try.ntmps39,envFrom,Nat.reduceAdd];have T:=Tys.mk (ai Ty.t3 (ai Ty.t9 Ty.t66));have F:=Fc.mk True.intro;refine yR [0,1] ⟨?_⟩;refine v_seq ?_;intros;refine yR [0,1,5] ⟨?_⟩;refine v_block ?_;intros;refine v_loop (fun i=>⟨[(0,.ref 0),(1,.int .i64 (k+Nat.cast i)),(5,.int .i64 (Nat.cast i))],[.arr ((markG (fun j:Nat=>markT (k+(j:Int))) i++l.drop i).map V.str) .flat],false,20,0⟩) (fun i=>i≤l.length) (fun i=>l.length - i) 0 ?_ ?_ ?_
 ·refine weak_bothS [0,1,5] [0] ⟨?_⟩;simp [markG]
 ·exact qlg _
 ·rintro i hok5 Q5 n5 e5 r5;have hi1:i≤l.length:=hok5;refine v_seq ?_;intros;refine yR [0,1,5,9] ⟨?_⟩;refine v_condS _ rfl ?_ ?_
  ·intro hc0;have hml:=markG_all (g:=(fun j:Nat=>markT (k+(j:Int)))) hi1;rw [hml] at hc0;have hlt:i < l.length:=by omega
   obtain ⟨x,hx⟩:∃x,l[i]? =some x:=⟨l[i],qla hlt⟩;have hmg:=markG_get (g:=(fun j:Nat=>markT (k+(j:Int)))) hx;have hms:=markG_step (g:=(fun j:Nat=>markT (k+(j:Int)))) hx;refine zn [0,1,5] ⟨?_⟩;refine v_seq ?_;intros;refine v_block ?_;intros;have F:=Fc.mk (ai (gdm hmg) (ai hml (ai @set_map hms)));refine yRc [0,1,5] (markText_con (k+(i:Int)) (by omega)) ⟨?_⟩;refine yQ [0,1,5] ⟨?_⟩;refine yV ⟨?_⟩;refine n5 _ (i+1) ?_ ?_ ?_
   ·refine weak_bothS [0,1,5] [0] ⟨?_⟩;rw [show (k+(i:Int)+1)=k+((i+1:Nat):Int) by omega];rfl
   ·exact hlt
   ·show _ < _;omega
  ·intro hc0;rw [markG_all (g:=(fun j:Nat=>markT (k+(j:Int)))) hi1] at hc0;refine zn [1] ⟨?_⟩;refine yR [4] ⟨?_⟩;refine zr ⟨?_⟩;have hend:i=l.length:=by omega
   subst hend;exact ret_lent rfl (by simp) rfl (by simp [markStr]) (by simp [Blk.kindIs]) (.inl rfl)
theorem heldStringS_con (k:Int) (n:Nat) (hl:n≤1048576) (hk:0≤k∧k≤1000000000000000):Con Try.prog 40 [.sl ((markStr k n).map V.str),.int .i64 k] [] (.int .i64 (k+n)) []:=by
 refine v_con [.tmp 4] [] Try.func40 rfl rfl rfl (by simp [Try.ntmps40]) ?_;intro Q0 n0 r0;simp only [Try.ntmps40,envFrom,Nat.reduceAdd];have T:=Tys.mk (ai Ty.t3 (ai Ty.t9 Ty.t66));have F:=Fc.mk True.intro;refine yR [0,1] ⟨?_⟩;refine v_seq ?_;intros;refine yR [0,1,5] ⟨?_⟩;refine v_block ?_;intros;refine v_loop (fun i=>⟨[(0,.sl ((markStr k n).map V.str)),(1,.int .i64 (k+Nat.cast i)),(5,.int .i64 (Nat.cast i))],[],false,22,0⟩) (fun i=>i≤n) (fun i=>n - i) 0 ?_ ?_ ?_
 ·refine weak_of [0,1,5] ?_;simp only [keep_mk,keepE_nil,keepE_cons,look_cons,look_nil,Nat.reduceEqDiff,reduceIte];simp
 ·exact qlg _
 ·rintro i hok5 Q5 n5 e5 r5;have hi1:i≤n:=hok5;refine v_seq ?_;intros;refine yR [0,1,5,9] ⟨?_⟩;refine v_condS _ rfl ?_ ?_
  ·intro hc0;rw [markStr_len] at hc0;have hlt:i < n:=by omega
   have hx:=markStr_at (k:=k) hlt;refine zn [0,1,5] ⟨?_⟩;refine v_seq ?_;intros;refine v_block ?_;intros;refine v_seq ?_;intros;refine v_seq ?_;intro Q12 n12 e12 r12;refine v_draw (by kernel_rfl) ?_;intro K13 q13 k13;show aAny _ _ _ _ 7 (Array.replicate 7 false) _;have F:=Fc.mk (ai (gdm hx) @markStr_len);refine zdMove q13 true 0 12 ?_;refine zdMove q13 true 1 13 ?_;refine zdIndexAddr q13 true 2 14 ?_;refine zdLoad q13 true 3 15 ?_;refine zdMove q13 true 4 16 ?_;refine zoc 5 (markText_con (k+(i:Int)) (by omega)) ⟨?_⟩;refine zdBinOp q13 true 6 18 ?_;refine aAny_done (by kernel_rfl) ?_;refine k13 _ ?_;refine n12 _ _ (weak_keep [0,1,5,18] _) ?_;refine zk ⟨?_⟩;refine v_cond _ rfl ?_ ?_
   ·intro hc1;exfalso;simp at hc1
   ·intro hc1;try simp only [zC,reduceCtorEq] at hc1
    refine zn [0,1,5] ⟨?_⟩;refine yQ [0,1,5] ⟨?_⟩;refine yV ⟨?_⟩;refine n5 _ (i+1) ?_ ?_ ?_
    ·refine weak_bothS [0,1,5] [] ⟨?_⟩;rw [show (k+(i:Int)+1)=k+((i+1:Nat):Int) by omega];rfl
    ·exact hlt
    ·show _ < _;omega
  ·intro hc0;rw [markStr_len] at hc0;refine zn [1] ⟨?_⟩;refine yR [4] ⟨?_⟩;refine zr ⟨?_⟩;have hend:i=n:=by omega
   subst hend;exact ret_pure rfl rfl (.inl rfl)
def markStreet (kk:Int) (n:Nat):List TS:=markG (fun j:Nat=>((kk+3 * (j:Int)),(kk+3 * (j:Int)+1),(kk+3 * (j:Int)+1+1))) n
theorem markStreetS_con (l:List TS) (kk:Int) (hl:l.length≤1048576) (hk:0≤kk∧kk≤1000000000000000):Con Try.prog 37 [.ref 0,.int .i64 kk] [.arr (l.map (fun t:TS=>V.agg [V.int .i64 t.1,V.int .i64 t.2.1,V.int .i64 t.2.2])) .flat] (.int .i64 (kk+3 * l.length)) [.arr ((markStreet kk l.length).map (fun t:TS=>V.agg [V.int .i64 t.1,V.int .i64 t.2.1,V.int .i64 t.2.2])) .flat]:=by
 refine v_con [.tmp 4] [] Try.func37 rfl rfl rfl (by simp [Try.ntmps37]) ?_;intro Q0 n0 r0;simp only [Try.ntmps37,envFrom,Nat.reduceAdd];have T:=Tys.mk (ai Ty.t3 (ai Ty.t32 Ty.t79));have F:=Fc.mk True.intro;refine yR [0,1] ⟨?_⟩;refine v_seq ?_;intros;refine yR [0,1,5] ⟨?_⟩;refine v_block ?_;intros;refine v_loop (fun i=>⟨[(0,.ref 0),(1,.int .i64 (kk+3 * (Nat.cast i))),(5,.int .i64 (Nat.cast i))],[.arr ((markG (fun j:Nat=>((kk+3 * (j:Int)),(kk+3 * (j:Int)+1),(kk+3 * (j:Int)+1+1))) i++l.drop i).map (fun t:TS=>V.agg [V.int .i64 t.1,V.int .i64 t.2.1,V.int .i64 t.2.2])) .flat],false,34,0⟩) (fun i=>i≤l.length) (fun i=>l.length - i) 0 ?_ ?_ ?_
 ·refine weak_bothS [0,1,5] [0] ⟨?_⟩;simp [markG]
 ·exact qlg _
 ·rintro i hok5 Q5 n5 e5 r5;have hi1:i≤l.length:=hok5;refine v_seq ?_;intros;refine yR [0,1,5,9] ⟨?_⟩;refine v_condS _ rfl ?_ ?_
  ·intro hc0;have hml:=markG_all (g:=(fun j:Nat=>((kk+3 * (j:Int)),(kk+3 * (j:Int)+1),(kk+3 * (j:Int)+1+1)))) hi1;rw [hml] at hc0;have hlt:i < l.length:=by omega
   obtain ⟨⟨x0,x1,x2⟩,hx⟩:∃x:TS,l[i]? =some x:=⟨l[i]'(by omega),qla (by omega)⟩;have hmg:=markG_get (g:=(fun j:Nat=>((kk+3 * (j:Int)),(kk+3 * (j:Int)+1),(kk+3 * (j:Int)+1+1)))) hx;have hms:((markG (fun j:Nat=>((kk+3 * (j:Int)),(kk+3 * (j:Int)+1),(kk+3 * (j:Int)+1+1))) i++l.drop i).map (fun t:TS=>V.agg [V.int .i64 t.1,V.int .i64 t.2.1,V.int .i64 t.2.2])).set i (.agg [V.int .i64 (kk+3 * (i:Int)),V.int .i64 (kk+3 * (i:Int)+1),V.int .i64 (kk+3 * (i:Int)+1+1)])=(markG (fun j:Nat=>((kk+3 * (j:Int)),(kk+3 * (j:Int)+1),(kk+3 * (j:Int)+1+1))) (i+1)++l.drop (i+1)).map (fun t:TS=>V.agg [V.int .i64 t.1,V.int .i64 t.2.1,V.int .i64 t.2.2]):=by
    have h:=set_map (f:=(fun t:TS=>V.agg [V.int .i64 t.1,V.int .i64 t.2.1,V.int .i64 t.2.2])) (l:=(markG (fun j:Nat=>((kk+3 * (j:Int)),(kk+3 * (j:Int)+1),(kk+3 * (j:Int)+1+1))) i++l.drop i)) (i:=i) (x:=(fun j:Nat=>((kk+3 * (j:Int)),(kk+3 * (j:Int)+1),(kk+3 * (j:Int)+1+1))) i);rw [markG_step hx] at h;exact h
   refine zn [0,1,5] ⟨?_⟩;refine v_seq ?_;intros;refine v_block ?_;intros;have F:=Fc.mk (ai (gdm hmg) (ai hml (ai @getD_set (ai hlt (ai @qlp.{0} (ai @List.set_set.{0} hms))))));refine yR [0,1,5] ⟨?_⟩;refine yR [0,1,5] ⟨?_⟩;refine yR [0,1,5] ⟨?_⟩;refine yR [0,1,5] ⟨?_⟩;refine yR [0,1,5] ⟨?_⟩;refine yQ [0,1,5] ⟨?_⟩;refine yV ⟨?_⟩;refine n5 _ (i+1) ?_ ?_ ?_
   ·refine weak_bothS [0,1,5] [0] ⟨?_⟩;simp only [getD_set,List.length_map,hml,hlt,List.length_set,List.set_set,hms,List.take_succ_cons,List.take_zero,List.drop_succ_cons,List.drop_zero,List.drop_nil,List.cons_append,List.nil_append,List.append_nil];rw [show (kk+3 * (i:Int)+1+1+1)=kk+3 * ((i+1:Nat):Int) by omega];rfl
   ·exact hlt
   ·show _ < _;omega
  ·intro hc0;rw [markG_all (g:=(fun j:Nat=>((kk+3 * (j:Int)),(kk+3 * (j:Int)+1),(kk+3 * (j:Int)+1+1)))) hi1] at hc0;refine zn [1] ⟨?_⟩;refine yR [4] ⟨?_⟩;refine zr ⟨?_⟩;have hend:i=l.length:=by omega
   subst hend;exact ret_lent rfl (by simp) rfl (by simp [markStreet]) (by simp [Blk.kindIs]) (.inl rfl)
end Go.Proofs.Ytmhaafinhpopmaa
