/- What functions compute. No condition. -/
import Derived.Test.YtmhaafinhpopmaaGreatX10
set_option linter.unusedSimpArgs false
set_option linter.unusedVariables false
set_option linter.defProp false
namespace Go.Proofs.YtmhaafinhpopmaaGreat
open Go Go.Vm
set_option maxHeartbeats 8000000
theorem allT_step {fl:List TA} {ts:List Int} {i:Nat} {x:TA} (h:fl[i]? =some x):allT (fl.take (i+1)) ts=allT (fl.take i) ts++[Tm.at_ ts x.2.2.1.toNat]:=by
  rw [allT,qme,h,Option.toList,ql1];rfl
theorem allT_len (fl:List TA) (ts:List Int):(allT fl ts).length=fl.length:=by rw [allT,ql7]
theorem insR_is {lt:Int→Int→Bool} {p:List Int} {x:Int} {j:Nat} (h:insPos lt x p p.length=j):insR lt p x=p.take j++x::p.drop j:=by rw [insR,h]
theorem l1Own_con (l:List Int) (hl:l.length≤1048576):Con Tryz.prog 72 [.sl (l.map (V.int .i64))] [] (.ref 0) [.arr (l.map (V.int .i64)) .flat]:=by
 have hns:(l.map (V.int .i64)).all V.noSl=true:=by rw [List.all_map,qlh];intro a _;rfl
 refine v_con [.tmp 2] [] Tryz.func72 rfl rfl rfl (by simp [Tryz.ntmps72]) ?_;intro Q0 n0 r0;simp only [Tryz.ntmps72,envFrom,Nat.reduceAdd];have T:=Tys.mk (ai Ty.t3 Ty.t28);have F:=Fc.mk True.intro;have F:=Fc.mk hns;refine yR [0] ⟨?_⟩;refine yR [2] ⟨?_⟩;refine zr ⟨?_⟩;exact ret_refK rfl rfl (by simp)
set_option maxRecDepth 8000 in
theorem dsReady_con (n:Int) (ss:List TS) (fl:List TA) (node:Int) (hd:DsFacts n ss fl) (hu:0≤node∧node < n):Con Tryz.prog 34 [.agg [.int .i64 n,.sl (ss.map (fun t:TS=>V.agg [V.int .i64 t.1,V.int .i64 t.2.1,V.int .i64 t.2.2]))],.sl (fl.map (fun t:TA=>V.agg [V.str t.1,V.int .i64 t.2.1,V.int .i64 t.2.2.1,V.int .i64 t.2.2.2.1,V.int .i64 t.2.2.2.2])),.int .i64 node] [] (.tup [.ref 0,.ref 1]) [.arr ((readyL fl (tmL n ss node)).map (V.int .i64)) .flat,.arr ((allT fl (tmL n ss node)).map (V.int .i64)) .flat]:=by
 have hfl:=hd.hfl;obtain ⟨ts,hts⟩:∃ts,ts=tmL n ss node:=⟨_,rfl⟩;have htl:ts.length=n.toNat:=by rw [hts,times_len]
 have htb:=tm_facts hd.hn hu hd.hss hd.hsl;rw [←hts] at htb⊢;have hn14:=hd.hn;have hvalid:∀{a:Int},a∈readyTo fl ts fl.length→∃(k:Nat) (x:TA) (w:Nat),a=(k:Int)∧fl[k]? =some x∧x.2.2.1=(w:Int)∧w < ts.length:=by
  intro a ha;obtain ⟨k,x,h1,h2,h3,_⟩:=ready_mem fl ts _ a ha;have hap:=hd.hap _ (qlb h3);obtain ⟨w,hw⟩:=qlf hap.2.1;exact ⟨k,x,w,h1,h3,hw,by rw [htl];omega⟩
 have hrl:=ready_len fl ts fl.length;refine v_con [.tmp 6,.tmp 7] [] Tryz.func34 rfl rfl rfl (by simp [Tryz.ntmps34]) ?_;intro Q0 n0 r0;simp only [Tryz.ntmps34,envFrom,Nat.reduceAdd];have T:=Tys.mk (ai Ty.t3 (ai Ty.t4 (ai Ty.t9 (ai Ty.t24 (ai Ty.t26 (ai Ty.t27 (ai Ty.t28 (ai Ty.t72 Ty.t98))))))));have F:=Fc.mk True.intro;refine yR [1,2,3] ⟨?_⟩;refine yRc [1,8] ((hts ▸ toTimes_con n ss node hd.hn hu hd.hss hd.hsl:Con _ _ _ _ _ [.arr (ts.map (V.int .i64)) .flat])) ⟨?_⟩;refine yR [1,8,9,10] ⟨?_⟩;refine v_seq ?_;intros;refine yR [1,8,9,10,17,18,19] ⟨?_⟩;refine v_block ?_;intros;refine v_loop (fun i=>⟨[(1,.sl (fl.map (fun t:TA=>V.agg [V.str t.1,V.int .i64 t.2.1,V.int .i64 t.2.2.1,V.int .i64 t.2.2.2.1,V.int .i64 t.2.2.2.2]))),(8,.ref 0),(9,.ref 1),(10,.ref 2),(17,.sl (fl.map (fun t:TA=>V.agg [V.str t.1,V.int .i64 t.2.1,V.int .i64 t.2.2.1,V.int .i64 t.2.2.2.1,V.int .i64 t.2.2.2.2]))),(18,.int .i64 fl.length),(19,.int .i64 (Nat.cast i))],[.arr (ts.map (V.int .i64)) .flat,.arr ((isort (byKey fl ts) (readyTo fl ts i)).map (V.int .i64)) .flat,.arr ((allT (fl.take i) ts).map (V.int .i64)) .flat],false,83,0⟩) (fun i=>i≤fl.length) (fun i=>fl.length - i) 0 ?_ ?_ ?_
 ·refine weak_bothS [1,8,9,10,17,18,19] [3,4,5] ⟨?_⟩;rfl
 ·exact qlk _
 ·rintro i hok7 Q7 n7 e7 r7;have hi1:i≤fl.length:=hok7;refine yR [1,8,9,10,17,18,19,20] ⟨?_⟩;refine v_seq ?_;intros;refine v_condS _ rfl ?_ ?_
  ·intro hc0;have hlt:i < fl.length:=by omega
   obtain ⟨⟨x0,x1,x2,x3,x4⟩,hx⟩:∃x:TA,fl[i]? =some x:=⟨fl[i]'(by omega),qla (by omega)⟩;have hap:=hd.hap _ (qlb hx);simp only [] at hap;obtain ⟨w,hw⟩:=qlf hap.2.1;subst hw;obtain ⟨p,hp⟩:∃p,ts[w]? =some p:=⟨_,qla (by rw [htl];omega)⟩;have hwl:w < ts.length:=by rw [htl];omega
   have hpb:=htb w;rw [Tm.at_get hp] at hpb;have hrp:=ready_is (fl:=fl) (x:=(x0,x1,(w:Int),x3,x4)) rfl hp;have hst:=ready_step (ts:=ts) hx;have hrl2:=ready_len fl ts i;have hki:=key_is (ts:=ts) hx rfl hp;have hal:=allT_step (ts:=ts) hx;simp only [Int.toNat_natCast,Tm.at_get hp] at hal;have hall:=allT_len (fl.take i) ts;have hlti:(fl.take i).length=i:=by rw [qls];omega
   have hpl:=isort_len (byKey fl ts) (readyTo fl ts i);refine zn [1,8,9,10,17,18,19] ⟨?_⟩;refine v_seq ?_;intro Q11 n11 e11 r11;refine v_block ?_;intro Q12 n12 x12 e12 r12;have F:=Fc.mk (ai (gdm hx) (gdm hp));refine yR [1,8,9,10,11,12,17,18,19] ⟨?_⟩;refine yR [1,8,9,10,11,12,17,18,19] ⟨?_⟩;refine v_seq ?_;intros;refine yRc [1,8,9,10,11,12,17,18,19,42] (apReady_con x0 x1 (w:Int) x3 x4 hap.1) ⟨?_⟩;refine v_condS _ rfl ?_ ?_
   ·intro hc1;have hr1:¬readyP fl ts (x0,x1,(w:Int),x3,x4)=true:=by
     rw [hrp];intro h;simp only [Bool.and_eq_true,decide_eq_true_eq] at h;first
     |(rcases hc1 with q | q;· (rw [h.1] at q;cases q);· omega)
     |(simp [h.1] at hc1;omega)
     |(have:=hc1 h.1;omega)
    refine zn [1,8,9,10,17,18,19] ⟨?_⟩;refine yV ⟨?_⟩;refine n7 _ (i+1) ?_ ?_ ?_
    ·refine weak_bothS [1,8,9,10,17,18,19] [0,1,5] ⟨?_⟩;rw [hst,if_neg hr1,hal,ql1];rfl
    ·exact hlt
    ·show _ < _;omega
   ·intro hc1;have hr1:readyP fl ts (x0,x1,(w:Int),x3,x4)=true:=by rw [hrp];simpa using hc1
    refine zn [1,8,9,10,11,12,17,18,19] ⟨?_⟩;refine yR [1,8,9,10,11,12,13,17,18,19] ⟨?_⟩;refine v_join (A:=Nat) (fun e1=>⟨[(1,.sl (fl.map (fun t:TA=>V.agg [V.str t.1,V.int .i64 t.2.1,V.int .i64 t.2.2.1,V.int .i64 t.2.2.2.1,V.int .i64 t.2.2.2.2]))),(8,.ref 0),(9,.ref 1),(10,.ref 3),(11,.int .i64 (Nat.cast i)),(13,.int .i64 (Nat.cast e1)),(17,.sl (fl.map (fun t:TA=>V.agg [V.str t.1,V.int .i64 t.2.1,V.int .i64 t.2.2.1,V.int .i64 t.2.2.2.1,V.int .i64 t.2.2.2.2]))),(18,.int .i64 fl.length),(19,.int .i64 (Nat.cast i))],[.arr (ts.map (V.int .i64)) .flat,.arr ((isort (byKey fl ts) (readyTo fl ts i)).map (V.int .i64)) .flat,.box (.agg [V.str x0,V.int .i64 x1,V.int .i64 (Nat.cast w),V.int .i64 x3,V.int .i64 x4]) .flat,.arr ((allT (fl.take (i+1)) ts).map (V.int .i64)) .flat],false,83,0⟩) (fun e1=>e1≤(isort (byKey fl ts) (readyTo fl ts i)).length∧insR (byKey fl ts) (isort (byKey fl ts) (readyTo fl ts i)) (i:Int)=(isort (byKey fl ts) (readyTo fl ts i)).take e1++(i:Int)::(isort (byKey fl ts) (readyTo fl ts i)).drop e1) ?_ ?_
    ·intro Q20 n20 e20 r20;refine v_block ?_;intros;refine v_loop (fun j=>⟨[(1,.sl (fl.map (fun t:TA=>V.agg [V.str t.1,V.int .i64 t.2.1,V.int .i64 t.2.2.1,V.int .i64 t.2.2.2.1,V.int .i64 t.2.2.2.2]))),(8,.ref 0),(9,.ref 1),(10,.ref 3),(11,.int .i64 (Nat.cast i)),(12,.ptr 2 0 0),(13,.int .i64 (Nat.cast j)),(17,.sl (fl.map (fun t:TA=>V.agg [V.str t.1,V.int .i64 t.2.1,V.int .i64 t.2.2.1,V.int .i64 t.2.2.2.1,V.int .i64 t.2.2.2.2]))),(18,.int .i64 fl.length),(19,.int .i64 (Nat.cast i))],[.arr (ts.map (V.int .i64)) .flat,.arr ((isort (byKey fl ts) (readyTo fl ts i)).map (V.int .i64)) .flat,.box (.agg [V.str x0,V.int .i64 x1,V.int .i64 (Nat.cast w),V.int .i64 x3,V.int .i64 x4]) .flat,.arr ((allT (fl.take (i+1)) ts).map (V.int .i64)) .flat],false,83,0⟩) (fun j=>j≤(isort (byKey fl ts) (readyTo fl ts i)).length∧insPos (byKey fl ts) (i:Int) (isort (byKey fl ts) (readyTo fl ts i)) j=insPos (byKey fl ts) (i:Int) (isort (byKey fl ts) (readyTo fl ts i)) (isort (byKey fl ts) (readyTo fl ts i)).length) (fun j=>j) (isort (byKey fl ts) (readyTo fl ts i)).length ?_ ?_ ?_
     ·refine weak_bothS [1,8,9,10,11,12,13,17,18,19] [0,1,3,5] ⟨?_⟩;rw [hal,ql1];rfl
     ·exact ⟨qlu _,rfl⟩
     ·rintro j hok22 Q22 n22 e22 r22;obtain ⟨hj1,hR2⟩:=hok22;rcases Nat.eq_zero_or_pos j with hj00 | hj00
      ·skip;have hj0:¬((0:Int) < (j:Int)):=by omega
       refine v_seq ?_;intros;refine v_seq ?_;intro Q24 n24 e24 r24;refine v_draw (by kernel_rfl) ?_;intro K25 q25 k25;show aAny _ _ _ _ 22 (Array.replicate 22 false) _;have F:=Fc.mk (ai (gdm hx) (ai (gdm hp) (ai hj0 (ai @decide_false @Bool.and_false))));refine zdMove q25 true 0 45 ?_;refine zdBinOp q25 true 1 46 ?_;refine zdMove q25 true 2 47 ?_;refine zdgMove q25 true 3 48 ?_;refine zdgMove q25 true 4 49 ?_;refine zdgMove q25 true 5 50 ?_;refine zdgMove q25 true 6 51 ?_;refine zdgBinOpW q25 true 7 52 ?_;refine zdgIndexAddr q25 true 8 53 ?_;refine zdgLoad q25 true 9 54 ?_;refine zdgIndexAddr q25 true 10 55 ?_;refine zdgFieldAddr q25 true 11 56 ?_;refine zdgLoad q25 true 12 57 ?_;refine zdgIndexAddr q25 true 13 58 ?_;refine zdgLoad q25 true 14 59 ?_;refine zdgMove q25 true 15 60 ?_;refine zdgFieldAddr q25 true 16 61 ?_;refine zdgLoad q25 true 17 62 ?_;refine zdgIndexAddr q25 true 18 63 ?_;refine zdgLoad q25 true 19 64 ?_;refine zdgBinOp q25 true 20 65 ?_;refine zdPick q25 true 21 66 ?_;refine aAny_done (by kernel_rfl) ?_;refine k25 _ ?_;refine n24 _ _ (weak_keep [1,8,9,10,11,12,13,17,18,19,66] _) ?_;refine zk ⟨?_⟩;refine v_cond _ rfl ?_ ?_
       ·intro hc2;exfalso;simp [hj0] at hc2
       ·intro hc2;try simp only [zC,reduceCtorEq] at hc2
        refine zx ⟨?_⟩;refine n20 j _ ?_ ?_
        ·exact ⟨hj1,insR_is (by rw [←hR2,hj00];rfl)⟩
        ·exact weak_same [1,8,9,10,11,13,17,18,19] [0,1,2,3]
      ·skip;obtain ⟨m,rfl⟩:∃m,j=m+1:=⟨j - 1,by omega⟩;have hj0:(0:Int) < ((m+1:Nat):Int):=by omega
       obtain ⟨b,hyp⟩:∃y,(isort (byKey fl ts) (readyTo fl ts i))[m]? =some y:=⟨_,qla (by omega)⟩;have hk:(((m+1:Nat):Int) - 1).toNat=m:=by omega
       obtain ⟨kb,xb,hb1,hb2,hb3,_⟩:=ready_mem fl ts i b (isort_mem.1 (qlb hyp));have hb:∃(k:Nat) (x:TA) (w:Nat),b=(k:Int)∧fl[k]? =some x∧x.2.2.1=(w:Int)∧w < ts.length:=by
        have hapb:=hd.hap _ (qlb hb3);obtain ⟨v,hv⟩:=qlf hapb.2.1;exact ⟨kb,xb,v,hb1,hb3,hv,by rw [htl];omega⟩
       obtain ⟨k2,⟨y0,y1,y2,y3,y4⟩,v,rfl,hy,hbw,hbl⟩:=hb;simp only [] at hbw;subst hbw;obtain ⟨q,hq⟩:∃p,ts[v]? =some p:=⟨_,qla hbl⟩;have hk2l:k2 < fl.length:=(qlc.1 hy).1;have ek2:=key_is (ts:=ts) hy rfl hq;refine v_seq ?_;intros;refine v_seq ?_;intro Q28 n28 e28 r28;refine v_draw (by kernel_rfl) ?_;intro K29 q29 k29;show aAny _ _ _ _ 22 (Array.replicate 22 false) _;have F:=Fc.mk (ai (gdm hx) (ai (gdm hp) (ai hj0 (ai @decide_true (ai @Bool.and_true (ai hk (ai (gdm hyp) (ai (gdm hy) (gdm hq)))))))));refine zdMove q29 true 0 45 ?_;refine zdBinOp q29 true 1 46 ?_;refine zdMove q29 true 2 47 ?_;refine zdgMove q29 true 3 48 ?_;refine zdgMove q29 true 4 49 ?_;refine zdgMove q29 true 5 50 ?_;refine zdgMove q29 true 6 51 ?_;refine zdgBinOpW q29 true 7 52 ?_;refine zdgIndexAddr q29 true 8 53 ?_;refine zdgLoad q29 true 9 54 ?_;refine zdgIndexAddr q29 true 10 55 ?_;refine zdgFieldAddr q29 true 11 56 ?_;refine zdgLoad q29 true 12 57 ?_;refine zdgIndexAddr q29 true 13 58 ?_;refine zdgLoad q29 true 14 59 ?_;refine zdgMove q29 true 15 60 ?_;refine zdgFieldAddr q29 true 16 61 ?_;refine zdgLoad q29 true 17 62 ?_;refine zdgIndexAddr q29 true 18 63 ?_;refine zdgLoad q29 true 19 64 ?_;refine zdgBinOp q29 true 20 65 ?_;refine zdPick q29 true 21 66 ?_;refine aAny_done (by kernel_rfl) ?_;refine k29 _ ?_;refine n28 _ _ (weak_keep [1,8,9,10,11,12,13,17,18,19,66] _) ?_;refine zk ⟨?_⟩;refine v_condS _ rfl ?_ ?_
       ·intro hc2;have hlc:byKey fl ts (i:Int) (k2:Int)=true:=by rw [byKey,hki,ek2];simpa [hj0] using hc2
        refine zn [1,8,9,10,11,12,13,17,18,19] ⟨?_⟩;refine v_block ?_;intros;refine yV ⟨?_⟩;refine n22 _ m ?_ ?_ ?_
        ·refine weak_bothS [1,8,9,10,11,12,13,17,18,19] [0,1,2,3] ⟨?_⟩;rw [show ((m+1:Nat):Int) - 1=(m:Int) by omega]
        ·exact ⟨by omega,by rw [←hR2,insPos_yes hyp hlc]⟩
        ·show m < m+1;omega
       ·intro hc2;refine zx ⟨?_⟩;refine n20 (m+1) _ ?_ ?_
        ·exact ⟨hj1,insR_is (by rw [←hR2,insPos_no hyp (by rw [byKey,hki,ek2];simpa [hj0] using hc2)])⟩
        ·exact weak_same [1,8,9,10,11,13,17,18,19] [0,1,2,3]
    ·rintro e1 hok20;obtain ⟨hj1,hend⟩:=hok20;skip
     ·skip;have htk:((isort (byKey fl ts) (readyTo fl ts i)).take e1).length=e1:=by rw [qls];omega
      have hcon:=l1Own_con ((isort (byKey fl ts) (readyTo fl ts i)).take e1) (by omega);have hdt:List.take ((isort (byKey fl ts) (readyTo fl ts i)).length - e1) (List.drop e1 (List.map (V.int .i64) (isort (byKey fl ts) (readyTo fl ts i))))=List.map (V.int .i64) ((isort (byKey fl ts) (readyTo fl ts i)).drop e1):=by rw [←List.map_drop,qmg (by simp)]
      have hsn:List.map (V.int .i64) ((isort (byKey fl ts) (readyTo fl ts i)).take e1)++[V.int .i64 (i:Int)]=List.map (V.int .i64) ((isort (byKey fl ts) (readyTo fl ts i)).take e1++[(i:Int)]):=snocI;refine v_draw (by kernel_rfl) ?_;intro K33 q33 k33;show aAny _ _ _ _ 12 (Array.replicate 12 false) _;have F:=Fc.mk (ai (gdm hx) (ai (gdm hp) (ai hdt hsn)));refine zdMove q33 true 0 69 ?_;refine zdMove q33 true 1 70 ?_;refine zdSlice q33 true 2 71 ?_;refine zdMove q33 true 4 73 ?_;refine zdMove q33 false 7 76 ?_;refine zdMove q33 false 8 77 ?_;refine aAny_three 3 5 9 rfl rfl rfl (by kernel_rfl) ?_ ?_ ?_
      ·refine zsc (hcon) ⟨?_⟩;refine aAny_two 5 9 rfl rfl (by kernel_rfl) ?_ ?_
       ·refine zsBuildSlice ⟨?_⟩;refine aAny_two 6 9 rfl rfl (by kernel_rfl) ?_ ?_
        ·refine zsAppend ⟨?_⟩;refine zdSlice q33 true 9 78 ?_;refine zoAppend 10 ⟨?_⟩;refine zoAssign 11 ⟨?_⟩;refine aAny_done (by kernel_rfl) ?_;refine k33 _ ?_;refine n12 _ ?_;refine n11 _ _ (weak_keep [1,8,9,10,17,18,19] _) ?_;refine zk ⟨?_⟩;refine yV ⟨?_⟩;refine n7 _ (i+1) ?_ ?_ ?_
         ·refine weak_bothS [1,8,9,10,17,18,19] [0,7,3] ⟨?_⟩;rw [hst,if_pos hr1,isort_snoc,hend,←ql1,qlw];try rfl
         ·exact hlt
         ·show _ < _;omega
        ·refine zsSlice ⟨?_⟩;refine zoAppend 6 ⟨?_⟩;refine zoAppend 10 ⟨?_⟩;refine zoAssign 11 ⟨?_⟩;refine aAny_done (by kernel_rfl) ?_;refine k33 _ ?_;refine n12 _ ?_;refine n11 _ _ (weak_keep [1,8,9,10,17,18,19] _) ?_;refine zk ⟨?_⟩;refine yV ⟨?_⟩;refine n7 _ (i+1) ?_ ?_ ?_
         ·refine weak_bothS [1,8,9,10,17,18,19] [0,7,3] ⟨?_⟩;rw [hst,if_pos hr1,isort_snoc,hend,←ql1,qlw];try rfl
         ·exact hlt
         ·show _ < _;omega
       ·refine zsSlice ⟨?_⟩;refine zoBuildSlice 5 ⟨?_⟩;refine zoAppend 6 ⟨?_⟩;refine zoAppend 10 ⟨?_⟩;refine zoAssign 11 ⟨?_⟩;refine aAny_done (by kernel_rfl) ?_;refine k33 _ ?_;refine n12 _ ?_;refine n11 _ _ (weak_keep [1,8,9,10,17,18,19] _) ?_;refine zk ⟨?_⟩;refine yV ⟨?_⟩;refine n7 _ (i+1) ?_ ?_ ?_
        ·refine weak_bothS [1,8,9,10,17,18,19] [0,7,3] ⟨?_⟩;rw [hst,if_pos hr1,isort_snoc,hend,←ql1,qlw];try rfl
        ·exact hlt
        ·show _ < _;omega
      ·refine zsBuildSlice ⟨?_⟩;refine aAny_two 3 9 rfl rfl (by kernel_rfl) ?_ ?_
       ·refine zsc (hcon) ⟨?_⟩;refine aAny_two 6 9 rfl rfl (by kernel_rfl) ?_ ?_
        ·refine zsAppend ⟨?_⟩;refine zdSlice q33 true 9 78 ?_;refine zoAppend 10 ⟨?_⟩;refine zoAssign 11 ⟨?_⟩;refine aAny_done (by kernel_rfl) ?_;refine k33 _ ?_;refine n12 _ ?_;refine n11 _ _ (weak_keep [1,8,9,10,17,18,19] _) ?_;refine zk ⟨?_⟩;refine yV ⟨?_⟩;refine n7 _ (i+1) ?_ ?_ ?_
         ·refine weak_bothS [1,8,9,10,17,18,19] [0,7,3] ⟨?_⟩;rw [hst,if_pos hr1,isort_snoc,hend,←ql1,qlw];try rfl
         ·exact hlt
         ·show _ < _;omega
        ·refine zsSlice ⟨?_⟩;refine zoAppend 6 ⟨?_⟩;refine zoAppend 10 ⟨?_⟩;refine zoAssign 11 ⟨?_⟩;refine aAny_done (by kernel_rfl) ?_;refine k33 _ ?_;refine n12 _ ?_;refine n11 _ _ (weak_keep [1,8,9,10,17,18,19] _) ?_;refine zk ⟨?_⟩;refine yV ⟨?_⟩;refine n7 _ (i+1) ?_ ?_ ?_
         ·refine weak_bothS [1,8,9,10,17,18,19] [0,7,3] ⟨?_⟩;rw [hst,if_pos hr1,isort_snoc,hend,←ql1,qlw];try rfl
         ·exact hlt
         ·show _ < _;omega
       ·refine zsSlice ⟨?_⟩;refine zoc 3 (hcon) ⟨?_⟩;refine zoAppend 6 ⟨?_⟩;refine zoAppend 10 ⟨?_⟩;refine zoAssign 11 ⟨?_⟩;refine aAny_done (by kernel_rfl) ?_;refine k33 _ ?_;refine n12 _ ?_;refine n11 _ _ (weak_keep [1,8,9,10,17,18,19] _) ?_;refine zk ⟨?_⟩;refine yV ⟨?_⟩;refine n7 _ (i+1) ?_ ?_ ?_
        ·refine weak_bothS [1,8,9,10,17,18,19] [0,7,3] ⟨?_⟩;rw [hst,if_pos hr1,isort_snoc,hend,←ql1,qlw];try rfl
        ·exact hlt
        ·show _ < _;omega
      ·refine zsSlice ⟨?_⟩;refine aAny_two 3 5 rfl rfl (by kernel_rfl) ?_ ?_
       ·refine zsc (hcon) ⟨?_⟩;refine zoBuildSlice 5 ⟨?_⟩;refine zoAppend 6 ⟨?_⟩;refine zoAppend 10 ⟨?_⟩;refine zoAssign 11 ⟨?_⟩;refine aAny_done (by kernel_rfl) ?_;refine k33 _ ?_;refine n12 _ ?_;refine n11 _ _ (weak_keep [1,8,9,10,17,18,19] _) ?_;refine zk ⟨?_⟩;refine yV ⟨?_⟩;refine n7 _ (i+1) ?_ ?_ ?_
        ·refine weak_bothS [1,8,9,10,17,18,19] [0,7,3] ⟨?_⟩;rw [hst,if_pos hr1,isort_snoc,hend,←ql1,qlw];try rfl
        ·exact hlt
        ·show _ < _;omega
       ·refine zsBuildSlice ⟨?_⟩;refine zoc 3 (hcon) ⟨?_⟩;refine zoAppend 6 ⟨?_⟩;refine zoAppend 10 ⟨?_⟩;refine zoAssign 11 ⟨?_⟩;refine aAny_done (by kernel_rfl) ?_;refine k33 _ ?_;refine n12 _ ?_;refine n11 _ _ (weak_keep [1,8,9,10,17,18,19] _) ?_;refine zk ⟨?_⟩;refine yV ⟨?_⟩;refine n7 _ (i+1) ?_ ?_ ?_
        ·refine weak_bothS [1,8,9,10,17,18,19] [0,7,3] ⟨?_⟩;rw [hst,if_pos hr1,isort_snoc,hend,←ql1,qlw];try rfl
        ·exact hlt
        ·show _ < _;omega
  ·intro hc0;have hend:i=fl.length:=by omega
   subst hend;refine zn [9,10] ⟨?_⟩;refine yR [6,7] ⟨?_⟩;refine zr ⟨?_⟩;exact ret_gen [1,2] rfl rfl (by decide) rfl (by simp [readyL]) (by simp [Blk.kindIs]) rfl
end Go.Proofs.YtmhaafinhpopmaaGreat
