/- What functions compute. No condition. -/
import Derived.Test.YtmbbjhopngejaaaGreatDoorX14
set_option linter.unusedSimpArgs false
set_option linter.unusedVariables false
set_option linter.defProp false
namespace Go.Proofs.YtmbbjhopngejaaaGreatDoor
open Go Go.Vm
set_option maxHeartbeats 8000000
theorem d4w (l:List ByteArray) (hl:l.length≤1048576):Con Tryz.prog 144 [.sl (l.map V.str)] [] (.ref 0) [.arr (l.map V.str) .flat]:=by
 have hns:(l.map V.str).all V.noSl=true:=by rw [List.all_map,qlf];intro a _;rfl
 refine zcn [.tmp 2] [] Tryz.func144 Tryz.ntmps144 ⟨?_⟩;intro Q0 n0 r0;have T:=tq2 Ty.t9 Ty.t32;have F:=Fc.mk True.intro;have F:=Fc.mk hns;refine yR [0] ⟨?_⟩;refine b0e ?_;intros;refine b1l [0,4] ?_;intro K3 k3;refine b15 ⟨?_⟩;refine f91 ⟨?_⟩;intro nb4 hnb4;refine k3 _ ?_;refine zk ⟨?_⟩;refine b0a _ rfl ?_ ?_
 ·intro hc0;have hnil:l=[]:=by cases l with | nil=>rfl | cons a b=>have:=hnb4 (by simp);rw [hc0] at this;cases this
  refine yR [2] ⟨?_⟩;refine zr ⟨?_⟩;rw [hnil];exact b1t rfl rfl rfl
 ·intro hc0;refine zn [0] ⟨?_⟩;refine yR [2] ⟨?_⟩;refine zr ⟨?_⟩;exact b1t rfl rfl (by simp)
theorem b6v (l:List TI) (hl:l.length≤1048576) (hls:∀t∈l,t.2.2.2.length≤1048576):Con Tryz.prog 100 [sQ rQb l] [] (.ref 0) [fQ rQb l]:=by
 refine zcn [.tmp 2] [] Tryz.func100 Tryz.ntmps100 ⟨?_⟩;intro Q0 n0 r0;have T:=tq6 Ty.t3 Ty.t4 Ty.t9 Ty.t28 Ty.t32 Ty.t55;have F:=Fc.mk True.intro;refine yR [0] ⟨?_⟩;refine yR [0,3] ⟨?_⟩;refine b0e ?_;intros;refine yR [3,6,7,8] ⟨?_⟩;refine b0i ?_;intros;refine b08 (fun i=>⟨[(3,.ref 0),(6,sQ rQb l),(7,.int .i64 l.length),(8,.int .i64 (Nat.cast i))],[.arr ((l.take i).map rQb) (b2h i)],false,22,0⟩) (fun i=>i≤l.length) (fun i=>l.length - i) 0 ?_ ?_ ?_
 ·refine b0d [3,6,7,8] [1] ⟨?_⟩;rfl
 ·exact qle _
 ·rintro i hok6 Q6 n6 e6 r6;have hi1:i≤l.length:=hok6;refine yR [3,6,7,8,9] ⟨?_⟩;refine b0e ?_;intros;refine b0a _ rfl ?_ ?_
  ·intro hc0;have hlt:i < l.length:=by omega
   obtain ⟨⟨x0,x1,x2,x3⟩,hx⟩:∃x:TI,l[i]? =some x:=⟨l[i]'(by omega),qla (by omega)⟩;have hlx:=hls _ (qlb hx);simp only [] at hlx;have hsn:(l.take i).map rQb++[V.agg [V.int .i64 x0,V.int .i64 x1,V.bool x2,V.sl (x3.map V.str)]]=(l.take (i+1)).map rQb:=(b5f (f:=rQb) hx).symm;have hti:(l.take i).length=i:=by rw [qlr];omega
   refine zn [3,6,7,8] ⟨?_⟩;refine b0e ?_;intros;refine b0i ?_;intros;have F:=fq2 (gdm hx) hti;refine yR [3,5,6,7,8] ⟨?_⟩;refine yRc [3,5,6,7,8] (d4w x3 hlx) ⟨?_⟩;refine yQ [3,6,7,8] ⟨?_⟩;refine yV ⟨?_⟩;refine n6 _ (i+1) ?_ ?_ ?_
   ·refine b0d [3,6,7,8] [5] ⟨?_⟩;rw [←hsn];rfl
   ·exact hlt
   ·show _ < _;omega
  ·intro hc0;have hend:i=l.length:=by omega
   subst hend;refine zn [3] ⟨?_⟩;refine yR [2] ⟨?_⟩;refine zr ⟨?_⟩;rw [List.take_length];exact b1t rfl (by unfold b2h;split<;>rfl) rfl
theorem b3v (l:List TI) (hl:l.length≤1048576) (hls:∀t∈l,t.2.2.2.length≤1048576):Con Tryz.prog 89 [sQ rQb l] [] (.ref 0) [fQ rQb l]:=by
 refine zcn [.tmp 2] [] Tryz.func89 Tryz.ntmps89 ⟨?_⟩;intro Q0 n0 r0;have T:=tq6 Ty.t3 Ty.t4 Ty.t9 Ty.t28 Ty.t32 Ty.t55;have F:=Fc.mk True.intro;refine yR [0] ⟨?_⟩;refine yR [0,3] ⟨?_⟩;refine b0e ?_;intros;refine yR [3,6,7,8] ⟨?_⟩;refine b0i ?_;intros;refine b08 (fun i=>⟨[(3,.ref 0),(6,sQ rQb l),(7,.int .i64 l.length),(8,.int .i64 (Nat.cast i))],[.arr ((l.take i).map rQb) (b2h i)],false,23,0⟩) (fun i=>i≤l.length) (fun i=>l.length - i) 0 ?_ ?_ ?_
 ·refine b0d [3,6,7,8] [1] ⟨?_⟩;rfl
 ·exact qle _
 ·rintro i hok6 Q6 n6 e6 r6;have hi1:i≤l.length:=hok6;refine yR [3,6,7,8,9] ⟨?_⟩;refine b0e ?_;intros;refine b0a _ rfl ?_ ?_
  ·intro hc0;have hlt:i < l.length:=by omega
   obtain ⟨⟨x0,x1,x2,x3⟩,hx⟩:∃x:TI,l[i]? =some x:=⟨l[i]'(by omega),qla (by omega)⟩;have hlx:=hls _ (qlb hx);simp only [] at hlx;have hsn:(l.take i).map rQb++[V.agg [V.int .i64 x0,V.int .i64 x1,V.bool x2,V.sl (x3.map V.str)]]=(l.take (i+1)).map rQb:=(b5f (f:=rQb) hx).symm;have hti:(l.take i).length=i:=by rw [qlr];omega
   have hns:(x3.map V.str).all V.noSl=true:=by rw [List.all_map,qlf];intro a _;rfl
   refine zn [3,6,7,8] ⟨?_⟩;refine b0e ?_;intros;refine b0i ?_;intros;have F:=fq3 (gdm hx) hti hns;refine yR [3,5,6,7,8] ⟨?_⟩;refine yR [3,5,6,7,8] ⟨?_⟩;refine yQ [3,6,7,8] ⟨?_⟩;refine yV ⟨?_⟩;refine n6 _ (i+1) ?_ ?_ ?_
   ·refine b0d [3,6,7,8] [6] ⟨?_⟩;rw [←hsn];rfl
   ·exact hlt
   ·show _ < _;omega
  ·intro hc0;have hend:i=l.length:=by omega
   subst hend;refine zn [3] ⟨?_⟩;refine yR [2] ⟨?_⟩;refine zr ⟨?_⟩;rw [List.take_length];exact b1t rfl (by unfold b2h;split<;>rfl) rfl
theorem b30 (l:List TW) (hl:l.length≤1048576) (hls:∀t∈l,t.2.length≤1048576):Con Tryz.prog 109 [sQ rQc l] [] (.ref 0) [fQ rQc l]:=by
 refine zcn [.tmp 2] [] Tryz.func109 Tryz.ntmps109 ⟨?_⟩;intro Q0 n0 r0;have T:=tq4 Ty.t3 Ty.t29 Ty.t35 Ty.t91;have F:=Fc.mk True.intro;refine yR [0] ⟨?_⟩;refine yR [0,3] ⟨?_⟩;refine b0e ?_;intros;refine yR [3,6,7,8] ⟨?_⟩;refine b0i ?_;intros;refine b08 (fun i=>⟨[(3,.ref 0),(6,sQ rQc l),(7,.int .i64 l.length),(8,.int .i64 (Nat.cast i))],[.arr ((l.take i).map rQc) (b2h i)],false,23,0⟩) (fun i=>i≤l.length) (fun i=>l.length - i) 0 ?_ ?_ ?_
 ·refine b0d [3,6,7,8] [1] ⟨?_⟩;rfl
 ·exact qle _
 ·rintro i hok6 Q6 n6 e6 r6;have hi1:i≤l.length:=hok6;refine yR [3,6,7,8,9] ⟨?_⟩;refine b0e ?_;intros;refine b0a _ rfl ?_ ?_
  ·intro hc0;have hlt:i < l.length:=by omega
   obtain ⟨⟨x0,x1⟩,hx⟩:∃x:TW,l[i]? =some x:=⟨l[i]'(by omega),qla (by omega)⟩;have hlx:=hls _ (qlb hx);simp only [] at hlx;have hsn:(l.take i).map rQc++[V.agg [V.int .i64 x0,V.sl (x1.map (V.int .i64))]]=(l.take (i+1)).map rQc:=(b5f (f:=rQc) hx).symm;have hti:(l.take i).length=i:=by rw [qlr];omega
   refine zn [3,6,7,8] ⟨?_⟩;refine b0e ?_;intro Q10 n10 e10 r10;refine b0i ?_;intro Q11 n11 x11 e11 r11;have F:=fq2 (gdm hx) hti;refine yR [3,5,6,7,8] ⟨?_⟩;refine b1f (by kernel_rfl) ?_;intro K13 q13 k13;show b1r _ _ _ _ 10 (Array.replicate 10 false) _;refine b0t q13 true 0 12 ?_;refine b0h q13 true 1 13 ?_;refine b1d q13 true 2 14 ?_;refine b0h q13 true 3 15 ?_;refine b1d q13 true 4 16 ?_;refine zoc 5 (c3x x1 hlx) ⟨?_⟩;refine b17 q13 true 6 18 ?_;refine b1j 7 ⟨?_⟩;refine b0m 8 ⟨?_⟩;refine b0p 9 ⟨?_⟩;refine b0b (by kernel_rfl) ?_;refine k13 _ ?_;refine n11 _ ?_;refine n10 _ _ (b0f [3,6,7,8] _) ?_;refine zk ⟨?_⟩;refine yV ⟨?_⟩;refine n6 _ (i+1) ?_ ?_ ?_
   ·refine b0d [3,6,7,8] [5] ⟨?_⟩;rw [←hsn];rfl
   ·exact hlt
   ·show _ < _;omega
  ·intro hc0;have hend:i=l.length:=by omega
   subst hend;refine zn [3] ⟨?_⟩;refine yR [2] ⟨?_⟩;refine zr ⟨?_⟩;rw [List.take_length];exact b1t rfl (by unfold b2h;split<;>rfl) rfl
set_option maxRecDepth 8000 in
theorem b8f (fl:List TA) (ins:List TI) (ws:List TW) (hl:fl.length≤1048576) (hil:ins.length≤1048576) (hin:∀x∈ins,x.2.2.2.length≤1048576) (hwl:ws.length≤1048576) (hwn:∀x∈ws,x.2.length≤1048576):Con Tryz.prog 39 [.pv [kQ fl ins ws] 0 0] [] (.agg [.ref 0,.ref 1,.ref 2]) [aQ rQa fl,fQ rQb ins,fQ rQc ws]:=by
 refine zcn [.cell 2 31] [] Tryz.func39 Tryz.ntmps39 ⟨?_⟩;intro Q0 n0 r0;have T:=f72 Ty.t3 Ty.t4 Ty.t9 Ty.t27 Ty.t28 Ty.t29 Ty.t31 Ty.t32 Ty.t35 Ty.t53 Ty.t55 Ty.t91;have F:=Fc.mk True.intro;refine yR [0,2] ⟨?_⟩;refine b0e ?_;intro Q2 n2 e2 r2;refine b1f (by kernel_rfl) ?_;intro K3 q3 k3;show b1r _ _ _ _ 13 (Array.replicate 13 false) _;refine b0t q3 true 0 6 ?_;refine b3f q3 true 1 7 ?_;refine b0h q3 true 2 8 ?_;refine b1i q3 true 3 9 ?_;refine b0t q3 true 5 11 ?_;refine b3f q3 true 6 12 ?_;refine b0h q3 true 7 13 ?_;refine b1i q3 true 8 14 ?_;refine b09 4 11 rfl rfl (by kernel_rfl) ?_ ?_
 ·refine zsc (b42 fl hl) ⟨?_⟩;refine b09 9 11 rfl rfl (by kernel_rfl) ?_ ?_
  ·refine zsc (b6v ins hil hin) ⟨?_⟩;refine b17 q3 true 10 16 ?_;refine c8u 11 ⟨?_⟩;refine b06 12 ⟨?_⟩;refine b0b (by kernel_rfl) ?_;refine k3 _ ?_;refine n2 _ _ (b0f [0,2,3] _) ?_;refine zk ⟨?_⟩;refine b0e ?_;intros;refine yR [2,3,20,21,22] ⟨?_⟩;refine b0i ?_;intros;refine b08 (fun i=>⟨[(2,.ptr 3 0 0),(3,.ptr 7 0 0),(20,sQ rQc ws),(21,.int .i64 ws.length),(22,.int .i64 (Nat.cast i))],[eQ,eQ,eQ,bQ 0 1 2,aQ rQa fl,fQ rQb ins,.arr ((ws.take i).map rQc) (b2h i),bQ 4 5 6],false,39,0⟩) (fun i=>i≤ws.length) (fun i=>ws.length - i) 0 ?_ ?_ ?_
   ·refine b1o [2,3,20,21,22] [0,1,2,3,4,5,10,9] ⟨?_⟩;rfl
   ·exact qle _
   ·rintro i hok7 Q7 n7 e7 r7;have hi1:i≤ws.length:=hok7;refine yR [2,3,20,21,22,23] ⟨?_⟩;refine b0e ?_;intros;refine b0a _ rfl ?_ ?_
    ·intro hc0;have hlt:i < ws.length:=by omega
     obtain ⟨⟨x0,x1⟩,hx⟩:∃x:TW,ws[i]? =some x:=⟨ws[i]'(by omega),qla (by omega)⟩;have hlx:=hwn _ (qlb hx);simp only [] at hlx;have hsn:(ws.take i).map rQc++[V.agg [V.int .i64 x0,V.sl (x1.map (V.int .i64))]]=(ws.take (i+1)).map rQc:=(b5f (f:=rQc) hx).symm;have hti:(ws.take i).length=i:=by rw [qlr];omega
     refine zn [2,3,20,21,22] ⟨?_⟩;refine b0e ?_;intro Q11 n11 e11 r11;refine b0i ?_;intro Q12 n12 x12 e12 r12;have F:=fq2 (gdm hx) hti;refine yR [2,3,5,20,21,22] ⟨?_⟩;refine b1f (by kernel_rfl) ?_;intro K14 q14 k14;show b1r _ _ _ _ 12 (Array.replicate 12 false) _;refine b0h q14 true 0 26 ?_;refine b1i q14 true 1 27 ?_;refine b0h q14 true 2 28 ?_;refine b1i q14 true 3 29 ?_;refine b0h q14 true 4 30 ?_;refine b1i q14 true 5 31 ?_;refine zoc 6 (c03 x1 hlx) ⟨?_⟩;refine b17 q14 true 7 33 ?_;refine b1j 8 ⟨?_⟩;refine b0m 9 ⟨?_⟩;refine b0h q14 true 10 36 ?_;refine b06 11 ⟨?_⟩;refine b0b (by kernel_rfl) ?_;refine k14 _ ?_;refine n12 _ ?_;refine n11 _ _ (b0f [2,3,20,21,22] _) ?_;refine zk ⟨?_⟩;refine yV ⟨?_⟩;refine n7 _ (i+1) ?_ ?_ ?_
     ·refine b1o [2,3,20,21,22] [0,1,2,3,4,5,12,7] ⟨?_⟩;rw [←hsn];rfl
     ·exact hlt
     ·show _ < _;omega
    ·intro hc0;have hend:i=ws.length:=by omega
     subst hend;refine zn [2,3] ⟨?_⟩;refine yR [2] ⟨?_⟩;refine zq1 ⟨?_⟩;rw [List.take_length];exact rta
  ·refine b4j ⟨?_⟩;refine zoc 9 (b6v ins hil hin) ⟨?_⟩;refine b17 q3 true 10 16 ?_;refine b06 12 ⟨?_⟩;refine b0b (by kernel_rfl) ?_;refine k3 _ ?_;refine n2 _ _ (b0f [0,2,3] _) ?_;refine zk ⟨?_⟩;refine b0e ?_;intros;refine yR [2,3,20,21,22] ⟨?_⟩;refine b0i ?_;intros;refine b08 (fun i=>⟨[(2,.ptr 3 0 0),(3,.ptr 7 0 0),(20,sQ rQc ws),(21,.int .i64 ws.length),(22,.int .i64 (Nat.cast i))],[eQ,eQ,eQ,bQ 0 1 2,aQ rQa fl,fQ rQb ins,.arr ((ws.take i).map rQc) (b2h i),bQ 4 5 6],false,39,0⟩) (fun i=>i≤ws.length) (fun i=>ws.length - i) 0 ?_ ?_ ?_
   ·refine b1o [2,3,20,21,22] [0,1,2,3,4,9,10,8] ⟨?_⟩;rfl
   ·exact qle _
   ·rintro i hok20 Q20 n20 e20 r20;have hi1:i≤ws.length:=hok20;refine yR [2,3,20,21,22,23] ⟨?_⟩;refine b0e ?_;intros;refine b0a _ rfl ?_ ?_
    ·intro hc0;have hlt:i < ws.length:=by omega
     obtain ⟨⟨x0,x1⟩,hx⟩:∃x:TW,ws[i]? =some x:=⟨ws[i]'(by omega),qla (by omega)⟩;have hlx:=hwn _ (qlb hx);simp only [] at hlx;have hsn:(ws.take i).map rQc++[V.agg [V.int .i64 x0,V.sl (x1.map (V.int .i64))]]=(ws.take (i+1)).map rQc:=(b5f (f:=rQc) hx).symm;have hti:(ws.take i).length=i:=by rw [qlr];omega
     refine zn [2,3,20,21,22] ⟨?_⟩;refine b0e ?_;intro Q24 n24 e24 r24;refine b0i ?_;intro Q25 n25 x25 e25 r25;have F:=fq2 (gdm hx) hti;refine yR [2,3,5,20,21,22] ⟨?_⟩;refine b1f (by kernel_rfl) ?_;intro K27 q27 k27;show b1r _ _ _ _ 12 (Array.replicate 12 false) _;refine b0h q27 true 0 26 ?_;refine b1i q27 true 1 27 ?_;refine b0h q27 true 2 28 ?_;refine b1i q27 true 3 29 ?_;refine b0h q27 true 4 30 ?_;refine b1i q27 true 5 31 ?_;refine zoc 6 (c03 x1 hlx) ⟨?_⟩;refine b17 q27 true 7 33 ?_;refine b1j 8 ⟨?_⟩;refine b0m 9 ⟨?_⟩;refine b0h q27 true 10 36 ?_;refine b06 11 ⟨?_⟩;refine b0b (by kernel_rfl) ?_;refine k27 _ ?_;refine n25 _ ?_;refine n24 _ _ (b0f [2,3,20,21,22] _) ?_;refine zk ⟨?_⟩;refine yV ⟨?_⟩;refine n20 _ (i+1) ?_ ?_ ?_
     ·refine b1o [2,3,20,21,22] [0,1,2,3,4,5,12,7] ⟨?_⟩;rw [←hsn];rfl
     ·exact hlt
     ·show _ < _;omega
    ·intro hc0;have hend:i=ws.length:=by omega
     subst hend;refine zn [2,3] ⟨?_⟩;refine yR [2] ⟨?_⟩;refine zq1 ⟨?_⟩;rw [List.take_length];exact rta
 ·refine b4j ⟨?_⟩;refine zoc 4 (b42 fl hl) ⟨?_⟩;refine zoc 9 (b6v ins hil hin) ⟨?_⟩;refine b17 q3 true 10 16 ?_;refine b06 12 ⟨?_⟩;refine b0b (by kernel_rfl) ?_;refine k3 _ ?_;refine n2 _ _ (b0f [0,2,3] _) ?_;refine zk ⟨?_⟩;refine b0e ?_;intros;refine yR [2,3,20,21,22] ⟨?_⟩;refine b0i ?_;intros;refine b08 (fun i=>⟨[(2,.ptr 3 0 0),(3,.ptr 7 0 0),(20,sQ rQc ws),(21,.int .i64 ws.length),(22,.int .i64 (Nat.cast i))],[eQ,eQ,eQ,bQ 0 1 2,aQ rQa fl,fQ rQb ins,.arr ((ws.take i).map rQc) (b2h i),bQ 4 5 6],false,39,0⟩) (fun i=>i≤ws.length) (fun i=>ws.length - i) 0 ?_ ?_ ?_
  ·refine b1o [2,3,20,21,22] [0,1,2,3,8,9,10,7] ⟨?_⟩;rfl
  ·exact qle _
  ·rintro i hok33 Q33 n33 e33 r33;have hi1:i≤ws.length:=hok33;refine yR [2,3,20,21,22,23] ⟨?_⟩;refine b0e ?_;intros;refine b0a _ rfl ?_ ?_
   ·intro hc0;have hlt:i < ws.length:=by omega
    obtain ⟨⟨x0,x1⟩,hx⟩:∃x:TW,ws[i]? =some x:=⟨ws[i]'(by omega),qla (by omega)⟩;have hlx:=hwn _ (qlb hx);simp only [] at hlx;have hsn:(ws.take i).map rQc++[V.agg [V.int .i64 x0,V.sl (x1.map (V.int .i64))]]=(ws.take (i+1)).map rQc:=(b5f (f:=rQc) hx).symm;have hti:(ws.take i).length=i:=by rw [qlr];omega
    refine zn [2,3,20,21,22] ⟨?_⟩;refine b0e ?_;intro Q37 n37 e37 r37;refine b0i ?_;intro Q38 n38 x38 e38 r38;have F:=fq2 (gdm hx) hti;refine yR [2,3,5,20,21,22] ⟨?_⟩;refine b1f (by kernel_rfl) ?_;intro K40 q40 k40;show b1r _ _ _ _ 12 (Array.replicate 12 false) _;refine b0h q40 true 0 26 ?_;refine b1i q40 true 1 27 ?_;refine b0h q40 true 2 28 ?_;refine b1i q40 true 3 29 ?_;refine b0h q40 true 4 30 ?_;refine b1i q40 true 5 31 ?_;refine zoc 6 (c03 x1 hlx) ⟨?_⟩;refine b17 q40 true 7 33 ?_;refine b1j 8 ⟨?_⟩;refine b0m 9 ⟨?_⟩;refine b0h q40 true 10 36 ?_;refine b06 11 ⟨?_⟩;refine b0b (by kernel_rfl) ?_;refine k40 _ ?_;refine n38 _ ?_;refine n37 _ _ (b0f [2,3,20,21,22] _) ?_;refine zk ⟨?_⟩;refine yV ⟨?_⟩;refine n33 _ (i+1) ?_ ?_ ?_
    ·refine b1o [2,3,20,21,22] [0,1,2,3,4,5,12,7] ⟨?_⟩;rw [←hsn];rfl
    ·exact hlt
    ·show _ < _;omega
   ·intro hc0;have hend:i=ws.length:=by omega
    subst hend;refine zn [2,3] ⟨?_⟩;refine yR [2] ⟨?_⟩;refine zq1 ⟨?_⟩;rw [List.take_length];exact rta
theorem c1a (fl:List TA) (ins:List TI) (ws:List TW) (hl:fl.length≤1048576) (hil:ins.length≤1048576) (hin:∀x∈ins,x.2.2.2.length≤1048576) (hwl:ws.length≤1048576) (hwn:∀x∈ws,x.2.length≤1048576):Con Tryz.prog 45 [kQ fl ins ws] [] (.agg [.ref 0,.ref 1,.ref 2]) [aQ rQa fl,fQ rQb ins,fQ rQc ws]:=by
 have hns:(fl.map rQa).all V.noSl=true:=by rw [List.all_map,qlf];intro a _;rfl
 refine zcn [.cell 2 31] [] Tryz.func45 Tryz.ntmps45 ⟨?_⟩;intro Q0 n0 r0;have T:=f72 Ty.t3 Ty.t4 Ty.t9 Ty.t27 Ty.t28 Ty.t29 Ty.t31 Ty.t32 Ty.t35 Ty.t53 Ty.t55 Ty.t91;have F:=Fc.mk True.intro;have F:=Fc.mk hns;refine yR [1,2] ⟨?_⟩;refine b0e ?_;intro Q2 n2 e2 r2;refine b1f (by kernel_rfl) ?_;intro K3 q3 k3;show b1r _ _ _ _ 12 (Array.replicate 12 false) _;refine b0h q3 true 1 4 ?_;refine b1i q3 true 2 5 ?_;refine b0h q3 false 4 7 ?_;refine b0h q3 false 7 10 ?_;refine b49 0 5 8 rfl rfl rfl (by kernel_rfl) ?_ ?_ ?_
 ·refine b01 ⟨?_⟩;refine b49 3 5 8 rfl rfl rfl (by kernel_rfl) ?_ ?_ ?_
  ·refine b16 ⟨?_⟩;refine b1i q3 true 5 8 ?_;refine b1i q3 true 8 11 ?_;refine zoc 6 (b3v ins hil hin) ⟨?_⟩;refine zoc 9 (b30 ws hwl hwn) ⟨?_⟩;refine b17 q3 true 10 13 ?_;refine b06 11 ⟨?_⟩;refine b0b (by kernel_rfl) ?_;refine k3 _ ?_;refine n2 _ _ (b0f [2] _) ?_;refine zq6 ⟨?_⟩;exact rta
  ·refine b3h ⟨?_⟩;refine b09 3 8 rfl rfl (by kernel_rfl) ?_ ?_
   ·refine b16 ⟨?_⟩;refine b1i q3 true 8 11 ?_;refine zoc 6 (b3v ins hil hin) ⟨?_⟩;refine zoc 9 (b30 ws hwl hwn) ⟨?_⟩;refine b17 q3 true 10 13 ?_;refine b06 11 ⟨?_⟩;refine b0b (by kernel_rfl) ?_;refine k3 _ ?_;refine n2 _ _ (b0f [2] _) ?_;refine zq6 ⟨?_⟩;exact rta
   ·refine b3h ⟨?_⟩;refine b0m 3 ⟨?_⟩;refine zoc 6 (b3v ins hil hin) ⟨?_⟩;refine zoc 9 (b30 ws hwl hwn) ⟨?_⟩;refine b17 q3 true 10 13 ?_;refine b06 11 ⟨?_⟩;refine b0b (by kernel_rfl) ?_;refine k3 _ ?_;refine n2 _ _ (b0f [2] _) ?_;refine zq6 ⟨?_⟩;exact rta
  ·refine b3h ⟨?_⟩;refine b09 3 5 rfl rfl (by kernel_rfl) ?_ ?_
   ·refine b16 ⟨?_⟩;refine b1i q3 true 5 8 ?_;refine zoc 6 (b3v ins hil hin) ⟨?_⟩;refine zoc 9 (b30 ws hwl hwn) ⟨?_⟩;refine b17 q3 true 10 13 ?_;refine b06 11 ⟨?_⟩;refine b0b (by kernel_rfl) ?_;refine k3 _ ?_;refine n2 _ _ (b0f [2] _) ?_;refine zq6 ⟨?_⟩;exact rta
   ·refine b3h ⟨?_⟩;refine b0m 3 ⟨?_⟩;refine zoc 6 (b3v ins hil hin) ⟨?_⟩;refine zoc 9 (b30 ws hwl hwn) ⟨?_⟩;refine b17 q3 true 10 13 ?_;refine b06 11 ⟨?_⟩;refine b0b (by kernel_rfl) ?_;refine k3 _ ?_;refine n2 _ _ (b0f [2] _) ?_;refine zq6 ⟨?_⟩;exact rta
 ·refine b3h ⟨?_⟩;refine b09 0 8 rfl rfl (by kernel_rfl) ?_ ?_
  ·refine b01 ⟨?_⟩;refine b09 3 8 rfl rfl (by kernel_rfl) ?_ ?_
   ·refine b16 ⟨?_⟩;refine b1i q3 true 8 11 ?_;refine zoc 6 (b3v ins hil hin) ⟨?_⟩;refine zoc 9 (b30 ws hwl hwn) ⟨?_⟩;refine b17 q3 true 10 13 ?_;refine b06 11 ⟨?_⟩;refine b0b (by kernel_rfl) ?_;refine k3 _ ?_;refine n2 _ _ (b0f [2] _) ?_;refine zq6 ⟨?_⟩;exact rta
   ·refine b3h ⟨?_⟩;refine b0m 3 ⟨?_⟩;refine zoc 6 (b3v ins hil hin) ⟨?_⟩;refine zoc 9 (b30 ws hwl hwn) ⟨?_⟩;refine b17 q3 true 10 13 ?_;refine b06 11 ⟨?_⟩;refine b0b (by kernel_rfl) ?_;refine k3 _ ?_;refine n2 _ _ (b0f [2] _) ?_;refine zq6 ⟨?_⟩;exact rta
  ·refine b3h ⟨?_⟩;refine b1j 0 ⟨?_⟩;refine b0m 3 ⟨?_⟩;refine zoc 6 (b3v ins hil hin) ⟨?_⟩;refine zoc 9 (b30 ws hwl hwn) ⟨?_⟩;refine b17 q3 true 10 13 ?_;refine b06 11 ⟨?_⟩;refine b0b (by kernel_rfl) ?_;refine k3 _ ?_;refine n2 _ _ (b0f [2] _) ?_;refine zq6 ⟨?_⟩;exact rta
 ·refine b3h ⟨?_⟩;refine b09 0 5 rfl rfl (by kernel_rfl) ?_ ?_
  ·refine b01 ⟨?_⟩;refine b09 3 5 rfl rfl (by kernel_rfl) ?_ ?_
   ·refine b16 ⟨?_⟩;refine b1i q3 true 5 8 ?_;refine zoc 6 (b3v ins hil hin) ⟨?_⟩;refine zoc 9 (b30 ws hwl hwn) ⟨?_⟩;refine b17 q3 true 10 13 ?_;refine b06 11 ⟨?_⟩;refine b0b (by kernel_rfl) ?_;refine k3 _ ?_;refine n2 _ _ (b0f [2] _) ?_;refine zq6 ⟨?_⟩;exact rta
   ·refine b3h ⟨?_⟩;refine b0m 3 ⟨?_⟩;refine zoc 6 (b3v ins hil hin) ⟨?_⟩;refine zoc 9 (b30 ws hwl hwn) ⟨?_⟩;refine b17 q3 true 10 13 ?_;refine b06 11 ⟨?_⟩;refine b0b (by kernel_rfl) ?_;refine k3 _ ?_;refine n2 _ _ (b0f [2] _) ?_;refine zq6 ⟨?_⟩;exact rta
  ·refine b3h ⟨?_⟩;refine b1j 0 ⟨?_⟩;refine b0m 3 ⟨?_⟩;refine zoc 6 (b3v ins hil hin) ⟨?_⟩;refine zoc 9 (b30 ws hwl hwn) ⟨?_⟩;refine b17 q3 true 10 13 ?_;refine b06 11 ⟨?_⟩;refine b0b (by kernel_rfl) ?_;refine k3 _ ?_;refine n2 _ _ (b0f [2] _) ?_;refine zq6 ⟨?_⟩;exact rta
theorem c4x (fl:List TA) (k:Nat) (x0:ByteArray) (x1:Int) (x2:Int) (x3:Int) (x4:Int) (hl:fl.length≤1048576) (hk:k < fl.length):Con Tryz.prog 87 [sQ rQa fl,.int .i64 k,.agg [V.str x0,V.int .i64 x1,V.int .i64 x2,V.int .i64 x3,V.int .i64 x4]] [] (.ref 0) [aQ rQa (fl.set k (x0,x1,x2,x3,x4))]:=by
 have hns:(fl.map rQa).all V.noSl=true:=by rw [List.all_map,qlf];intro a _;rfl
 obtain ⟨y,hy⟩:∃y,fl[k]? =some y:=⟨_,qla hk⟩;have hsm:(fl.map rQa).set k (V.agg [V.str x0,V.int .i64 x1,V.int .i64 x2,V.int .i64 x3,V.int .i64 x4])=(fl.set k (x0,x1,x2,x3,x4)).map rQa:=by have q:=qmn (f:=rQa) (l:=fl) (i:=k) (a:=(x0,x1,x2,x3,x4));exact q.symm
 refine zcn [.tmp 6] [] Tryz.func87 Tryz.ntmps87 ⟨?_⟩;intro Q0 n0 r0;have T:=tq4 Ty.t3 Ty.t9 Ty.t27 Ty.t53;have F:=Fc.mk True.intro;have F:=fq3 hns (gdm hy) hsm;refine yR [0,1,5] ⟨?_⟩;refine yR [1,5,7] ⟨?_⟩;refine yR [7] ⟨?_⟩;refine yR [6] ⟨?_⟩;refine zr ⟨?_⟩;exact b1t rfl rfl rfl
end Go.Proofs.YtmbbjhopngejaaaGreatDoor
