/- What functions compute. No condition. -/
import Derived.Test.YtmbbjhopngejaaaGreatDoorX14
import Derived.Test.YtmbbjhopngejaaaGreatDoorX13
set_option linter.unusedSimpArgs false
set_option linter.unusedVariables false
set_option linter.defProp false
namespace Go.Proofs.YtmbbjhopngejaaaGreatDoor
open Go Go.Vm
set_option maxHeartbeats 8000000
theorem d5t (n:Int) (ss:List TS) (fl:List TA) (hs:ss.length≤1048576) (hl:fl.length≤1048576) (hls:∀t∈fl,t.1.size≤9223372036854775807):Con Tryz.prog 22 [tQ n ss,sQ rQa fl] [] (.tup [.agg [.ref 0,.ref 1,.ref 2],.bool (b2o n ss fl [] [])]) [aQ rQa (b3j (b2o n ss fl [] []) fl),eQ,eQ]:=by
 refine zcn [.cell 4 31,.tmp 5] [] Tryz.func22 Tryz.ntmps22 ⟨?_⟩;intro Q0 n0 r0;have T:=Tys.mk (ai Ty.t3 (ai Ty.t4 (ai Ty.t9 (ai Ty.t24 (ai Ty.t26 (ai Ty.t27 (ai Ty.t28 (ai Ty.t29 (ai Ty.t31 (ai Ty.t32 (ai Ty.t35 (ai Ty.t53 (ai Ty.t55 (ai Ty.t77 (ai Ty.t91 Ty.t127)))))))))))))));have F:=Fc.mk True.intro;refine yR [1,2,4] ⟨?_⟩;refine b0e ?_;intros;refine d2w [1,4,12] (c0n n ss fl hs hl hls) (b2y fl _ _ b7u hl .nil (fun x0 x1 x2 x3 x4 _=>c4t x0 x1 x2 x3 x4)) ⟨?_⟩;refine b0a _ rfl ?_ ?_
 ·intro hc0;have hB:(b2o n ss fl [] [])=false:=by
   rw [f1v];cases h1:dsB n ss fl<;>cases h2:fl.any b7u<;>simp [h1,h2] at hc0⊢
  refine yR [4,5] ⟨?_⟩;refine zq1 ⟨?_⟩;rw [hB,b2s];exact rta
 ·intro hc0;have hB:(b2o n ss fl [] [])=true:=by
   rw [f1v];cases h1:dsB n ss fl<;>cases h2:fl.any b7u<;>simp [h1,h2] at hc0⊢
  refine zn [1,4] ⟨?_⟩;refine yRc [4,5] (b42 fl hl) ⟨?_⟩;refine zq1 ⟨?_⟩;rw [hB,b2r];exact rta
theorem d5v (n:Int) (ss:List TS) (fl:List TA) (hs:ss.length≤1048576) (hl:fl.length≤1048576) (hls:∀t∈fl,t.1.size≤9223372036854775807) (hB:(b2o n ss fl [] [])=true):Con Tryz.prog 68 [tQ n ss,.agg [.ref 0,.nsl,.nsl]] [aQ rQa fl] (.tup [.agg [.ref 0,.ref 1,.ref 2],.bool true]) [aQ rQa fl,eQ,eQ]:=by
 refine zcn [.cell 4 31,.tmp 5] [] Tryz.func68 Tryz.ntmps68 ⟨?_⟩;intro Q0 n0 r0;have T:=Tys.mk (ai Ty.t3 (ai Ty.t4 (ai Ty.t9 (ai Ty.t24 (ai Ty.t26 (ai Ty.t27 (ai Ty.t28 (ai Ty.t29 (ai Ty.t31 (ai Ty.t32 (ai Ty.t35 (ai Ty.t53 (ai Ty.t55 (ai Ty.t91 Ty.t127))))))))))))));have F:=Fc.mk True.intro;refine yR [2,3,4] ⟨?_⟩;refine b0e ?_;intros;refine yRc [3,4,9] (b4c n ss fl [] [] hs hl hls (by simp) (by simp) (by simp) (by simp) (by simp)) ⟨?_⟩;refine b18 _ rfl ?_ ?_
 ·intro hc0;exfalso;simp [hB] at hc0
 ·intro hc0;try simp only [zC,reduceCtorEq] at hc0
  refine zn [3,4] ⟨?_⟩;refine yR [4,5] ⟨?_⟩;refine zq1 ⟨?_⟩;exact rta
theorem d9l (n:Int) (ss:List TS) (fl:List TA) (hs:ss.length≤1048576) (hl:fl.length≤1048576) (hls:∀t∈fl,t.1.size≤9223372036854775807) (hB:(b2o n ss fl [] [])=false):Con Tryz.prog 68 [tQ n ss,.agg [.ref 0,.nsl,.nsl]] [aQ rQa fl] (.tup [.agg [.ref 1,.ref 2,.ref 3],.bool false]) [aQ rQa fl,eQ,eQ,eQ]:=by
 refine zcn [.cell 4 31,.tmp 5] [] Tryz.func68 Tryz.ntmps68 ⟨?_⟩;intro Q0 n0 r0;have T:=Tys.mk (ai Ty.t3 (ai Ty.t4 (ai Ty.t9 (ai Ty.t24 (ai Ty.t26 (ai Ty.t27 (ai Ty.t28 (ai Ty.t29 (ai Ty.t31 (ai Ty.t32 (ai Ty.t35 (ai Ty.t53 (ai Ty.t55 (ai Ty.t91 Ty.t127))))))))))))));have F:=Fc.mk True.intro;refine yR [2,3,4] ⟨?_⟩;refine b0e ?_;intros;refine yRc [3,4,9] (b4c n ss fl [] [] hs hl hls (by simp) (by simp) (by simp) (by simp) (by simp)) ⟨?_⟩;refine b18 _ rfl ?_ ?_
 ·intro hc0;try simp only [zC,reduceCtorEq] at hc0
  refine yR [4,5] ⟨?_⟩;refine zq1 ⟨?_⟩;exact rta
 ·intro hc0;exfalso;simp [hB] at hc0
theorem d60 (n:Int) (ss:List TS) (fl:List TA) (hs:ss.length≤1048576) (hl:fl.length≤1048576) (hls:∀t∈fl,t.1.size≤9223372036854775807):Con Tryz.prog 23 [tQ n ss,sQ rQa fl] [] (.tup [.agg [.ref 0,.ref 1,.ref 2],.bool (b2o n ss fl [] [])]) [aQ rQa (b3j (b2o n ss fl [] []) fl),eQ,eQ]:=by
 have hns:(fl.map rQa).all V.noSl=true:=by rw [List.all_map,qlf];intro a _;rfl
 refine zcn [.cell 4 31,.tmp 5] [(68,[1])] Tryz.func23 Tryz.ntmps23 ⟨?_⟩;intro Q0 n0 r0;have T:=Tys.mk (ai Ty.t3 (ai Ty.t4 (ai Ty.t9 (ai Ty.t24 (ai Ty.t26 (ai Ty.t27 (ai Ty.t28 (ai Ty.t29 (ai Ty.t31 (ai Ty.t32 (ai Ty.t35 (ai Ty.t53 (ai Ty.t55 (ai Ty.t91 Ty.t127))))))))))))));have F:=Fc.mk True.intro;rcases Bool.eq_false_or_eq_true (b2o n ss fl [] []) with hB | hB
 ·skip;have hif:=d5v n ss fl hs hl hls hB;have F:=Fc.mk hns;refine yR [1,2,4] ⟨?_⟩;refine b0e ?_;intro Q2 n2 e2 r2;refine b1f (by kernel_rfl) ?_;intro K3 q3 k3;show b1r _ _ _ _ 10 (Array.replicate 10 false) _;refine b0t q3 true 2 8 ?_;refine b09 0 1 rfl rfl (by kernel_rfl) ?_ ?_
  ·refine b3h ⟨?_⟩;refine b1j 1 ⟨?_⟩;refine b0m 3 ⟨?_⟩;refine b17 q3 true 4 10 ?_;refine zol 5 (hif) ⟨?_⟩;refine b2j q3 true 6 12 ?_;refine b2j q3 true 7 13 ?_;refine b06 8 ⟨?_⟩;refine b0p 9 ⟨?_⟩;refine b0b (by kernel_rfl) ?_;refine k3 _ ?_;refine n2 _ _ (b0f [4,5] _) ?_;refine zq6 ⟨?_⟩;rw [hB,b2r];exact rta
  ·refine b01 ⟨?_⟩;refine b09 0 3 rfl rfl (by kernel_rfl) ?_ ?_
   ·refine b3h ⟨?_⟩;refine b0m 3 ⟨?_⟩;refine b17 q3 true 4 10 ?_;refine zol 5 (hif) ⟨?_⟩;refine b2j q3 true 6 12 ?_;refine b2j q3 true 7 13 ?_;refine b06 8 ⟨?_⟩;refine b0p 9 ⟨?_⟩;refine b0b (by kernel_rfl) ?_;refine k3 _ ?_;refine n2 _ _ (b0f [4,5] _) ?_;refine zq6 ⟨?_⟩;rw [hB,b2r];exact rta
   ·refine b16 ⟨?_⟩;refine b1d q3 true 0 6 ?_;refine b17 q3 true 4 10 ?_;refine zol 5 (hif) ⟨?_⟩;refine b2j q3 true 6 12 ?_;refine b2j q3 true 7 13 ?_;refine b06 8 ⟨?_⟩;refine b0p 9 ⟨?_⟩;refine b0b (by kernel_rfl) ?_;refine k3 _ ?_;refine n2 _ _ (b0f [4,5] _) ?_;refine zq6 ⟨?_⟩;rw [hB,b2r];exact rta
 ·skip;have hif:=d9l n ss fl hs hl hls hB;have F:=Fc.mk hns;refine yR [1,2,4] ⟨?_⟩;refine b0e ?_;intro Q5 n5 e5 r5;refine b1f (by kernel_rfl) ?_;intro K6 q6 k6;show b1r _ _ _ _ 10 (Array.replicate 10 false) _;refine b0t q6 true 2 8 ?_;refine b09 0 1 rfl rfl (by kernel_rfl) ?_ ?_
  ·refine b3h ⟨?_⟩;refine b1j 1 ⟨?_⟩;refine b0m 3 ⟨?_⟩;refine b17 q6 true 4 10 ?_;refine zol 5 (hif) ⟨?_⟩;refine b2j q6 true 6 12 ?_;refine b2j q6 true 7 13 ?_;refine b06 8 ⟨?_⟩;refine b0p 9 ⟨?_⟩;refine b0b (by kernel_rfl) ?_;refine k6 _ ?_;refine n5 _ _ (b0f [4,5] _) ?_;refine zq6 ⟨?_⟩;rw [hB,b2s];exact rta
  ·refine b01 ⟨?_⟩;refine b09 0 3 rfl rfl (by kernel_rfl) ?_ ?_
   ·refine b3h ⟨?_⟩;refine b0m 3 ⟨?_⟩;refine b17 q6 true 4 10 ?_;refine zol 5 (hif) ⟨?_⟩;refine b2j q6 true 6 12 ?_;refine b2j q6 true 7 13 ?_;refine b06 8 ⟨?_⟩;refine b0p 9 ⟨?_⟩;refine b0b (by kernel_rfl) ?_;refine k6 _ ?_;refine n5 _ _ (b0f [4,5] _) ?_;refine zq6 ⟨?_⟩;rw [hB,b2s];exact rta
   ·refine b16 ⟨?_⟩;refine b1d q6 true 0 6 ?_;refine b17 q6 true 4 10 ?_;refine zol 5 (hif) ⟨?_⟩;refine b2j q6 true 6 12 ?_;refine b2j q6 true 7 13 ?_;refine b06 8 ⟨?_⟩;refine b0p 9 ⟨?_⟩;refine b0b (by kernel_rfl) ?_;refine k6 _ ?_;refine n5 _ _ (b0f [4,5] _) ?_;refine zq6 ⟨?_⟩;rw [hB,b2s];exact rta
set_option maxRecDepth 100000 in
theorem d30 (n:Int) (ss:List TS) (fl:List TA) (ins:List TI) (ws:List TW) (hs:ss.length≤1048576) (hl:fl.length≤1048576) (hls:∀t∈fl,t.1.size≤9223372036854775807) (hil:ins.length≤1048576) (hin:∀x∈ins,x.2.2.2.length≤1048576) (his:∀x∈ins,∀s∈x.2.2.2,s.size≤9223372036854775807) (hwl:ws.length≤1048576) (hwn:∀x∈ws,x.2.length≤1048576):Con Tryz.prog 28 [tQ n ss,kQ fl ins ws] [] (.tup [.ref 0,.bool (b2o n ss fl ins ws)]) [.arr ((b3j (b2o n ss fl ins ws) (b58 fl fl.length)).map V.str) .flat]:=by
 refine zcn [.tmp 4,.tmp 5] [] Tryz.func28 Tryz.ntmps28 ⟨?_⟩;intro Q0 n0 r0;have T:=Tys.mk (ai Ty.t3 (ai Ty.t4 (ai Ty.t9 (ai Ty.t24 (ai Ty.t26 (ai Ty.t27 (ai Ty.t28 (ai Ty.t29 (ai Ty.t31 (ai Ty.t32 (ai Ty.t35 (ai Ty.t53 (ai Ty.t55 (ai Ty.t77 (ai Ty.t79 (ai Ty.t91 Ty.t127))))))))))))))));have F:=Fc.mk True.intro;refine yR [2,3] ⟨?_⟩;refine b0e ?_;intros;refine d2w [3,14] (b4z n ss hs) (b4s n ss fl ins ws hs hl hls hil hin his hwl hwn) ⟨?_⟩;refine b0a _ rfl ?_ ?_
 ·intro hc0;have hB:(b2o n ss fl ins ws)=false:=by
   cases hq:(b2o n ss fl ins ws) with
   |false=>rfl
   |true=>(have ht:=b6f hq;simp [hq,ht] at hc0)
  refine yR [4,5] ⟨?_⟩;refine zr ⟨?_⟩;rw [hB,b2s];exact rta
 ·intro hc0;have hB:(b2o n ss fl ins ws)=true:=by
   cases hq:(b2o n ss fl ins ws) with
   |true=>rfl
   |false=>simp [hq] at hc0
  have hc:=b4f hB;refine zn [3] ⟨?_⟩;refine yR [3,6] ⟨?_⟩;refine b0e ?_;intros;refine yR [6,16,17,18] ⟨?_⟩;refine b0i ?_;intros;refine b08 (fun i=>⟨[(6,.ref 0),(16,sQ rQa fl),(17,.int .i64 fl.length),(18,.int .i64 (Nat.cast i))],[.arr ((b58 fl i).map V.str) .flat],false,31,0⟩) (fun i=>i≤fl.length) (fun i=>fl.length - i) 0 ?_ ?_ ?_
  ·refine b0d [6,16,17,18] [3] ⟨?_⟩;rfl
  ·exact qle _
  ·rintro i hok10 Q10 n10 e10 r10;have hi1:i≤fl.length:=hok10;refine yR [6,16,17,18,19] ⟨?_⟩;refine b0e ?_;intros;refine b0a _ rfl ?_ ?_
   ·intro hc1;have hlt:i < fl.length:=by omega
    obtain ⟨⟨x0,x1,x2,x3,x4⟩,hx⟩:∃x:TA,fl[i]? =some x:=⟨fl[i]'(by omega),qla (by omega)⟩;have hkx:=(hc.ds.hap _ (qlb hx)).1;simp only [] at hkx;have hfl:=d1c fl i;have h12:=hc.ds.hfl;refine zn [6,16,17,18] ⟨?_⟩;refine b0e ?_;intros;refine b0i ?_;intros;have F:=Fc.mk (gdm hx);refine yR [6,8,16,17,18] ⟨?_⟩;refine yRc [6,8,16,17,18,23] (c7z x0 x1 x2 x3 x4 hkx) ⟨?_⟩;refine b0a _ rfl ?_ ?_
    ·intro hc2;have hst:=d7h hx hc2;have hsn:(b58 fl i).map V.str++[V.str x0]=(b58 fl (i+1)).map V.str:=by rw [hst];simp only [aQ,fQ,List.map_append];try rfl
     refine yQ [6,16,17,18] ⟨?_⟩;refine yV ⟨?_⟩;refine n10 _ (i+1) ?_ ?_ ?_
     ·refine b0d [6,16,17,18] [3] ⟨?_⟩;rw [←hsn];rfl
     ·exact hlt
     ·show _ < _;omega
    ·intro hc2;have hst:=f1n hx hc2;refine zn [6,16,17,18] ⟨?_⟩;refine yV ⟨?_⟩;refine n10 _ (i+1) ?_ ?_ ?_
     ·refine b0d [6,16,17,18] [0] ⟨?_⟩;rw [hst];rfl
     ·exact hlt
     ·show _ < _;omega
   ·intro hc1;have hend:i=fl.length:=by omega
    subst hend;refine zn [6] ⟨?_⟩;refine yR [4,5] ⟨?_⟩;refine zr ⟨?_⟩;rw [hB,b2r];exact rta
set_option maxRecDepth 100000 in
theorem d3d (n:Int) (ss:List TS) (fl:List TA) (ins:List TI) (ws:List TW) (hs:ss.length≤1048576) (hl:fl.length≤1048576) (hls:∀t∈fl,t.1.size≤9223372036854775807) (hil:ins.length≤1048576) (hin:∀x∈ins,x.2.2.2.length≤1048576) (his:∀x∈ins,∀s∈x.2.2.2,s.size≤9223372036854775807) (hwl:ws.length≤1048576) (hwn:∀x∈ws,x.2.length≤1048576):Con Tryz.prog 29 [tQ n ss,kQ fl ins ws] [] (.tup [.ref 0,.bool (b2o n ss fl ins ws)]) [.arr ((b3j (b2o n ss fl ins ws) (b58 fl fl.length)).map V.str) .flat]:=by
 refine zcn [.tmp 4,.tmp 5] [] Tryz.func29 Tryz.ntmps29 ⟨?_⟩;intro Q0 n0 r0;have T:=Tys.mk (ai Ty.t3 (ai Ty.t4 (ai Ty.t9 (ai Ty.t24 (ai Ty.t26 (ai Ty.t27 (ai Ty.t28 (ai Ty.t29 (ai Ty.t31 (ai Ty.t32 (ai Ty.t35 (ai Ty.t53 (ai Ty.t55 (ai Ty.t91 Ty.t127))))))))))))));have F:=Fc.mk True.intro;refine yR [2,3] ⟨?_⟩;refine b0e ?_;intros;refine yRc [3,12] (b4c n ss fl ins ws hs hl hls hil hin his hwl hwn) ⟨?_⟩;refine b0a _ rfl ?_ ?_
 ·intro hc0;have hB:(b2o n ss fl ins ws)=false:=by
   cases hq:(b2o n ss fl ins ws) with
   |false=>rfl
   |true=>simp [hq] at hc0
  refine yR [4,5] ⟨?_⟩;refine zr ⟨?_⟩;rw [hB,b2s];exact rta
 ·intro hc0;have hB:(b2o n ss fl ins ws)=true:=by
   cases hq:(b2o n ss fl ins ws) with
   |true=>rfl
   |false=>simp [hq] at hc0
  have hc:=b4f hB;refine zn [3] ⟨?_⟩;refine yR [3,6] ⟨?_⟩;refine b0e ?_;intros;refine yR [6,14,15,16] ⟨?_⟩;refine b0i ?_;intros;refine b08 (fun i=>⟨[(6,.ref 0),(14,sQ rQa fl),(15,.int .i64 fl.length),(16,.int .i64 (Nat.cast i))],[.arr ((b58 fl i).map V.str) .flat],false,29,0⟩) (fun i=>i≤fl.length) (fun i=>fl.length - i) 0 ?_ ?_ ?_
  ·refine b0d [6,14,15,16] [3] ⟨?_⟩;rfl
  ·exact qle _
  ·rintro i hok10 Q10 n10 e10 r10;have hi1:i≤fl.length:=hok10;refine yR [6,14,15,16,17] ⟨?_⟩;refine b0e ?_;intros;refine b0a _ rfl ?_ ?_
   ·intro hc1;have hlt:i < fl.length:=by omega
    obtain ⟨⟨x0,x1,x2,x3,x4⟩,hx⟩:∃x:TA,fl[i]? =some x:=⟨fl[i]'(by omega),qla (by omega)⟩;have hkx:=(hc.ds.hap _ (qlb hx)).1;simp only [] at hkx;have hfl:=d1c fl i;have h12:=hc.ds.hfl;refine zn [6,14,15,16] ⟨?_⟩;refine b0e ?_;intros;refine b0i ?_;intros;have F:=Fc.mk (gdm hx);refine yR [6,8,14,15,16] ⟨?_⟩;refine yRc [6,8,14,15,16,21] (c8o x0 x1 x2 x3 x4 hkx) ⟨?_⟩;refine b0a _ rfl ?_ ?_
    ·intro hc2;have hst:=d7h hx hc2;have hsn:(b58 fl i).map V.str++[V.str x0]=(b58 fl (i+1)).map V.str:=by rw [hst];simp only [aQ,fQ,List.map_append];try rfl
     refine yQ [6,14,15,16] ⟨?_⟩;refine yV ⟨?_⟩;refine n10 _ (i+1) ?_ ?_ ?_
     ·refine b0d [6,14,15,16] [3] ⟨?_⟩;rw [←hsn];rfl
     ·exact hlt
     ·show _ < _;omega
    ·intro hc2;have hst:=f1n hx hc2;refine zn [6,14,15,16] ⟨?_⟩;refine yV ⟨?_⟩;refine n10 _ (i+1) ?_ ?_ ?_
     ·refine b0d [6,14,15,16] [0] ⟨?_⟩;rw [hst];rfl
     ·exact hlt
     ·show _ < _;omega
   ·intro hc1;have hend:i=fl.length:=by omega
    subst hend;refine zn [6] ⟨?_⟩;refine yR [4,5] ⟨?_⟩;refine zr ⟨?_⟩;rw [hB,b2r];exact rta
set_option maxRecDepth 100000 in
theorem d2l (n:Int) (ss:List TS) (fl:List TA) (ins:List TI) (ws:List TW) (hs:ss.length≤1048576) (hl:fl.length≤1048576) (hls:∀t∈fl,t.1.size≤9223372036854775807) (hil:ins.length≤1048576) (hin:∀x∈ins,x.2.2.2.length≤1048576) (his:∀x∈ins,∀s∈x.2.2.2,s.size≤9223372036854775807) (hwl:ws.length≤1048576) (hwn:∀x∈ws,x.2.length≤1048576):Con Tryz.prog 30 [tQ n ss,kQ fl ins ws] [] (.tup [.ref 0,.bool (b2o n ss fl ins ws)]) [.arr ((b3j (b2o n ss fl ins ws) (b7l ws ws.length)).map (V.int .i64)) .flat]:=by
 refine zcn [.tmp 4,.tmp 5] [] Tryz.func30 Tryz.ntmps30 ⟨?_⟩;intro Q0 n0 r0;have T:=Tys.mk (ai Ty.t3 (ai Ty.t4 (ai Ty.t9 (ai Ty.t24 (ai Ty.t26 (ai Ty.t27 (ai Ty.t28 (ai Ty.t29 (ai Ty.t31 (ai Ty.t32 (ai Ty.t35 (ai Ty.t53 (ai Ty.t55 (ai Ty.t77 (ai Ty.t79 (ai Ty.t91 Ty.t127))))))))))))))));have F:=Fc.mk True.intro;refine yR [2,3] ⟨?_⟩;refine b0e ?_;intros;refine d2w [3,16] (b4z n ss hs) (b4s n ss fl ins ws hs hl hls hil hin his hwl hwn) ⟨?_⟩;refine b0a _ rfl ?_ ?_
 ·intro hc0;have hB:(b2o n ss fl ins ws)=false:=by
   cases hq:(b2o n ss fl ins ws) with
   |false=>rfl
   |true=>(have ht:=b6f hq;simp [hq,ht] at hc0)
  refine yR [4,5] ⟨?_⟩;refine zr ⟨?_⟩;rw [hB,b2s];exact rta
 ·intro hc0;have hB:(b2o n ss fl ins ws)=true:=by
   cases hq:(b2o n ss fl ins ws) with
   |true=>rfl
   |false=>simp [hq] at hc0
  have hc:=b4f hB;have hwd:=c84 hc;refine zn [3] ⟨?_⟩;refine yR [3,6] ⟨?_⟩;refine b0e ?_;intros;refine yR [6,19,20,21] ⟨?_⟩;refine b0i ?_;intros;refine b08 (fun i=>⟨[(6,.ref 0),(19,sQ rQc ws),(20,.int .i64 ws.length),(21,.int .i64 (Nat.cast i))],[.arr ((b7l ws i).map (V.int .i64)) .flat],false,43,0⟩) (fun i=>i≤ws.length) (fun i=>ws.length - i) 0 ?_ ?_ ?_
  ·refine b0d [6,19,20,21] [3] ⟨?_⟩;rfl
  ·exact qle _
  ·rintro i hok10 Q10 n10 e10 r10;have hi1:i≤ws.length:=hok10;refine yR [6,19,20,21,22] ⟨?_⟩;refine b0e ?_;intros;refine b0a _ rfl ?_ ?_
   ·intro hc1;have hlt:i < ws.length:=by omega
    obtain ⟨⟨x0,x1⟩,hx⟩:∃x:TW,ws[i]? =some x:=⟨ws[i]'(by omega),qla (by omega)⟩;have hw4:=hwd _ (qlb hx);simp only [] at hw4;have h8:=hc.ws8;have hst:=c1p hx;simp only [] at hst;have hsl:=c05 ws i;refine zn [6,19,20,21] ⟨?_⟩;refine b0e ?_;intros;refine b0i ?_;intros;have F:=Fc.mk (gdm hx);refine yR [6,8,19,20,21] ⟨?_⟩;refine yR [6,19,20,21,26,27,28] ⟨?_⟩;refine b0i ?_;intros;refine b08 (fun j=>⟨[(6,.ref 0),(19,sQ rQc ws),(20,.int .i64 ws.length),(21,.int .i64 (Nat.cast i)),(26,.sl (x1.map (V.int .i64))),(27,.int .i64 x1.length),(28,.int .i64 (Nat.cast j))],[.arr ((c72 (b7l ws i) (x1.take j)).map (V.int .i64)) .flat],false,43,0⟩) (fun j=>j≤4) (fun j=>4 - j) 0 ?_ ?_ ?_
    ·refine b0d [6,19,20,21,26,27,28] [0] ⟨?_⟩;rw [qml,d14];rfl
    ·exact qle _
    ·rintro j hok19 Q19 n19 e19 r19;have hj1:j≤4:=hok19;refine yR [6,19,20,21,26,27,28,29] ⟨?_⟩;refine b0e ?_;intros;refine b0a _ rfl ?_ ?_
     ·intro hc2;have hlj:j < 4:=by omega
      obtain ⟨z,hz⟩:∃z,x1[j]? =some z:=⟨_,qla (by omega)⟩;obtain ⟨v,hv⟩:∃v,(b7l ws i)[j]? =some v:=⟨_,qla (by omega)⟩;have hvb:=c0c hwd i v (qlb hv);have hzb:=hw4.2 z (qlb hz);obtain ⟨ha1,ha2⟩:=c7q hv hz;have hal:(c72 (b7l ws i) (x1.take j)).length=4:=by rw [c6w];exact hsl
      have hsm:((c72 (b7l ws i) (x1.take j)).map (V.int .i64)).set j (V.int .i64 (v+z))=(c72 (b7l ws i) (x1.take (j+1))).map (V.int .i64):=by rw [←ha2,qmn]
      refine zn [6,19,20,21,26,27,28] ⟨?_⟩;refine b0e ?_;intros;refine b0i ?_;intros;have F:=fq5 (gdm hx) (gdm hz) (gdm ha1) hal hsm;refine yR [6,9,10,19,20,21,26,27,28] ⟨?_⟩;refine yQ [6,19,20,21,26,27,28] ⟨?_⟩;refine yV ⟨?_⟩;refine n19 _ (j+1) ?_ ?_ ?_
      ·refine b0d [6,19,20,21,26,27,28] [0] ⟨?_⟩;rfl
      ·exact hlj
      ·show _ < _;omega
     ·intro hc2;have hej:j=4:=by omega
      refine zn [6,19,20,21] ⟨?_⟩;refine yV ⟨?_⟩;refine n10 _ (i+1) ?_ ?_ ?_
      ·refine b0d [6,19,20,21] [0] ⟨?_⟩;rw [hst,hej,qlx (by omega)];rfl
      ·exact hlt
      ·show _ < _;omega
   ·intro hc1;have hend:i=ws.length:=by omega
    subst hend;refine zn [6] ⟨?_⟩;refine yR [4,5] ⟨?_⟩;refine zr ⟨?_⟩;rw [hB,b2r];exact rta
set_option maxRecDepth 100000 in
theorem d1k (n:Int) (ss:List TS) (fl:List TA) (ins:List TI) (ws:List TW) (hs:ss.length≤1048576) (hl:fl.length≤1048576) (hls:∀t∈fl,t.1.size≤9223372036854775807) (hil:ins.length≤1048576) (hin:∀x∈ins,x.2.2.2.length≤1048576) (his:∀x∈ins,∀s∈x.2.2.2,s.size≤9223372036854775807) (hwl:ws.length≤1048576) (hwn:∀x∈ws,x.2.length≤1048576):Con Tryz.prog 31 [tQ n ss,kQ fl ins ws] [] (.tup [.ref 0,.bool (b2o n ss fl ins ws)]) [.arr ((b3j (b2o n ss fl ins ws) (b7l ws ws.length)).map (V.int .i64)) .flat]:=by
 refine zcn [.tmp 4,.tmp 5] [] Tryz.func31 Tryz.ntmps31 ⟨?_⟩;intro Q0 n0 r0;have T:=Tys.mk (ai Ty.t3 (ai Ty.t4 (ai Ty.t9 (ai Ty.t24 (ai Ty.t26 (ai Ty.t27 (ai Ty.t28 (ai Ty.t29 (ai Ty.t31 (ai Ty.t32 (ai Ty.t35 (ai Ty.t53 (ai Ty.t55 (ai Ty.t91 Ty.t127))))))))))))));have F:=Fc.mk True.intro;refine yR [2,3] ⟨?_⟩;refine b0e ?_;intros;refine yRc [3,14] (b4c n ss fl ins ws hs hl hls hil hin his hwl hwn) ⟨?_⟩;refine b0a _ rfl ?_ ?_
 ·intro hc0;have hB:(b2o n ss fl ins ws)=false:=by
   cases hq:(b2o n ss fl ins ws) with
   |false=>rfl
   |true=>simp [hq] at hc0
  refine yR [4,5] ⟨?_⟩;refine zr ⟨?_⟩;rw [hB,b2s];exact rta
 ·intro hc0;have hB:(b2o n ss fl ins ws)=true:=by
   cases hq:(b2o n ss fl ins ws) with
   |true=>rfl
   |false=>simp [hq] at hc0
  have hc:=b4f hB;have hwd:=c84 hc;refine zn [3] ⟨?_⟩;refine yR [3,6] ⟨?_⟩;refine b0e ?_;intros;refine yR [6,17,18,19] ⟨?_⟩;refine b0i ?_;intros;refine b08 (fun i=>⟨[(6,.ref 0),(17,sQ rQc ws),(18,.int .i64 ws.length),(19,.int .i64 (Nat.cast i))],[.arr ((b7l ws i).map (V.int .i64)) .flat],false,41,0⟩) (fun i=>i≤ws.length) (fun i=>ws.length - i) 0 ?_ ?_ ?_
  ·refine b0d [6,17,18,19] [3] ⟨?_⟩;rfl
  ·exact qle _
  ·rintro i hok10 Q10 n10 e10 r10;have hi1:i≤ws.length:=hok10;refine yR [6,17,18,19,20] ⟨?_⟩;refine b0e ?_;intros;refine b0a _ rfl ?_ ?_
   ·intro hc1;have hlt:i < ws.length:=by omega
    obtain ⟨⟨x0,x1⟩,hx⟩:∃x:TW,ws[i]? =some x:=⟨ws[i]'(by omega),qla (by omega)⟩;have hw4:=hwd _ (qlb hx);simp only [] at hw4;have h8:=hc.ws8;have hst:=c1p hx;simp only [] at hst;have hsl:=c05 ws i;refine zn [6,17,18,19] ⟨?_⟩;refine b0e ?_;intros;refine b0i ?_;intros;have F:=Fc.mk (gdm hx);refine yR [6,8,17,18,19] ⟨?_⟩;refine yR [6,17,18,19,24,25,26] ⟨?_⟩;refine b0i ?_;intros;refine b08 (fun j=>⟨[(6,.ref 0),(17,sQ rQc ws),(18,.int .i64 ws.length),(19,.int .i64 (Nat.cast i)),(24,.sl (x1.map (V.int .i64))),(25,.int .i64 x1.length),(26,.int .i64 (Nat.cast j))],[.arr ((c72 (b7l ws i) (x1.take j)).map (V.int .i64)) .flat],false,41,0⟩) (fun j=>j≤4) (fun j=>4 - j) 0 ?_ ?_ ?_
    ·refine b0d [6,17,18,19,24,25,26] [0] ⟨?_⟩;rw [qml,d14];rfl
    ·exact qle _
    ·rintro j hok19 Q19 n19 e19 r19;have hj1:j≤4:=hok19;refine yR [6,17,18,19,24,25,26,27] ⟨?_⟩;refine b0e ?_;intros;refine b0a _ rfl ?_ ?_
     ·intro hc2;have hlj:j < 4:=by omega
      obtain ⟨z,hz⟩:∃z,x1[j]? =some z:=⟨_,qla (by omega)⟩;obtain ⟨v,hv⟩:∃v,(b7l ws i)[j]? =some v:=⟨_,qla (by omega)⟩;have hvb:=c0c hwd i v (qlb hv);have hzb:=hw4.2 z (qlb hz);obtain ⟨ha1,ha2⟩:=c7q hv hz;have hal:(c72 (b7l ws i) (x1.take j)).length=4:=by rw [c6w];exact hsl
      have hsm:((c72 (b7l ws i) (x1.take j)).map (V.int .i64)).set j (V.int .i64 (v+z))=(c72 (b7l ws i) (x1.take (j+1))).map (V.int .i64):=by rw [←ha2,qmn]
      refine zn [6,17,18,19,24,25,26] ⟨?_⟩;refine b0e ?_;intros;refine b0i ?_;intros;have F:=fq5 (gdm hx) (gdm hz) (gdm ha1) hal hsm;refine yR [6,9,10,17,18,19,24,25,26] ⟨?_⟩;refine yQ [6,17,18,19,24,25,26] ⟨?_⟩;refine yV ⟨?_⟩;refine n19 _ (j+1) ?_ ?_ ?_
      ·refine b0d [6,17,18,19,24,25,26] [0] ⟨?_⟩;rfl
      ·exact hlj
      ·show _ < _;omega
     ·intro hc2;have hej:j=4:=by omega
      refine zn [6,17,18,19] ⟨?_⟩;refine yV ⟨?_⟩;refine n10 _ (i+1) ?_ ?_ ?_
      ·refine b0d [6,17,18,19] [0] ⟨?_⟩;rw [hst,hej,qlx (by omega)];rfl
      ·exact hlt
      ·show _ < _;omega
   ·intro hc1;have hend:i=ws.length:=by omega
    subst hend;refine zn [6] ⟨?_⟩;refine yR [4,5] ⟨?_⟩;refine zr ⟨?_⟩;rw [hB,b2r];exact rta
end Go.Proofs.YtmbbjhopngejaaaGreatDoor
