/- What functions compute. No condition. -/
import Derived.Test.YtmbbjhopngejaaaGreatDoorX15
import Derived.Test.YtmbbjhopngejaaaGreatDoorX13
import Derived.Test.YtmbbjhopngejaaaGreatDoorShelf
set_option linter.unusedSimpArgs false
set_option linter.unusedVariables false
set_option linter.defProp false
namespace Go.Proofs.YtmbbjhopngejaaaGreatDoor
open Go Go.Vm
set_option maxHeartbeats 8000000
theorem b41:b2h 0=.flat:=rfl
def d2n (n:Int) (ss:List TS) (fl:List TA) (ins:List TI) (ws:List TW) (s:ByteArray):Bool:=b2o n ss fl ins ws && b9t fl s
set_option maxRecDepth 100000 in
theorem c59 (n:Int) (ss:List TS) (fl:List TA) (ins:List TI) (ws:List TW) (s:ByteArray) (hl:fl.length≤1048576) (hil:ins.length≤1048576) (hin:∀x∈ins,x.2.2.2.length≤1048576) (hwl:ws.length≤1048576) (hwn:∀x∈ws,x.2.length≤1048576) (hB:(b2o n ss fl ins ws)=true):Con Tryz.prog 42 [.pv [kQ fl ins ws] 0 0,.str s] [] (.tup [.agg [.ref 0,.ref 1,.ref 2],.bool (b9t fl s)]) [aQ rQa (b3j (b9t fl s) (d5e fl ins s)),fQ rQb (b3j (b9t fl s) ins),fQ rQc (b3j (b9t fl s) ws)]:=by
 refine zcn [.cell 4 31,.tmp 5] [] Tryz.func42 Tryz.ntmps42 ⟨?_⟩;intro Q0 n0 r0;have T:=Tys.mk (ai Ty.t3 (ai Ty.t4 (ai Ty.t9 (ai Ty.t27 (ai Ty.t28 (ai Ty.t29 (ai Ty.t31 (ai Ty.t32 (ai Ty.t35 (ai Ty.t53 (ai Ty.t55 (ai Ty.t79 Ty.t91))))))))))));have F:=Fc.mk True.intro;rcases b8h fl s with hf | ⟨k,⟨a0,a1,a2,a3,a4⟩,ha3,ha1,ha2⟩
 ·skip;have hneg:decide (b3o fl s < (0:Int))=true:=by rw [hf];rfl
  have hA:(b9t fl s)=false:=by rw [b9t,decide_eq_false (by omega)];rfl
  have F:=Fc.mk hneg;refine yR [0,1,4] ⟨?_⟩;refine yRc [0,1,4,6] (b3y fl s hl) ⟨?_⟩;refine b0e ?_;intros;refine yR [0,1,4,6,26] ⟨?_⟩;refine b18 _ rfl ?_ ?_
  ·intro hc0;try simp only [zC,reduceCtorEq] at hc0
   have hA:(b9t fl s)=false:=by
    first
    |exact hA
    |(cases hq:(b9t fl s) with
     |false=>rfl
     |true=>(exfalso;rw [b9t,hsa] at hq;simp at hq hc0;exact hc0 hq.2))
   refine yR [4,5] ⟨?_⟩;refine zq1 ⟨?_⟩;simp only [aQ,fQ,hA,b2s,List.map_nil,List.length_nil,b41];exact rta
  ·intro hc0;exfalso;simp at hc0
 ·skip;have hc:=b4f hB;simp only [] at ha2;have hsa:=c98 ha3 ha1;simp only [] at hsa;have hkl:k < fl.length:=(qlc.1 ha1).1;have hk0:decide ((k:Int) < (0:Int))=false:=decide_eq_false (by omega);have F:=fq4 ha3 @qli hk0 (gdm ha1);refine yR [0,1,4] ⟨?_⟩;refine yRc [0,1,4,6] (b3y fl s hl) ⟨?_⟩;refine b0e ?_;intros;refine yR [0,1,4,6,26] ⟨?_⟩;refine b0a _ rfl ?_ ?_
  ·intro hc0;have hA:(b9t fl s)=false:=by
    first
    |exact hA
    |(cases hq:(b9t fl s) with
     |false=>rfl
     |true=>(exfalso;rw [b9t,hsa] at hq;simp at hq hc0;exact hc0 hq.2))
   refine yR [4,5] ⟨?_⟩;refine zq1 ⟨?_⟩;simp only [aQ,fQ,hA,b2s,List.map_nil,List.length_nil,b41];exact rta
  ·intro hc0;have hst2:a4=2:=by simpa using hc0
   have hcm:=d8a hc ha1 ha2 hst2;obtain ⟨m,⟨x0,x1,x2,x3⟩,hm1,_,hm3⟩:=b64 hcm;have hml:m < ins.length:=(qlc.1 hm1).1;have hA:(b9t fl s)=true:=by rw [b9t,hsa,hst2,ha3,decide_eq_true (show (0:Int)≤(k:Int) by omega)];rfl
   have hAF:=d17 ha3 ha1 hm3 hm1;simp only [] at hAF;have hsm1:(fl.map rQa).set k (V.agg [V.str a0,V.int .i64 a1,V.int .i64 a2,V.int .i64 a3,V.int .i64 3])=(fl.set k (a0,a1,a2,a3,3)).map rQa:=by have q:=qmn (f:=rQa) (l:=fl) (i:=k) (a:=(a0,a1,a2,a3,3));exact q.symm
   have hg1:(fl.set k (a0,a1,a2,a3,3))[k]? =some (a0,a1,a2,a3,3):=qlo hkl;have hl1:(fl.set k (a0,a1,a2,a3,3)).length=fl.length:=qlp;have hsm2:((fl.set k (a0,a1,a2,a3,3)).map rQa).set k (V.agg [V.str a0,V.int .i64 a1,V.int .i64 x1,V.int .i64 a3,V.int .i64 3])=(fl.set k (a0,a1,x1,a3,3)).map rQa:=by have q:=qmn (f:=rQa) (l:=fl.set k (a0,a1,a2,a3,3)) (i:=k) (a:=(a0,a1,x1,a3,3));rw [List.set_set] at q;exact q.symm
   refine zn [0,1,4,6] ⟨?_⟩;have F:=f8h ha3 @qli hk0 (gdm ha1) hm3 (gdm hm1) hsm1 (gdm hg1) hl1 hsm2;refine yRc [0,1,4,6,7] (b8f fl ins ws hl hil hin hwl hwn) ⟨?_⟩;refine yR [0,1,4,6,7] ⟨?_⟩;refine b0e ?_;intro Q15 n15 e15 r15;refine b1f (by kernel_rfl) ?_;intro K16 q16 k16;show b1r _ _ _ _ 19 (Array.replicate 19 false) _;refine b0h q16 true 0 35 ?_;refine b1i q16 true 1 36 ?_;refine b0t q16 true 2 37 ?_;refine b0t q16 true 3 38 ?_;refine b3f q16 true 4 39 ?_;refine b0h q16 true 5 40 ?_;refine b1i q16 true 6 41 ?_;refine b0t q16 true 7 42 ?_;refine b3f q16 true 8 43 ?_;refine b0h q16 true 9 44 ?_;refine b1i q16 true 10 45 ?_;refine b0t q16 true 11 46 ?_;refine zoc 12 (b37 ins s hil hin) ⟨?_⟩;refine b1z q16 true 13 48 ?_;refine b0h q16 true 14 49 ?_;refine b1i q16 true 15 50 ?_;refine b1z q16 true 16 51 ?_;refine b0h q16 true 17 52 ?_;refine b06 18 ⟨?_⟩;refine b0b (by kernel_rfl) ?_;refine k16 _ ?_;refine n15 _ _ (b0f [4,7] _) ?_;refine zk ⟨?_⟩;refine yR [4,5] ⟨?_⟩;refine zq1 ⟨?_⟩;simp only [hA,b2r];rw [hAF];exact rta
set_option maxRecDepth 100000 in
theorem c5n (n:Int) (ss:List TS) (fl:List TA) (ins:List TI) (ws:List TW) (s:ByteArray) (hl:fl.length≤1048576) (hil:ins.length≤1048576) (hin:∀x∈ins,x.2.2.2.length≤1048576) (hwl:ws.length≤1048576) (hwn:∀x∈ws,x.2.length≤1048576) (hB:(b2o n ss fl ins ws)=true):Con Tryz.prog 58 [kQ fl ins ws,.str s] [] (.tup [.agg [.ref 0,.ref 1,.ref 2],.bool (b9t fl s)]) [aQ rQa (b3j (b9t fl s) (d5e fl ins s)),fQ rQb (b3j (b9t fl s) ins),fQ rQc (b3j (b9t fl s) ws)]:=by
 refine zcn [.cell 4 31,.tmp 5] [] Tryz.func58 Tryz.ntmps58 ⟨?_⟩;intro Q0 n0 r0;have T:=f72 Ty.t3 Ty.t4 Ty.t9 Ty.t27 Ty.t28 Ty.t29 Ty.t31 Ty.t32 Ty.t35 Ty.t53 Ty.t55 Ty.t91;have F:=Fc.mk True.intro;rcases b8h fl s with hf | ⟨k,⟨a0,a1,a2,a3,a4⟩,ha3,ha1,ha2⟩
 ·skip;have hneg:decide (b3o fl s < (0:Int))=true:=by rw [hf];rfl
  have hA:(b9t fl s)=false:=by rw [b9t,decide_eq_false (by omega)];rfl
  have F:=Fc.mk hneg;refine yR [1,2,4] ⟨?_⟩;refine yRc [1,2,4,6] (b5e fl s hl) ⟨?_⟩;refine b0e ?_;intros;refine yR [1,2,4,6,23] ⟨?_⟩;refine b18 _ rfl ?_ ?_
  ·intro hc0;try simp only [zC,reduceCtorEq] at hc0
   have hA:(b9t fl s)=false:=by
    first
    |exact hA
    |(cases hq:(b9t fl s) with
     |false=>rfl
     |true=>(exfalso;rw [b9t,hsa] at hq;simp at hq hc0;exact hc0 hq.2))
   refine yR [4,5] ⟨?_⟩;refine zq1 ⟨?_⟩;simp only [aQ,fQ,hA,b2s,List.map_nil,List.length_nil,b41];exact rta
  ·intro hc0;exfalso;simp at hc0
 ·skip;have hc:=b4f hB;simp only [] at ha2;have hsa:=c98 ha3 ha1;simp only [] at hsa;have hkl:k < fl.length:=(qlc.1 ha1).1;have hk0:decide ((k:Int) < (0:Int))=false:=decide_eq_false (by omega);have F:=fq4 ha3 @qli hk0 (gdm ha1);refine yR [1,2,4] ⟨?_⟩;refine yRc [1,2,4,6] (b5e fl s hl) ⟨?_⟩;refine b0e ?_;intros;refine yR [1,2,4,6,23] ⟨?_⟩;refine b0a _ rfl ?_ ?_
  ·intro hc0;have hA:(b9t fl s)=false:=by
    first
    |exact hA
    |(cases hq:(b9t fl s) with
     |false=>rfl
     |true=>(exfalso;rw [b9t,hsa] at hq;simp at hq hc0;exact hc0 hq.2))
   refine yR [4,5] ⟨?_⟩;refine zq1 ⟨?_⟩;simp only [aQ,fQ,hA,b2s,List.map_nil,List.length_nil,b41];exact rta
  ·intro hc0;have hst2:a4=2:=by simpa using hc0
   have hcm:=d8a hc ha1 ha2 hst2;obtain ⟨m,⟨x0,x1,x2,x3⟩,hm1,_,hm3⟩:=b64 hcm;have hml:m < ins.length:=(qlc.1 hm1).1;have hA:(b9t fl s)=true:=by rw [b9t,hsa,hst2,ha3,decide_eq_true (show (0:Int)≤(k:Int) by omega)];rfl
   have hAF:=d17 ha3 ha1 hm3 hm1;simp only [] at hAF;have hsm1:(fl.map rQa).set k (V.agg [V.str a0,V.int .i64 a1,V.int .i64 a2,V.int .i64 a3,V.int .i64 3])=(fl.set k (a0,a1,a2,a3,3)).map rQa:=by have q:=qmn (f:=rQa) (l:=fl) (i:=k) (a:=(a0,a1,a2,a3,3));exact q.symm
   have hg1:(fl.set k (a0,a1,a2,a3,3))[k]? =some (a0,a1,a2,a3,3):=qlo hkl;have hl1:(fl.set k (a0,a1,a2,a3,3)).length=fl.length:=qlp;have hsm2:((fl.set k (a0,a1,a2,a3,3)).map rQa).set k (V.agg [V.str a0,V.int .i64 a1,V.int .i64 x1,V.int .i64 a3,V.int .i64 3])=(fl.set k (a0,a1,x1,a3,3)).map rQa:=by have q:=qmn (f:=rQa) (l:=fl.set k (a0,a1,a2,a3,3)) (i:=k) (a:=(a0,a1,x1,a3,3));rw [List.set_set] at q;exact q.symm
   refine zn [1,2,4,6] ⟨?_⟩;have F:=f8h ha3 @qli hk0 (gdm ha1) hm3 (gdm hm1) hsm1 (gdm hg1) hl1 hsm2;refine yRc [1,2,4,6,7] (c1a fl ins ws hl hil hin hwl hwn) ⟨?_⟩;refine yR [1,2,4,6,7,8] ⟨?_⟩;refine yR [1,2,4,6,7,8] ⟨?_⟩;refine b0e ?_;intro Q16 n16 e16 r16;refine b1f (by kernel_rfl) ?_;intro K17 q17 k17;show b1r _ _ _ _ 11 (Array.replicate 11 false) _;refine b0h q17 true 0 33 ?_;refine b1i q17 true 1 34 ?_;refine b0h q17 true 2 35 ?_;refine b1i q17 true 3 36 ?_;refine b0t q17 true 4 37 ?_;refine zoc 5 (c34 ins s hil hin) ⟨?_⟩;refine b1z q17 true 6 39 ?_;refine b0h q17 true 7 40 ?_;refine b1i q17 true 8 41 ?_;refine b0h q17 true 9 42 ?_;refine b06 10 ⟨?_⟩;refine b0b (by kernel_rfl) ?_;refine k17 _ ?_;refine n16 _ _ (b0f [2,4,6,7,8] _) ?_;refine zk ⟨?_⟩;refine yRc [4,7] (c4x fl k a0 a1 x1 a3 3 hl hkl) ⟨?_⟩;refine yR [4,5] ⟨?_⟩;refine zq1 ⟨?_⟩;simp only [hA,b2r];rw [hAF];exact rta
set_option maxRecDepth 100000 in
theorem c9r (n:Int) (ss:List TS) (fl:List TA) (ins:List TI) (ws:List TW) (s:ByteArray) (hs:ss.length≤1048576) (hl:fl.length≤1048576) (hls:∀t∈fl,t.1.size≤9223372036854775807) (hil:ins.length≤1048576) (hin:∀x∈ins,x.2.2.2.length≤1048576) (his:∀x∈ins,∀s∈x.2.2.2,s.size≤9223372036854775807) (hwl:ws.length≤1048576) (hwn:∀x∈ws,x.2.length≤1048576):Con Tryz.prog 17 [tQ n ss,kQ fl ins ws,.str s] [] (.tup [.agg [.ref 0,.ref 1,.ref 2],.bool (d2n n ss fl ins ws s)]) [aQ rQa (b3j (d2n n ss fl ins ws s) (d5e fl ins s)),fQ rQb (b3j (d2n n ss fl ins ws s) ins),fQ rQc (b3j (d2n n ss fl ins ws s) ws)]:=by
 refine zcn [.cell 6 31,.tmp 7] [] Tryz.func17 Tryz.ntmps17 ⟨?_⟩;intro Q0 n0 r0;have T:=Tys.mk (ai Ty.t3 (ai Ty.t4 (ai Ty.t9 (ai Ty.t24 (ai Ty.t26 (ai Ty.t27 (ai Ty.t28 (ai Ty.t29 (ai Ty.t31 (ai Ty.t32 (ai Ty.t35 (ai Ty.t53 (ai Ty.t55 (ai Ty.t77 (ai Ty.t79 (ai Ty.t91 Ty.t127))))))))))))))));have F:=Fc.mk True.intro;refine yR [2,3,4,6] ⟨?_⟩;refine b0e ?_;intros;refine d2w [2,4,6,13] (b4z n ss hs) (b4s n ss fl ins ws hs hl hls hil hin his hwl hwn) ⟨?_⟩;refine b0a _ rfl ?_ ?_
 ·intro hc0;have hB:(b2o n ss fl ins ws)=false:=by
   cases hq:(b2o n ss fl ins ws) with
   |false=>rfl
   |true=>(have ht:=b6f hq;simp [hq,ht] at hc0)
  have hV:(d2n n ss fl ins ws s)=false:=by rw [d2n,hB];rfl
  refine yR [6,7] ⟨?_⟩;refine zq1 ⟨?_⟩;simp only [aQ,fQ,hV,b2s,List.map_nil,List.length_nil,b41];exact rta
 ·intro hc0;have hB:(b2o n ss fl ins ws)=true:=by
   cases hq:(b2o n ss fl ins ws) with
   |true=>rfl
   |false=>simp [hq] at hc0
  have hc:=b4f hB;have hV:(d2n n ss fl ins ws s)=(b9t fl s):=by rw [d2n,hB];rfl
  refine zn [2,4,6] ⟨?_⟩;refine yRc [6,7] (c59 n ss fl ins ws s hl hil hin hwl hwn hB) ⟨?_⟩;refine zq1 ⟨?_⟩;rw [hV];exact rta
set_option maxRecDepth 100000 in
theorem c9j (n:Int) (ss:List TS) (fl:List TA) (ins:List TI) (ws:List TW) (s:ByteArray) (hs:ss.length≤1048576) (hl:fl.length≤1048576) (hls:∀t∈fl,t.1.size≤9223372036854775807) (hil:ins.length≤1048576) (hin:∀x∈ins,x.2.2.2.length≤1048576) (his:∀x∈ins,∀s∈x.2.2.2,s.size≤9223372036854775807) (hwl:ws.length≤1048576) (hwn:∀x∈ws,x.2.length≤1048576):Con Tryz.prog 18 [tQ n ss,kQ fl ins ws,.str s] [] (.tup [.agg [.ref 0,.ref 1,.ref 2],.bool (d2n n ss fl ins ws s)]) [aQ rQa (b3j (d2n n ss fl ins ws s) (d5e fl ins s)),fQ rQb (b3j (d2n n ss fl ins ws s) ins),fQ rQc (b3j (d2n n ss fl ins ws s) ws)]:=by
 refine zcn [.cell 6 31,.tmp 7] [] Tryz.func18 Tryz.ntmps18 ⟨?_⟩;intro Q0 n0 r0;have T:=Tys.mk (ai Ty.t3 (ai Ty.t4 (ai Ty.t9 (ai Ty.t24 (ai Ty.t26 (ai Ty.t27 (ai Ty.t28 (ai Ty.t29 (ai Ty.t31 (ai Ty.t32 (ai Ty.t35 (ai Ty.t53 (ai Ty.t55 (ai Ty.t91 Ty.t127))))))))))))));have F:=Fc.mk True.intro;refine yR [2,3,4,6] ⟨?_⟩;refine b0e ?_;intros;refine yRc [2,4,6,11] (b4c n ss fl ins ws hs hl hls hil hin his hwl hwn) ⟨?_⟩;refine b0a _ rfl ?_ ?_
 ·intro hc0;have hB:(b2o n ss fl ins ws)=false:=by
   cases hq:(b2o n ss fl ins ws) with
   |false=>rfl
   |true=>simp [hq] at hc0
  have hV:(d2n n ss fl ins ws s)=false:=by rw [d2n,hB];rfl
  refine yR [6,7] ⟨?_⟩;refine zq1 ⟨?_⟩;simp only [aQ,fQ,hV,b2s,List.map_nil,List.length_nil,b41];exact rta
 ·intro hc0;have hB:(b2o n ss fl ins ws)=true:=by
   cases hq:(b2o n ss fl ins ws) with
   |true=>rfl
   |false=>simp [hq] at hc0
  have hc:=b4f hB;have hV:(d2n n ss fl ins ws s)=(b9t fl s):=by rw [d2n,hB];rfl
  refine zn [2,4,6] ⟨?_⟩;refine yRc [6,7] (c5n n ss fl ins ws s hl hil hin hwl hwn hB) ⟨?_⟩;refine zq1 ⟨?_⟩;rw [hV];exact rta
theorem d20 {n:Nat} (h:n < 10):f3h [IntKind.u8.wrap (48+(n:Int))]=⟨#[UInt8.ofNat (48+n)]⟩:=by
  have e:IntKind.u8.wrap (48+(n:Int))=((48+n:Nat):Int):=by
    simp only [IntKind.wrap,IntKind.bits,IntKind.signed];simp;omega
  rw [e];rfl
theorem d9d (n:Nat) (hn:n < 1000000000) (ih:∀m,m < n→Con Tryz.prog 77 [.int .i64 (Nat.cast m)] [] (.str (b5x m)) []):Con Tryz.prog 77 [.int .i64 (Nat.cast n)] [] (.str (b5x n)) []:=by
 refine zcn [.tmp 2] [] Tryz.func77 Tryz.ntmps77 ⟨?_⟩;intro Q0 n0 r0;have T:=tq4 Ty.t3 Ty.t5 Ty.t9 Ty.t22;have F:=Fc.mk True.intro;refine yR [0] ⟨?_⟩;refine b0e ?_;intros;refine yR [0,4] ⟨?_⟩;refine b0a _ rfl ?_ ?_
 ·intro hc0;have h10:n < 10:=by omega
  refine yR [2] ⟨?_⟩;refine zr ⟨?_⟩;exact b0g rfl (by rw [d20 h10,d5u h10]) (.inl rfl)
 ·intro hc0;have h10:¬n < 10:=by omega
  have hq:(n:Int).tdiv 10=((n / 10:Nat):Int):=rfl;have hm:(n:Int).tmod 10=((n % 10:Nat):Int):=rfl;have hm10:n % 10 < 10:=Nat.mod_lt _ (by omega);have hsz:(b5x (n / 10)).size≤9:=b9e 9 (n / 10) (by omega) (by omega);have hst:=d20 hm10;have hz:∀b:UInt8,(ByteArray.mk #[b]).size=1:=fun _=>rfl
  refine zn [0] ⟨?_⟩;refine b0e ?_;intro Q6 n6 e6 r6;refine b1f (by kernel_rfl) ?_;intro K7 q7 k7;show b1r _ _ _ _ 11 (Array.replicate 11 false) _;have F:=fq4 hq hm hst hz;refine b0t q7 true 0 10 ?_;refine b21 q7 true 1 11 ?_;refine b0t q7 true 3 13 ?_;refine b19 q7 true 4 14 ?_;refine b21 q7 true 5 15 ?_;refine d34 q7 true 6 16 ?_;refine b09 2 7 rfl rfl (by kernel_rfl) ?_ ?_
  ·refine zsc (ih (n / 10) (by omega)) ⟨?_⟩;refine b1j 7 ⟨?_⟩;refine d04 q7 true 8 18 ?_;refine b21 q7 true 9 19 ?_;refine b0p 10 ⟨?_⟩;refine b0b (by kernel_rfl) ?_;refine k7 _ ?_;refine n6 _ _ (b0f [2] _) ?_;refine zq2 ⟨?_⟩;exact b0g rfl (by rw [d6p h10]) (.inl rfl)
  ·refine b01 ⟨?_⟩;refine d04 q7 true 8 18 ?_;refine zoc 2 (ih (n / 10) (by omega)) ⟨?_⟩;refine b21 q7 true 9 19 ?_;refine b0p 10 ⟨?_⟩;refine b0b (by kernel_rfl) ?_;refine k7 _ ?_;refine n6 _ _ (b0f [2] _) ?_;refine zq2 ⟨?_⟩;exact b0g rfl (by rw [d6p h10]) (.inl rfl)
theorem b7i (n:Int) (h:0≤n∧n < 1000000000):Con Tryz.prog 77 [.int .i64 n] [] (.str (b5x n.toNat)) []:=by
  have key:∀k:Nat,k < 1000000000→Con Tryz.prog 77 [.int .i64 (Nat.cast k)] [] (.str (b5x k)) []:=by
    intro k
    induction k using Nat.strongRecOn with
    | ind k ih=>exact fun hk=>d9d k hk fun m hm=>ih m hm (by omega)
  obtain ⟨m,hm⟩:∃m:Nat,n=(m:Int):=⟨n.toNat,by omega⟩;subst hm;rw [qli];exact key m (by omega)
theorem Tryz.pow10:(Tryz.prog.globalNamed "internal/strconv.uint64pow10").isSome=true:=by kernel_rfl
theorem d67 (n:Int) (h:0≤n∧n < 1000000000):Con Tryz.prog 73 [.int .i64 n] [] (.str (b5x n.toNat)) []:=by
  rw [←f5k h.1];obtain ⟨g,hg⟩:=qmg.1 Tryz.pow10;exact f38 ⟨_,Tryz.func73,rfl,rfl⟩ (fun w μ=>.str _) (fun w ht=>Tryz.strconv_Itoa n (by omega) (by omega) w (d7x hg ht))
theorem f1e (a b s:ByteArray):b5m [a,b] s=a++s++b:=by
  unfold b5m Lib.join;apply ByteArray.ext;simp [List.intercalate,ByteArray.data_append]
def d2t (ws:List ByteArray):ByteArray:=ws.foldl (·++·) .empty
theorem c7f:∀(ws:List ByteArray) (s:ByteArray),ws.foldl (·++·) s=s++d2t ws
  | [],s=>by simp [d2t]
  | w::ws,s=>by
    have h1:=c7f ws (s++w);have h2:=c7f ws (ByteArray.empty++w);unfold d2t;rw [List.foldl_cons,List.foldl_cons,h1,h2,ByteArray.empty_append,ByteArray.append_assoc]
theorem d4z (ws:List ByteArray):b5m ws .empty=d2t ws:=by
  have key:∀ws:List ByteArray,(d2t ws).data.toList=(ws.map (·.data.toList)).flatten:=by
    intro ws
    induction ws with
    | nil=>rfl
    | cons w ws ih=>
      have:=c7f ws (ByteArray.empty++w);unfold d2t at ih⊢;rw [List.foldl_cons,this,ByteArray.empty_append,ByteArray.data_append,Array.toList_append];unfold d2t;rw [ih];rfl
  have h2:∀ws:List (List UInt8),Lib.join ws []=ws.flatten:=by
    intro ws;unfold Lib.join
    induction ws with
    | nil=>rfl
    | cons w ws ih=>cases ws<;>simp_all [List.intercalate]
  unfold b5m;apply ByteArray.ext;apply Array.ext';show Lib.join (ws.map (·.data.toList)) []=_;rw [h2,key]
theorem c8t:∀(ws:List ByteArray) (sep:ByteArray) (m:Nat),(∀w∈ws,w.size≤m)→(Lib.join (ws.map (·.data.toList)) sep.data.toList).length≤ws.length * (m+sep.size)
  | [],_,_,_=>qle _
  | w ::ws,sep,m,h=>by
    have h1:=h w (qlh ..);have h2:=c8t ws sep m fun x hx=>h x (qll _ hx)
    have e1:w.data.toList.length=w.size:=rfl;have e2:sep.data.toList.length=sep.size:=rfl;unfold Lib.join at h2⊢;rw [qme,Nat.add_mul];cases ws with
    | nil=>simp [List.intercalate] at h2⊢;omega
    | cons y ws=>
      simp [List.intercalate] at h2⊢;omega
theorem c48 (ws:List ByteArray) (sep:ByteArray) (m:Nat) (h:∀w∈ws,w.size≤m):(b5m ws sep).size≤ws.length * (m+sep.size):=by
  have:=c8t ws sep m h;have e:(b5m ws sep).size=(Lib.join (ws.map (·.data.toList)) sep.data.toList).length:=by
    show (Lib.join (ws.map (·.data.toList)) sep.data.toList).toArray.size=_;exact List.size_toArray
  rw [e];exact this
def c8e (l:List Int):List ByteArray:=l.map fun n=>b5x n.toNat
theorem d3g {l:List Int} (h:∀n∈l,0≤n∧n < 1000000000):∀w∈c8e l,w.size≤9:=by
  intro w hw;obtain ⟨n,hn,rfl⟩:=qmo.1 hw;have:=h n hn;exact b9e 9 _ (by omega) (by omega)
theorem f4t {a:List ByteArray} {x:ByteArray}:a.map V.str++[V.str x]=(a++[x]).map V.str:=by simp
theorem c6t (ws:List ByteArray) (sep:ByteArray) (hl:ws.length≤1048576) (hw:∀w∈ws,w.size≤1048576) (hs:sep.size≤1048576):Con Tryz.prog 72 [.sl (ws.map V.str),.str sep] [] (.str (b5m ws sep)) []:=by
  have hj:=c8t ws sep 1048576 hw;have hb:(Lib.join (ws.map (·.data.toList)) sep.data.toList).length≤140737488355328:=ql6 hj (ql6 (Nat.mul_le_mul hl (Nat.add_le_add_left hs _)) (by decide));exact f4a ⟨_,Tryz.func72,rfl,rfl⟩ (fun a c w=>Tryz.strings_Join_none a c sep w) (fun b o c w h1 h2 h3=>Tryz.strings_Join b o c ws sep w h1 h2 (by omega) h3 hb)
theorem b8r (l:List Int) (sep:ByteArray) (hl:l.length≤1048576) (hn:∀n∈l,0≤n∧n < 1000000000) (hs:sep.size≤1048576):Con Tryz.prog 74 [.str sep,.sl (l.map (V.int .i64))] [] (.str (b5m (c8e l) sep)) []:=by
 refine zcn [.tmp 4] [] Tryz.func74 Tryz.ntmps74 ⟨?_⟩;intro Q0 n0 r0;have T:=tq4 Ty.t3 Ty.t9 Ty.t32 Ty.t35;have F:=Fc.mk True.intro;refine yR [0,1] ⟨?_⟩;refine yR [0,1,5] ⟨?_⟩;refine b0e ?_;intros;refine yR [0,5,8,9,10] ⟨?_⟩;refine b0i ?_;intros;refine b08 (fun p=>⟨[(0,.str sep),(5,.ref 0),(8,.sl (l.map (V.int .i64))),(9,.int .i64 l.length),(10,.int .i64 (Nat.cast p.1))],[.arr (p.2.map V.str) .flat],false,23,0⟩) (fun p=>p.1≤l.length∧p.2=c8e (l.take p.1)) (fun p=>l.length - p.1) ((0,[]):Nat×List ByteArray) ?_ ?_ ?_
 ·refine b0d [0,5,8,9,10] [0] ⟨?_⟩;rfl
 ·exact ⟨qle _,rfl⟩
 ·rintro ⟨i,acc⟩ hok6 Q6 n6 e6 r6;obtain ⟨hi1,hR⟩:=hok6;simp only [] at hi1 hR⊢;have hal:acc.length≤1048576:=by rw [hR,c8e,qmj,qlr];omega
  have haw:∀w∈acc,w.size≤1048576:=by rw [hR];intro w hw;exact ql6 (d3g (fun n h=>hn n (ql0 h)) w hw) (by omega)
  refine yR [0,5,8,9,10,11] ⟨?_⟩;refine b0e ?_;intros;refine b0a _ rfl ?_ ?_
  ·intro hc0;have hlt:i < l.length:=by omega
   obtain ⟨x,hx⟩:∃x,l[i]? =some x:=⟨l[i],qla hlt⟩;have hxn:=hn x (qlb hx);refine zn [0,5,8,9,10] ⟨?_⟩;refine b0e ?_;intros;refine b0i ?_;intros;have F:=Fc.mk (gdm hx);refine yR [0,5,7,8,9,10] ⟨?_⟩;refine yQc [0,5,8,9,10] (d67 x hxn) ⟨?_⟩;refine yV ⟨?_⟩;refine n6 _ (i+1,acc++[b5x x.toNat]) ?_ ?_ ?_
   ·refine b0d [0,5,8,9,10] [2] ⟨?_⟩;rw [f4t];rfl
   ·exact ⟨hlt,by show acc++_=c8e (l.take (i+1));rw [hR,ql2,hx];simp [c8e]⟩
   ·show _ < _;show l.length - (i+1) < l.length - i;omega
  ·intro hc0;have hend:acc=c8e l:=by rw [hR,qlx (by omega)]
   refine zn [0,5] ⟨?_⟩;refine yRc [4] (c6t acc sep hal haw hs) ⟨?_⟩;refine zr ⟨?_⟩;exact b0g rfl (by rw [hend]) (.inl rfl)
end Go.Proofs.YtmbbjhopngejaaaGreatDoor
