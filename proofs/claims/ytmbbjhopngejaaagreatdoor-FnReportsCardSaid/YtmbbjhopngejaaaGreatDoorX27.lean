/- What functions compute. No condition. -/
import Derived.Test.YtmbbjhopngejaaaGreatDoorX26
import Derived.Test.YtmbbjhopngejaaaGreatDoorX24
import Derived.Test.YtmbbjhopngejaaaGreatDoorX16
import Derived.Test.YtmbbjhopngejaaaGreatDoorX2
set_option linter.unusedSimpArgs false
set_option linter.unusedVariables false
set_option linter.defProp false
namespace Go.Proofs.YtmbbjhopngejaaaGreatDoor
open Go Go.Vm
set_option maxHeartbeats 8000000
theorem d23 (n:Int) (ss:List TS) (fl:List TA) (ins:List TI) (ws:List TW) (hs:ss.length≤1048576) (hl:fl.length≤1048576) (hls:∀t∈fl,t.1.size≤9223372036854775807) (hil:ins.length≤1048576) (hin:∀x∈ins,x.2.2.2.length≤1048576) (his:∀x∈ins,∀s∈x.2.2.2,s.size≤9223372036854775807) (hwl:ws.length≤1048576) (hwn:∀x∈ws,x.2.length≤1048576) (hB:(b2o n ss fl ins ws)=true):Con Tryz.prog 68 [tQ n ss,.agg [.ref 0,.ref 1,.ref 2]] [aQ rQa fl,fQ rQb ins,fQ rQc ws] (.tup [.agg [.ref 0,.ref 1,.ref 2],.bool true]) [aQ rQa fl,fQ rQb ins,fQ rQc ws]:=by
 refine zcn [.cell 4 31,.tmp 5] [] Tryz.func68 Tryz.ntmps68 ⟨?_⟩;intro Q0 n0 r0;have T:=Tys.mk (ai Ty.t3 (ai Ty.t4 (ai Ty.t9 (ai Ty.t24 (ai Ty.t26 (ai Ty.t27 (ai Ty.t28 (ai Ty.t29 (ai Ty.t31 (ai Ty.t32 (ai Ty.t35 (ai Ty.t53 (ai Ty.t55 (ai Ty.t91 Ty.t127))))))))))))));have F:=Fc.mk True.intro;refine yR [2,3,4] ⟨?_⟩;refine b0e ?_;intros;refine yRc [3,4,9] (b4c n ss fl ins ws hs hl hls hil hin his hwl hwn) ⟨?_⟩;refine b18 _ rfl ?_ ?_
 ·intro hc0;exfalso;simp [hB] at hc0
 ·intro hc0;try simp only [zC,reduceCtorEq] at hc0
  refine zn [3,4] ⟨?_⟩;refine yR [4,5] ⟨?_⟩;refine zq1 ⟨?_⟩;exact rta
theorem f50 (n:Int) (ss:List TS) (fl:List TA) (ins:List TI) (ws:List TW) (hs:ss.length≤1048576) (hl:fl.length≤1048576) (hls:∀t∈fl,t.1.size≤9223372036854775807) (hil:ins.length≤1048576) (hin:∀x∈ins,x.2.2.2.length≤1048576) (his:∀x∈ins,∀s∈x.2.2.2,s.size≤9223372036854775807) (hwl:ws.length≤1048576) (hwn:∀x∈ws,x.2.length≤1048576) (hB:(b2o n ss fl ins ws)=false):Con Tryz.prog 68 [tQ n ss,.agg [.ref 0,.ref 1,.ref 2]] [aQ rQa fl,fQ rQb ins,fQ rQc ws] (.tup [.agg [.ref 3,.ref 4,.ref 5],.bool false]) [aQ rQa fl,fQ rQb ins,fQ rQc ws,eQ,eQ,eQ]:=by
 refine zcn [.cell 4 31,.tmp 5] [] Tryz.func68 Tryz.ntmps68 ⟨?_⟩;intro Q0 n0 r0;have T:=Tys.mk (ai Ty.t3 (ai Ty.t4 (ai Ty.t9 (ai Ty.t24 (ai Ty.t26 (ai Ty.t27 (ai Ty.t28 (ai Ty.t29 (ai Ty.t31 (ai Ty.t32 (ai Ty.t35 (ai Ty.t53 (ai Ty.t55 (ai Ty.t91 Ty.t127))))))))))))));have F:=Fc.mk True.intro;refine yR [2,3,4] ⟨?_⟩;refine b0e ?_;intros;refine yRc [3,4,9] (b4c n ss fl ins ws hs hl hls hil hin his hwl hwn) ⟨?_⟩;refine b18 _ rfl ?_ ?_
 ·intro hc0;try simp only [zC,reduceCtorEq] at hc0
  refine yR [4,5] ⟨?_⟩;refine zq1 ⟨?_⟩;exact rta
 ·intro hc0;exfalso;simp [hB] at hc0
set_option maxRecDepth 100000 in
theorem d37 (n:Int) (ss:List TS) (fl:List TA) (ins:List TI) (ws:List TW) (tb:List (Int×Int×Int×Int×Int×Int×List Int)) (node a b c:Int) (htb:tb.length≤1048576) (htbs:∀t∈tb,t.2.2.2.2.2.2.length≤1048576) (hs:ss.length≤1048576) (hl:fl.length≤1048576) (hls:∀t∈fl,t.1.size≤9223372036854775807) (hil:ins.length≤1048576) (hin:∀x∈ins,x.2.2.2.length≤1048576) (his:∀x∈ins,∀s∈x.2.2.2,s.size≤9223372036854775807) (hwl:ws.length≤1048576) (hwn:∀x∈ws,x.2.length≤1048576):Con Tryz.prog 83 [tQ n ss,sQ rQe tb,kQ fl ins ws,.int .i64 node,.agg [.int .i64 a,.int .i64 b,.int .i64 c]] [] (.tup [.agg [.ref 0,.ref 1,.ref 2],.int .i64 (bif (tkB n ss fl ins ws tb node a b c) then c3y ins else 0),.bool (tkB n ss fl ins ws tb node a b c)]) [aQ rQa (b3j (tkB n ss fl ins ws tb node a b c) (chF n ss fl node (nfL tb a b c))),fQ rQb (b3j (tkB n ss fl ins ws tb node a b c) (tkI n ss fl ins node (nfL tb a b c))),fQ rQc (b3j (tkB n ss fl ins ws tb node a b c) (tkW n ss fl ins ws node (nfL tb a b c)))]:=by
 refine zcn [.cell 10 31,.tmp 11,.tmp 12] [(68,[1])] Tryz.func83 Tryz.ntmps83 ⟨?_⟩;intro Q0 n0 r0;have T:=Tys.mk (ai Ty.t3 (ai Ty.t4 (ai Ty.t9 (ai Ty.t24 (ai Ty.t26 (ai Ty.t27 (ai Ty.t28 (ai Ty.t29 (ai Ty.t31 (ai Ty.t32 (ai Ty.t35 (ai Ty.t53 (ai Ty.t55 (ai Ty.t91 (ai Ty.t113 (ai Ty.t114 (ai Ty.t118 Ty.t127)))))))))))))))));have F:=Fc.mk True.intro;refine yR [1,3,5,7,9,10] ⟨?_⟩;refine yRc [3,5,7,10,13,14] (c7p tb a b c htb htbs) ⟨?_⟩;refine b0e ?_;intros;refine d2w [3,5,7,10,13,41] (b4c n ss fl ins ws hs hl hls hil hin his hwl hwn) (d97 n ss node hs) ⟨?_⟩;refine b0a _ rfl ?_ ?_
 ·intro hc0;have hB:(tkB n ss fl ins ws tb node a b c)=false:=by
   cases hq:(tkB n ss fl ins ws tb node a b c) with
   |false=>rfl
   |true=>
    exfalso;simp only [tkB,Bool.and_eq_true] at hq;have q6:=b6f hq.1.1.1.1;simp [hq.1.1.1.1,hq.1.1.1.2,hq.1.1.2,q6] at hc0
  refine yR [10,11,12] ⟨?_⟩;refine zq1 ⟨?_⟩;simp only [aQ,fQ,hB,b2s,List.map_nil,List.length_nil,b41,cond_false];exact rta
 ·intro hc0;have hq:(b2o n ss fl ins ws)=true∧nfB tb a b c=true∧c2e n node=true:=by
   cases q1:(b2o n ss fl ins ws)<;>cases q2:nfB tb a b c<;>cases q3:c2e n node<;>simp [q1,q2,q3] at hc0⊢
  have hK:=f8t (n:=n) (ss:=ss) (fl:=fl) (ins:=ins) (ws:=ws) (tb:=tb) (node:=node) (a:=a) (b:=b) (c:=c) hq.1 hq.2.1 hq.2.2;have h8:=hK.p.ws8;have hi8:=hK.p.inc.len;have hni:=hK.p.inc;have h12:=hK.p.fl12;have hnd:=hK.need;have hNF:=hK.nf;simp only [hNF,b2r];refine zn [3,5,7,10,13] ⟨?_⟩;refine yRc [5,7,10,13,15,16,17] (d4k ins node hni hil hin ⟨hK.nd.1,by have:=hK.nd.2;have:=hK.nn;omega⟩ his) ⟨?_⟩;refine b0e ?_;intros;refine yR [5,7,10,13,15,16,52] ⟨?_⟩;refine b0a _ rfl ?_ ?_
  ·intro hc1;have hB:(tkB n ss fl ins ws tb node a b c)=false:=by
    have q:opB ins=false:=by simpa using hc1
    rw [tkB,q];simp
   refine yR [10,11,12] ⟨?_⟩;refine zq1 ⟨?_⟩;simp only [aQ,fQ,hB,b2s,List.map_nil,List.length_nil,b41,cond_false];exact rta
  ·intro hc1;have ho:opB ins=true:=by
    cases q:opB ins<;>simp [q] at hc1⊢
   obtain ⟨hSx,hkp,hck⟩:SendOK n ss fl (ins++[c0o ins node]) ins.length (c3y ins,node,false,[]) (nfL tb a b c)∧CtlProp n ss (chF n ss fl node (nfL tb a b c)) (tkI n ss fl ins node (nfL tb a b c)) ws∧b2o n ss (chF n ss fl node (nfL tb a b c)) (tkI n ss fl ins node (nfL tb a b c)) (tkW n ss fl ins ws node (nfL tb a b c))=(tkZ n ss fl node (nfL tb a b c) || decide (ws.length < 8)):=⟨f7n hK.p hK.nd hK.nn ho hnd,f06 hK.p hK.nd hK.nn ho hnd,d76 hK.p hK.nd hK.nn ho hnd⟩;have hBZ:(tkB n ss fl ins ws tb node a b c)=(tkZ n ss fl node (nfL tb a b c) || decide (ws.length < 8)):=by rw [tkB,hq.1,hq.2.1,hq.2.2,ho];rfl
   have hjl:(ins++[c0o ins node]).length=ins.length+1:=by rw [qls,ql1]
   have hjs:=c95 ins (c0o ins node);have hti:(tkI n ss fl ins node (nfL tb a b c))=b9y ins.length (ins++[c0o ins node]) (chN n ss fl node (nfL tb a b c)):=rfl;have htl:(tkI n ss fl ins node (nfL tb a b c)).length=ins.length+1:=f8l;have hcl:=c8s (n:=n) (ss:=ss) (fl:=fl) (node:=node) hnd;have hin2:∀x∈ins++[c0o ins node],x.2.2.2.length≤1048576:=d28 hin (qle _);simp only [ho,b2r,cond_true];generalize hjn:ins++[c0o ins node]=jn at hSx hjl hjs hti hin2⊢;have hlm:(jn.length:Int) - 1=(ins.length:Int):=by omega
   obtain ⟨hl2,hls2,hil2,hin3,his3⟩:=f10 hkp;obtain ⟨hwl3,hwn3⟩:=f9t (n:=n) (ss:=ss) (fl:=fl) (ins:=ins) (node:=node) h8 hwn hnd;refine zn [5,7,10,13,15,16] ⟨?_⟩;have F:=Fc.mk hlm;refine yRc [5,10,13,15,16,18] (c1a fl ins ws hl hil hin hwl hwn) ⟨?_⟩;refine yR [5,10,13,15,16,18] ⟨?_⟩;refine yRc [5,10,16,18,20] (d9p n ss fl jn ws ins.length (c3y ins) node false [] (nfL tb a b c) hSx hwl hwn) ⟨?_⟩;refine b0e ?_;intro Q15 n15 e15 r15;refine yRc [5,10,16,18,20,71] (c65 (chL n ss fl node (nfL tb a b c)) 0 0 (by omega)) ⟨?_⟩;refine b0a _ rfl ?_ ?_
   ·intro hc2;have hz:tkZ n ss fl node (nfL tb a b c)=false:=by
     rw [tkZ];first | exact hc2 | simpa using hc2 | simpa [inR] using hc2
    have hW:=f74 (ins:=ins) (ws:=ws) hz;have hsn:ws.map rQc++[V.agg [V.int .i64 (c3y ins),V.sl ((chL n ss fl node (nfL tb a b c)).map (V.int .i64))]]=(ws++[(c3y ins,chL n ss fl node (nfL tb a b c))]).map rQc:=by simp only [aQ,fQ,List.map_append];try rfl
    have hwl2:(ws++[(c3y ins,chL n ss fl node (nfL tb a b c))]).length=ws.length+1:=by rw [qls,ql1]
    rcases qmf ws.length 8 with h9 | h9
    ·skip;have hB:(tkB n ss fl ins ws tb node a b c)=true:=by rw [hBZ,hz,decide_eq_true (show ws.length < 8 by omega)];rfl
     have hif:=d23 n ss (chF n ss fl node (nfL tb a b c)) (tkI n ss fl ins node (nfL tb a b c)) (tkW n ss fl ins ws node (nfL tb a b c)) hs hl2 hls2 hil2 hin3 his3 hwl3 hwn3 (by rw [hck,hz,decide_eq_true h9];rfl);simp only [hW] at hif;have F:=Fc.mk hlm;refine yV ⟨?_⟩;apply n15
     ·apply b00 (b0f [5,10,16,18] _);simp only [b02,b0n,b0l,b0j,b0u,Nat.reduceEqDiff,reduceIte];first | (rw [hsn,←hwl2,←hti,hjl,←htl];exact b36 _ _) | (rw [←hti,hjl,←htl];exact b36 _ _)
     try simp only [b2f,b2q,Nat.reduceEqDiff,reduceIte,List.set_cons_zero,List.set_cons_succ]
     refine yR3 [10,16,18,21] (hif) ⟨?_⟩;refine b0e ?_;intros;refine yR [10,16,18,87] ⟨?_⟩;refine b18 _ rfl ?_ ?_
     ·intro hc3;exfalso;simp at hc3
     ·intro hc3;try simp only [zC,reduceCtorEq] at hc3
      refine zn [10,16,18] ⟨?_⟩;refine yR [10,11,12] ⟨?_⟩;refine zq1 ⟨?_⟩;simp only [hB,b2r,cond_true,hW];exact rta
    ·skip;have hB:(tkB n ss fl ins ws tb node a b c)=false:=by rw [hBZ,hz,decide_eq_false (by omega)];rfl
     have hif:=f50 n ss (chF n ss fl node (nfL tb a b c)) (tkI n ss fl ins node (nfL tb a b c)) (tkW n ss fl ins ws node (nfL tb a b c)) hs hl2 hls2 hil2 hin3 his3 hwl3 hwn3 (by rw [hck,hz,decide_eq_false (by omega)];rfl);simp only [hW] at hif;have F:=Fc.mk hlm;refine yV ⟨?_⟩;apply n15
     ·apply b00 (b0f [5,10,16,18] _);simp only [b02,b0n,b0l,b0j,b0u,Nat.reduceEqDiff,reduceIte];first | (rw [hsn,←hwl2,←hti,hjl,←htl];exact b36 _ _) | (rw [←hti,hjl,←htl];exact b36 _ _)
     try simp only [b2f,b2q,Nat.reduceEqDiff,reduceIte,List.set_cons_zero,List.set_cons_succ]
     refine yR3 [10,16,18,21] (hif) ⟨?_⟩;refine b0e ?_;intros;refine yR [10,16,18,87] ⟨?_⟩;refine b18 _ rfl ?_ ?_
     ·intro hc3;try simp only [zC,reduceCtorEq] at hc3
      refine yR [10,11,12] ⟨?_⟩;refine zq1 ⟨?_⟩;simp only [aQ,fQ,hB,b2s,List.map_nil,List.length_nil,b41,cond_false];exact rta
     ·intro hc3;exfalso;simp at hc3
   ·intro hc2;have hz:tkZ n ss fl node (nfL tb a b c)=true:=by
     rw [tkZ];first | exact hc2 | simpa using hc2 | simpa [inR] using hc2
    have hW:=f8y (ins:=ins) (ws:=ws) hz;have hB:(tkB n ss fl ins ws tb node a b c)=true:=by rw [hBZ,hz];rfl
    have hif:=d23 n ss (chF n ss fl node (nfL tb a b c)) (tkI n ss fl ins node (nfL tb a b c)) (tkW n ss fl ins ws node (nfL tb a b c)) hs hl2 hls2 hil2 hin3 his3 hwl3 hwn3 (by rw [hck,hz];rfl);simp only [hW] at hif;refine b5z ?_;apply n15
    ·apply b00 (b0f [5,10,16,18] _);simp only [b02,b0n,b0l,b0j,b0u,Nat.reduceEqDiff,reduceIte];first | (rw [hsn,←hwl2,←hti,hjl,←htl];exact b36 _ _) | (rw [←hti,hjl,←htl];exact b36 _ _)
    try simp only [b2f,b2q,Nat.reduceEqDiff,reduceIte,List.set_cons_zero,List.set_cons_succ]
    refine yR3 [10,16,18,21] (hif) ⟨?_⟩;refine b0e ?_;intros;refine yR [10,16,18,87] ⟨?_⟩;refine b18 _ rfl ?_ ?_
    ·intro hc4;exfalso;simp at hc4
    ·intro hc4;try simp only [zC,reduceCtorEq] at hc4
     refine zn [10,16,18] ⟨?_⟩;refine yR [10,11,12] ⟨?_⟩;refine zq1 ⟨?_⟩;simp only [hB,b2r,cond_true,hW];exact rta
def f0u (n:Int):ByteArray:=⟨(Lib.itoa n).toArray⟩
def rdV (s:ByteArray):Int:=match Lib.atoiAll s.data.toList with
  | .ok v=>v
  | .range=>Lib.atoiSat s.data.toList
  | _=>0
def rdB (s:ByteArray):Bool:=match Lib.atoiAll s.data.toList with
  | .ok v=>decide (f0u v=s)
  | _=>false
def blk (s:ByteArray):Int:=Lib.indexByte s.data.toList 32
def c07 (s:ByteArray):ByteArray:=if 0≤blk s then s.extract 0 (blk s).toNat else s
def b52 (s:ByteArray):ByteArray:=if 0≤blk s then s.extract ((blk s).toNat+1) s.size else ⟨#[]⟩
theorem d22 {s:ByteArray} {k:Nat} {c:UInt8} (h:s.data.toList[k]? =some c):b2e s k=(c.toNat:Int):=by
  unfold b2e;rw [qlm,h];rfl
theorem c5a {s:ByteArray} {k:Nat} (hk:k < s.size):∃c:UInt8,s.data.toList[k]? =some c∧b2e s k=(c.toNat:Int):=by
  have hl:k < s.data.toList.length:=by rw [Array.length_toList];exact hk
  exact ⟨_,qla hl,d22 (qla hl)⟩
theorem d2u {s:ByteArray} {k:Nat} (hk:k < s.size) (h:s.data.toList[k]?≠some 32):b2e s k≠32:=by
  obtain ⟨c,h1,h2⟩:=c5a hk;intro e;rw [h2] at e;have h3:c.toNat=(32:UInt8).toNat:=by show c.toNat=32;omega
  rw [UInt8.toNat_inj.1 h3] at h1;exact h h1
theorem d79 (s:ByteArray):(blk s=-1∧∀k,k < s.size→b2e s k≠32)∨∃p:Nat,blk s=(p:Int)∧p < s.size∧b2e s p=32∧∀k,k < p→b2e s k≠32:=by
  have h0:=Lib.indexByte_ge s.data.toList 32;rcases Int.lt_or_le (blk s) 0 with h | h
  · left
    have h1:blk s=-1:=by unfold blk at h⊢;omega
    exact ⟨h1,fun k hk=>d2u hk (Lib.indexByte_none h1 k)⟩
  · right
    obtain ⟨p,hp⟩:=ql4 h;obtain ⟨h1,h2⟩:=Lib.indexByte_some (l:=s.data.toList) (c:=32) (o:=p) hp;have hlt:p < s.size:=by
      have:=(qlc.1 h1).1
      rwa [Array.length_toList] at this
    exact ⟨p,hp,hlt,d22 h1,fun k hk=>d2u (by omega) (h2 k hk)⟩
theorem c1j {s:ByteArray}:∀i,(∀k,k < i→b2e s k≠32)→b2v s 32 i=([],0)
  | 0,_=>rfl
  | i+1,h=>by rw [b2v,if_neg (h i (by omega))];exact c1j i fun k hk=>h k (by omega)
theorem d3s {s:ByteArray} {p:Nat} (hp:b2e s p=32) (h0:∀k,k < p→b2e s k≠32):∀d,(∀k,p < k→k < p+1+d→b2e s k≠32)→b2v s 32 (p+1+d)=([s.extract 0 p],p+1)
  | 0,_=>by rw [Nat.add_zero,b2v,if_pos hp,c1j p h0];rfl
  | d+1,h=>by
    rw [←Nat.add_assoc,b2v,if_neg (h (p+1+d) (by omega) (by omega))];exact d3s hp h0 d fun k h1 h2=>h k h1 (by omega)
theorem c61 {s:ByteArray} {p:Nat} (hp:b2e s p=32) (h0:∀k,k < p→b2e s k≠32):∀d,1≤(b2v s 32 (p+1+d)).1.length
  | 0=>by rw [Nat.add_zero,b2v,if_pos hp,c1j p h0];exact qlw _
  | d+1=>by
    rw [←Nat.add_assoc,b2v];split
    · rw [qls];have:=c61 hp h0 d;omega
    · exact c61 hp h0 d
theorem c8b {s:ByteArray} {p q:Nat} (hp:b2e s p=32) (h0:∀k,k < p→b2e s k≠32) (hq:p < q) (hb:b2e s q=32):∀d,2≤(b2v s 32 (q+1+d)).1.length
  | 0=>by
    obtain ⟨e,rfl⟩:∃e,q=p+1+e:=⟨q - (p+1),by omega⟩;rw [Nat.add_zero,b2v,if_pos hb,qls];have:=c61 hp h0 e;simp only [List.length_singleton];omega
  | d+1=>by
    rw [←Nat.add_assoc,b2v];split
    · rw [qls];have:=c8b hp h0 hq hb d;omega
    · exact c8b hp h0 hq hb d
def c3h (s:ByteArray):List ByteArray:=(b2v s 32 s.size).1++[s.extract (b2v s 32 s.size).2 s.size]
theorem c52 {s:ByteArray} {a k:Nat} (h:a+k < s.size):b2e (s.extract a s.size) k=b2e s (a+k):=by
  unfold b2e;rw [ByteArray.data_extract,Array.toList_extract,qlm,qlm,List.extract_eq_take_drop,List.getElem?_take,if_pos (by omega),List.getElem?_drop]
theorem c96 (s:ByteArray) (a:Nat):(s.extract a s.size).size=s.size - a:=by rw [ByteArray.size_extract,Nat.min_self]
theorem c43 (s:ByteArray):((c3h s).length=1∧b52 s=⟨#[]⟩)∨(c3h s=[c07 s,b52 s]∧∀k,k < (b52 s).size→b2e (b52 s) k≠32)∨(3≤(c3h s).length∧∃k,k < (b52 s).size∧b2e (b52 s) k=32):=by
  rcases d79 s with ⟨h1,h2⟩ | ⟨p,h1,h2,h3,h4⟩
  · left
    refine ⟨?_,by rw [b52,if_neg (by omega)]⟩;rw [c3h,c1j _ h2];rfl
  · have hA:c07 s=s.extract 0 p:=by rw [c07,if_pos (by omega),h1,qli]
    have hB:b52 s=s.extract (p+1) s.size:=by rw [b52,if_pos (by omega),h1,qli]
    right
    by_cases h5:∀k,p < k→k < s.size→b2e s k≠32
    · left
      obtain ⟨d,hd⟩:∃d,s.size=p+1+d:=⟨s.size - (p+1),by omega⟩;have hs:=d3s h3 h4 d (by rw [←hd];exact h5);rw [←hd] at hs;refine ⟨by rw [c3h,hs,hA,hB];rfl,fun k hk=> ?_⟩;rw [hB,c96] at hk;rw [hB,c52 (by omega)];exact h5 _ (by omega) (by omega)
    · right
      have h6:∃q,p < q∧q < s.size∧b2e s q=32:=by
        apply Classical.byContradiction;intro hn;exact h5 fun k h7 h8 h9=>hn ⟨k,h7,h8,h9⟩
      obtain ⟨q,q1,q2,q3⟩:=h6;obtain ⟨d,hd⟩:∃d,s.size=q+1+d:=⟨s.size - (q+1),by omega⟩;refine ⟨?_,q - (p+1),by rw [hB,c96];omega,?_⟩
      · have:=c8b h3 h4 q1 q3 d
        rw [←hd] at this;rw [c3h,qls,ql1];omega
      · rw [hB,c52 (by omega),show p+1+(q - (p+1))=q by omega];exact q3
def c2a (s:ByteArray) (k:Nat):Bool:=decide (48≤b2e s k) && decide (b2e s k≤57)
def d9v (s:ByteArray):Nat→Int
  | 0=>0
  | i+1=>10 * d9v s i+(b2e s i - 48)
def rdH (s:ByteArray):Bool:=(decide (1≤s.size) && decide (s.size≤6)) && !(decide (b2e s 0=48) && decide (1 < s.size))
def rdN (s:ByteArray):Int:=if rdH s=true∧∀k,k < s.size→c2a s k=true then d9v s s.size else -1
theorem d8e {s:ByteArray} {k:Nat} (h:c2a s k=true):48≤b2e s k∧b2e s k≤57:=by simpa [c2a] using h
theorem c92 {s:ByteArray}:∀i,(∀k,k < i→c2a s k=true)→0≤d9v s i∧d9v s i < 10 ^ i
  | 0,_=>⟨Int.le_refl _,Int.lt_succ 0⟩
  | i+1,h=>by
    have h1:=c92 i fun k hk=>h k (by omega)
    have h2:=d8e (h i (by omega));rw [d9v,Int.pow_succ];omega
theorem d8f {s:ByteArray} (h0:49≤b2e s 0):∀i,(∀k,k < i+1→c2a s k=true)→(10:Int) ^ i≤d9v s (i+1)
  | 0,_=>by simp only [d9v];omega
  | i+1,h=>by
    have h1:=d8f h0 i fun k hk=>h k (by omega)
    have h2:=d8e (h (i+1) (by omega));rw [d9v,Int.pow_succ];omega
theorem f60 {i:Nat} (h:i≤5):(10:Int) ^ i≤100000:=by
  have:i=0∨i=1∨i=2∨i=3∨i=4∨i=5:=by omega
  rcases this with rfl | rfl | rfl | rfl | rfl | rfl<;>decide
theorem d90 (s:ByteArray) (i:Nat):0≤b2e s i∧b2e s i≤255:=by
  unfold b2e;have:=(s.data.toList.getD i 0).toNat_lt;omega
theorem f4x {s:ByteArray} {i:Nat} (h:∀k,k < i→c2a s k=true) (hi:c2a s i=true):∀k,k < i+1→c2a s k=true:=fun k hk=>by
  rcases Nat.lt_succ_iff_lt_or_eq.1 hk with q | q
  · exact h k q
  · subst q;exact hi
theorem f6b (s:ByteArray) (h:s.size≤1048576):(c07 s).size≤1048576∧(b52 s).size≤1048576:=by
  constructor
  · rw [c07];split
    · rw [ByteArray.size_extract];omega
    · exact h
  · rw [b52];split
    · rw [ByteArray.size_extract];omega
    · exact qle _
def dg (n:Int):ByteArray:=⟨#[UInt8.ofNat (48+n.toNat)]⟩
theorem f73 {s:ByteArray} (h:0≤rdN s∧rdN s≤5):s=dg (rdN s):=by
  have hr:rdH s=true∧∀k,k < s.size→c2a s k=true:=by
    apply Classical.byContradiction;intro hn;rw [rdN,if_neg hn] at h;omega
  have hv:rdN s=d9v s s.size:=by rw [rdN,if_pos hr]
  have h1:=hr.1;simp only [rdH,Bool.and_eq_true,decide_eq_true_eq,Bool.not_eq_true',Bool.and_eq_false_imp,decide_eq_false_iff_not] at h1;have hs1:s.size=1:=by
    rcases qmf 1 s.size with q | q
    · exfalso
      have hd:=d8e (hr.2 0 (by omega));have hne:b2e s 0≠48:=fun e=>h1.2 e q
      obtain ⟨j,hj⟩:∃j,s.size=(j+1)+1:=⟨s.size - 2,by omega⟩;have hb:=d8f (s:=s) (by omega) (j+1) (by rw [←hj];exact hr.2);rw [←hj,Int.pow_succ] at hb;have hp:(0:Int) < 10 ^ j:=Int.pow_pos (by decide);omega
    · omega
  rw [hs1] at hv;have hv2:rdN s=b2e s 0 - 48:=by rw [hv];simp only [d9v];omega
  obtain ⟨c,hc1,hc2⟩:=c5a (s:=s) (k:=0) (by omega);cases s with
  | mk d=>
    have hd:d.size=1:=hs1;have hdl:d.toList=[c]:=by
      have hl:d.toList.length=1:=by rw [Array.length_toList];exact hd
      obtain ⟨x,hx⟩:=List.length_eq_one_iff.1 hl;have:d.toList[0]? =some c:=hc1;rw [hx] at this⊢;simp at this;rw [this]
    have hda:d=#[c]:=by rw [←Array.toArray_toList (xs:=d),hdl]
    unfold dg;rw [hda,hda.symm];have he:(48+(rdN ⟨d⟩).toNat)=c.toNat:=by omega
    rw [he,UInt8.ofNat_toNat,hda]
theorem f6k:∀n:Nat,n≤5→Lib.atoiAll (dg (n:Int)).data.toList=.ok (n:Int)∧f0u (n:Int)=dg (n:Int)∧rdN (dg (n:Int))=(n:Int):=by
  intro n hn;have hd:(dg (n:Int)).size=1:=rfl;have hb:b2e (dg (n:Int)) 0=48+n:=by
    unfold b2e dg;rw [qli];show (((UInt8.ofNat (48+n)).toNat:Nat):Int)=_;rw [UInt8.toNat_ofNat',Nat.mod_eq_of_lt (by omega)];omega
  have hdig:∀k,k < (dg (n:Int)).size→c2a (dg (n:Int)) k=true:=by
    intro k hk;have:k=0:=by omega
    subst this;simp only [c2a,hb,Bool.and_eq_true,decide_eq_true_eq];omega
  refine ⟨?_,?_,?_⟩
  · have:n=0∨n=1∨n=2∨n=3∨n=4∨n=5:=by omega
    rcases this with rfl | rfl | rfl | rfl | rfl | rfl<;>rfl
  · unfold f0u dg Lib.itoa
    rw [if_neg (by omega),qli,Lib.decDigits,dif_pos (by omega)]
  · rw [rdN,if_pos ⟨by simp [rdH,hd],hdig⟩,hd]
    simp only [d9v];rw [hb];omega
theorem f8p {s:ByteArray} {n:Nat} (hn:n≤5) (h:s=dg (n:Int)):rdB s=true∧rdV s=(n:Int)∧rdN s=(n:Int):=by
  obtain ⟨h1,h2,h3⟩:=f6k n hn;subst h;refine ⟨?_,?_,h3⟩
  · unfold rdB;rw [h1];simp only [h2,decide_true]
  · unfold rdV;rw [h1]
theorem f6d {s:ByteArray} (h:0≤rdN s∧rdN s≤5):rdB s=true∧rdV s=rdN s:=by
  obtain ⟨n,hn⟩:=ql4 h.1;have hs:s=dg (n:Int):=by rw [←hn];exact f73 h
  have:=f8p (by omega) hs;exact ⟨this.1,by rw [this.2.1,hn]⟩
theorem f9l {s:ByteArray} (h:¬(0≤rdN s∧rdN s≤5)) (hb:rdB s=true):¬(0≤rdV s∧rdV s≤5):=by
  intro hv;unfold rdB at hb;cases hq:Lib.atoiAll s.data.toList with
  | ok v=>
    rw [hq] at hb;have hV:rdV s=v:=by unfold rdV;rw [hq]
    rw [hV] at hv;obtain ⟨n,rfl⟩:=ql4 hv.1;have he:f0u (n:Int)=s:=by simpa using hb
    have hs:s=dg (n:Int):=by rw [←he];exact (f6k n (by omega)).2.1
    have:=f8p (by omega) hs;rw [this.2.2] at h;exact h hv
  | range=>rw [hq] at hb;cases hb
  | _=>rw [hq] at hb;cases hb
theorem d59:∀(k n:Nat),n < k→∀b∈Lib.decDigits n,48≤b.toNat∧b.toNat≤57
  | 0,n,h=>by omega
  | k + 1,n,h=>by
    intro b hb;rw [Lib.decDigits] at hb;split at hb
    · rename_i q
      rw [qlk] at hb;subst hb;rw [UInt8.toNat_ofNat',Nat.mod_eq_of_lt (by omega)];omega
    · rename_i q
      rcases qlj.1 hb with e | e
      · exact d59 k (n / 10) (by omega) b e
      · rw [qlk] at e;subst e
        have:=Nat.mod_lt n (show 10 > 0 by decide);rw [UInt8.toNat_ofNat',Nat.mod_eq_of_lt (by omega)];omega
theorem f01 (v:Int):∀b∈Lib.itoa v,b.toNat≠32:=by
  intro b hb;unfold Lib.itoa at hb;split at hb
  · rcases qlt.1 hb with e | e
    · subst e;decide
    · have:=d59 _ _ (Nat.lt_succ_self _) b e;omega
  · have:=d59 _ _ (Nat.lt_succ_self _) b hb;omega
theorem d7u {s:ByteArray} {k:Nat} (hk:k < s.size) (h:b2e s k=32):rdB s=false∧s≠⟨#[97,116]⟩:=by
  refine ⟨?_,?_⟩
  · unfold rdB
    cases hq:Lib.atoiAll s.data.toList with
    | ok v=>
      apply decide_eq_false;intro e;obtain ⟨c,h1,h2⟩:=c5a hk;rw [←e] at h1;have hm:c∈Lib.itoa v:=by simpa [f0u] using qlb h1
      exact f01 v c hm (by omega)
    | range=>rfl
    | _=>rfl
  · intro e;subst e
    have:k=0∨k=1:=by have:k < 2:=hk;omega
    rcases this with rfl | rfl<;>exact absurd h (by decide)
theorem d7r:rdB ⟨#[]⟩=false∧(⟨#[]⟩:ByteArray)≠⟨#[97,116]⟩:=⟨rfl,by intro e;have:=congrArg ByteArray.size e;cases this⟩
section
open Go.RowKit
theorem d2z {w w1:World} {l:List (Nat×(Array Value→Prop))} (h:b6h w l) (hb:Below w.heap.size w w1):b6h w1 l:=fun p hp=>by
  obtain ⟨c,t,fr,e,q⟩:=h p hp;have hlt:p.1 < w.heap.size:=by
    rcases qmf p.1 w.heap.size with z | z
    · exact z
    · rw [Array.getElem?_eq_none z] at e;cases e
  exact ⟨c,t,fr,(hb.block p.1 hlt).trans e,q⟩
theorem f1d {P:Program} {f:FuncId} {a:ByteArray} {r:V} {rv:Value} (hf:∃fn,P.funcs[f]? =some fn∧(fn.name == "runtime.NumGoroutine")=false∧fn.body.isNone=false) (hr:∀w μ,Rep w μ r rv [])
    (h:∀w,b6h w (b6b P)→Calls P f #[.string a] w fun e w'=>e=.returned rv∧Below w.heap.size w w'):Con P f [.str a] [] r []:=by
  refine ⟨hf,fun w vals μ ow vis hi=> ?_⟩;have h0:vals.getD 0 undef=.string a:=by
    obtain ⟨bl,r0,_⟩:=hi.arg 0 _ rfl;generalize vals.getD 0 undef=x at r0⊢;cases r0;rfl
  have hs:vals.size=1:=hi.sz;have hv:vals=#[.string a]:=by
    apply Array.ext
    · simpa using hs
    · intro i hi1 hi2
      have hi3:i < 1:=by simpa using hi2
      have e:vals.getD i undef=vals[i]:=by simp [Array.getD,hi1]
      have:i=0:=by omega
      subst this;rw [←e,h0];rfl
  subst hv;refine (h w fun p hp=>(hi.tab p hp).2).mono ?_;rintro e w' ⟨rfl,hb⟩;have hold:∀b,b < w.heap.size→w'.heap[b]? =w.heap[b]? :=fun b hlt=>hb.block b hlt
  exact ⟨rv,μ,ow,rfl,⟨⟨[],hr _ _,by simp⟩,by simp,by simp,MLe.refl _,qlw _,hi.dom,fun b hb'=>(hi.owl b hb').keep (hold b (hi.owl b hb').lt),fun b hb=>.inl hb,
    ⟨hb.size,fun b hlt _=>hold b hlt,hb.os,hb.tape,hb.output,fun x hx=>by simp only [World.frozen?,hold x.block hx],fun _ hp=>nomatch hp⟩⟩⟩
theorem f55 (l:List UInt8) (s:ByteArray):(l == s.toList)=decide ((⟨l.toArray⟩:ByteArray)=s):=by
  rw [ByteArray.toList_eq,Bool.eq_iff_iff,beq_iff_eq,decide_eq_true_eq];constructor
  · intro h;subst h;rfl
  · intro h;subst h;rfl
theorem f42 (s:ByteArray) (hs:s.size≤1048576) (w:World) (hw:b6h w (b6b Tryz.prog)):Calls Tryz.prog 41 #[.string s] w fun e w'=>e=.returned (.tuple #[.int .i64 (rdV s),.bool (rdB s)])∧Below w.heap.size w w':=by
  cases hq:Lib.atoiAll s.data.toList with
  | ok v=>
    have hV:rdV s=v:=by unfold rdV;rw [hq]
    have hB:rdB s=(Lib.itoa v == s.toList):=by unfold rdB;rw [hq,f55];rfl
    rw [hV,hB];obtain ⟨hv0,hv1⟩:=Lib.atoiAll_bounds hq;have cA:=Tryz.strconv_Atoi_ok s (by omega) v hq w
    go_enter Tryz.func41,Tryz.ntmps41
    go_wp2_with (go_at_call 103;go_fit cA;rintro e w1 ⟨rfl,hw1⟩)
    have hb1:Below w.heap.size w w1:=by
      rcases hw1 with rfl | ⟨t,rfl⟩
      · exact Below.refl _ _
      · exact Lib.bytesWorld_below _ _ _
    have hI:=Tryz.strconv_Itoa v hv0 hv1 w1 (d7x rfl (d2z hw hb1))
    go_wp2_with (go_at_call 73;go_fit hI;rintro e w2 ⟨rfl,k2,os2,rfl⟩)
    go_ret2
    refine ⟨rfl,hb1.trans ⟨rfl,rfl,rfl,?_,fun b hb=>Sort.heap_grow_old (w1.drewN k2) os2 (qmi hb hb1.size)⟩⟩;rw [Sort.size_grow];exact Nat.le_add_right _ _
  | range=>
    have hV:rdV s=Lib.atoiSat s.data.toList:=by unfold rdV;rw [hq]
    have hB:rdB s=false:=by unfold rdB;rw [hq]
    rw [hV,hB];obtain ⟨c,t,fr,hc1,te,pe,hc2⟩:=f5d hw (g:=2) rfl;have hcell:w.cell? ⟨2,0,none⟩=some (.iface te pe):=by simp only [World.cell?,hc1];subst hc2;rfl
    have cA:=Tryz.strconv_Atoi_range s (by omega) hq _ w hcell (.inr ⟨te,pe,rfl⟩)
    go_enter Tryz.func41,Tryz.ntmps41
    go_wp2_with (go_at_call 103;go_fit cA;rintro e w1 ⟨N,rfl,_,_,hb1⟩)
    go_ret2
    exact ⟨rfl,hb1⟩
  | _=>
    have hV:rdV s=0:=by unfold rdV;rw [hq]
    have hB:rdB s=false:=by unfold rdB;rw [hq]
    rw [hV,hB];obtain ⟨c,t,fr,hc1,te,pe,hc2⟩:=f40 hw (g:=1) rfl;have hcell:w.cell? ⟨1,0,none⟩=some (.iface te pe):=by simp only [World.cell?,hc1];subst hc2;rfl
    have cA:=Tryz.strconv_Atoi_syntax s (by omega) hq _ w hcell (.inr ⟨te,pe,rfl⟩)
    go_enter Tryz.func41,Tryz.ntmps41
    go_wp2_with (go_at_call 103;go_fit cA;rintro e w1 ⟨N,rfl,_,_,hb1⟩)
    go_ret2
    exact ⟨rfl,hb1⟩
theorem c9n (s:ByteArray) (hs:s.size≤1048576):Con Tryz.prog 41 [.str s] [] (.tup [.int .i64 (rdV s),.bool (rdB s)]) []:=
  f1d ⟨_,Tryz.func41,rfl,rfl⟩ (fun w μ=>.tup _ _ [] (.cons _ _ [] _ _ [] (.int _ _) (.cons _ _ [] _ _ [] (.bool _) .nil))) (fun w hw=>f42 s hs w hw)
theorem c8k (s:ByteArray):Con Tryz.prog 145 [.str s,.str ⟨#[32]⟩] [] (.int .i64 (blk s)) []:=
  f45 ⟨_,Tryz.func145,rfl,rfl⟩ (fun w μ=>.int _ _) (fun w=>Tryz.stringslite_Index_one s 32 w)
end
end Go.Proofs.YtmbbjhopngejaaaGreatDoor
