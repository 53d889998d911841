/- What functions compute. No condition. -/
import Derived.Test.YtmbbjhopngejaaaGreatX19
set_option linter.all false
open List renaming set_cons_zero → Za, set_cons_succ → Zb, length_nil → Zc, map_nil → Zd
open ByteArray renaming size_extract → Ze
open Nat renaming add_zero → Zf, add_assoc → Zg
namespace Go.Proofs.YtmbbjhopngejaaaGreat
open Go Go.Vm Tryz
set_option maxHeartbeats 8000000
section
variable (n:Int) (ss:List TS) (fl:List TA) (ins:List TI) (ws:List TW) (hs:ss.length≤1048576) (hl:fl.length≤1048576) (hls:∀t∈fl,t.1.size≤9223372036854775807) (hil:ins.length≤1048576) (hin:∀x∈ins,x.2.2.2.length≤1048576) (his:∀x∈ins,∀s∈x.2.2.2,s.size≤9223372036854775807) (hwl:ws.length≤1048576) (hwn:∀x∈ws,x.2.length≤1048576)
include n ss fl ins ws hs hl hls hil hin his hwl hwn
theorem d5c (hB:(b3g n ss fl ins ws)=true):Con prog 47 [tQ n ss,.agg [.ref 0,.ref 1,.ref 2]] [aQ rQa fl,fQ rQb ins,fQ rQc ws] (.tup [.agg [.ref 0,.ref 1,.ref 2],.bool true]) [aQ rQa fl,fQ rQb ins,fQ rQc ws]:=by
 apply zcn [.cell 4 32,.tmp 5] [] func47 ntmps47;intro _ _ _;have T:=tqa (c2r Y3 Y4 Y9 Y24 Y26 Y28 Y29 Y30 Y32 Y41 Y48 Y81) (tq3 Y96 Y98 b7w);have F:=Fc.mk True.intro;apply yR [2,3,4];apply b0e;intros;apply yRc [3,4,9] (b5n n ss fl ins ws hs hl hls hil hin his hwl hwn);apply b2a _ rfl
 ·intro hc0;exfalso;simp [hB] at hc0
 ·intro hc0;try simp only [zC,reduceCtorEq] at hc0
  apply zn [3,4];apply yR [4,5];apply (zq3);exact rta
theorem f6w (hB:(b3g n ss fl ins ws)=false):Con prog 47 [tQ n ss,.agg [.ref 0,.ref 1,.ref 2]] [aQ rQa fl,fQ rQb ins,fQ rQc ws] (.tup [.agg [.ref 3,.ref 4,.ref 5],.bool false]) [aQ rQa fl,fQ rQb ins,fQ rQc ws,eQ,eQ,eQ]:=by
 apply zcn [.cell 4 32,.tmp 5] [] func47 ntmps47;intro _ _ _;have T:=tqa (c2r Y3 Y4 Y9 Y24 Y26 Y28 Y29 Y30 Y32 Y41 Y48 Y81) (tq3 Y96 Y98 b7w);have F:=Fc.mk True.intro;apply yR [2,3,4];apply b0e;intros;apply yRc [3,4,9] (b5n n ss fl ins ws hs hl hls hil hin his hwl hwn);apply b2a _ rfl
 ·intro hc0;try simp only [zC,reduceCtorEq] at hc0
  apply yR [4,5];apply (zq3);exact rta
 ·intro hc0;exfalso;simp [hB] at hc0
end
set_option maxRecDepth 100000 in
theorem c66 (n:Int) (ss:List TS) (fl:List TA) (ins:List TI) (ws:List TW) (tb:List (Int×Int×Int×Int×Int×Int×List Int)) (node a b c:Int) (htb:tb.length≤1048576) (htbs:∀t∈tb,t.2.2.2.2.2.2.length≤1048576) (hs:ss.length≤1048576) (hl:fl.length≤1048576) (hls:∀t∈fl,t.1.size≤9223372036854775807) (hil:ins.length≤1048576) (hin:∀x∈ins,x.2.2.2.length≤1048576) (his:∀x∈ins,∀s∈x.2.2.2,s.size≤9223372036854775807) (hwl:ws.length≤1048576) (hwn:∀x∈ws,x.2.length≤1048576):Con prog 7 [tQ n ss,sQ rQf tb,kQ fl ins ws,.int .i64 node,.agg [.int .i64 a,.int .i64 b,.int .i64 c]] [] (.tup [.agg [.ref 0,.ref 1,.ref 2],.int .i64 (bif (tkB n ss fl ins ws tb node a b c) then b7o ins else 0),.bool (tkB n ss fl ins ws tb node a b c)]) [aQ rQa (b3r (tkB n ss fl ins ws tb node a b c) (chF n ss fl node (nfL tb a b c))),fQ rQb (b3r (tkB n ss fl ins ws tb node a b c) (tkI n ss fl ins node (nfL tb a b c))),fQ rQc (b3r (tkB n ss fl ins ws tb node a b c) (tkW n ss fl ins ws node (nfL tb a b c)))]:=by
 apply zcn [.cell 10 32,.tmp 11,.tmp 12] [(47,[1])] func7 ntmps7;intro _ _ _;have T:=tqa (c2r Y3 Y4 Y9 Y24 Y26 Y27 Y28 Y29 Y30 Y32 Y34 Y41) (tq6 Y48 Y81 Y93 Y96 Y98 b7w);have F:=Fc.mk True.intro;apply yR [1,3,5,7,9,10];apply yRc [3,5,7,10,13,14] (c10 tb a b c htb htbs);apply b0e;intros;apply d6n [3,5,7,10,13,41] (b5n n ss fl ins ws hs hl hls hil hin his hwl hwn) (f0f n ss node hs);apply b0c _ rfl
 ·intro hc0;have hB:(tkB n ss fl ins ws tb node a b c)=false:=by
   cases hq:(tkB n ss fl ins ws tb node a b c) with
   |false=>rfl
   |true=>
    exfalso;simp only [tkB,Bool.and_eq_true] at hq;have q6:=b5b hq.1.1.1.1;simp [hq.1.1.1.1,hq.1.1.1.2,hq.1.1.2,q6] at hc0
  apply yR [10,11,12];apply (zq3);simp only [aQ,fQ,hB,b3e,Zd,Zc,b5t,cond_false];exact rta
 ·intro hc0;have hq:(b3g n ss fl ins ws)=true∧nfB tb a b c=true∧c1m n node=true:=by
   cases q1:(b3g n ss fl ins ws)<;>cases q2:nfB tb a b c<;>cases q3:c1m n node<;>simp [q1,q2,q3] at hc0⊢
  have hK:=g5d (n:=n) (ss:=ss) (fl:=fl) (ins:=ins) (ws:=ws) (tb:=tb) (node:=node) (a:=a) (b:=b) (c:=c) hq.1 hq.2.1 hq.2.2;have h8:=hK.p.ws8;have hi8:=hK.p.inc.len;have hni:=hK.p.inc;have h12:=hK.p.fl12;have hnd:=hK.need;have hNF:=hK.nf;simp only [hNF,b14];apply zn [3,5,7,10,13];apply yRc [5,7,10,13,15,16,17] (d4l ins node hni hil hin ⟨hK.nd.1,by have:=hK.nd.2;have:=hK.nn;omega⟩ his);apply b0e;intros;apply yR [5,7,10,13,15,16,52];apply b0c _ rfl
  ·intro hc1;have hB:(tkB n ss fl ins ws tb node a b c)=false:=by
    have q:opB ins=false:=by simpa using hc1
    rw [tkB,q];simp
   apply yR [10,11,12];apply (zq3);simp only [aQ,fQ,hB,b3e,Zd,Zc,b5t,cond_false];exact rta
  ·intro hc1;have ho:opB ins=true:=by
    cases q:opB ins<;>simp [q] at hc1⊢
   obtain ⟨hSx,hkp,hck⟩:SendOK n ss fl (ins++[b9q ins node]) ins.length (b7o ins,node,false,[]) (nfL tb a b c)∧CtlProp n ss (chF n ss fl node (nfL tb a b c)) (tkI n ss fl ins node (nfL tb a b c)) ws∧b3g n ss (chF n ss fl node (nfL tb a b c)) (tkI n ss fl ins node (nfL tb a b c)) (tkW n ss fl ins ws node (nfL tb a b c))=(tkZ n ss fl node (nfL tb a b c) || decide (ws.length < 8)):=⟨g36 hK.p hK.nd hK.nn ho hnd,d75 hK.p hK.nd hK.nn ho hnd,c8q hK.p hK.nd hK.nn ho hnd⟩;have hBZ:(tkB n ss fl ins ws tb node a b c)=(tkZ n ss fl node (nfL tb a b c) || decide (ws.length < 8)):=by rw [tkB,hq.1,hq.2.1,hq.2.2,ho];rfl
   have hjl:(ins++[b9q ins node]).length=ins.length+1:=by rw [qln,ql1]
   have hjs:=c2g ins (b9q ins node);have hti:(tkI n ss fl ins node (nfL tb a b c))=b4i ins.length (ins++[b9q ins node]) (chN n ss fl node (nfL tb a b c)):=rfl;have htl:(tkI n ss fl ins node (nfL tb a b c)).length=ins.length+1:=f8k;have hcl:=b5z (n:=n) (ss:=ss) (fl:=fl) (node:=node) hnd;have hin2:∀x∈ins++[b9q ins node],x.2.2.2.length≤1048576:=d1u hin (qle _);simp only [ho,b14,cond_true];generalize hjn:ins++[b9q ins node]=jn at hSx hjl hjs hti hin2⊢;have hlm:(jn.length:Int) - 1=(ins.length:Int):=by omega
   obtain ⟨hl2,hls2,hil2,hin3,his3⟩:=f5c hkp;obtain ⟨hwl3,hwn3⟩:=g16 (n:=n) (ss:=ss) (fl:=fl) (ins:=ins) (node:=node) h8 hwn hnd;apply zn [5,7,10,13,15,16];have F:=Fc.mk hlm;apply yRc [5,10,13,15,16,18] (b91 fl ins ws hl hil hin hwl hwn);apply yR [5,10,13,15,16,18];apply yRc [5,10,16,18,20] (c2l n ss fl jn ws ins.length (b7o ins) node false [] (nfL tb a b c) hSx hwl hwn);apply b0e;intro _ n15 _ _;apply yRc [5,10,16,18,20,71] (c5f (chL n ss fl node (nfL tb a b c)) 0 0 (by omega));apply b0c _ rfl
   ·intro hc2;have hz:tkZ n ss fl node (nfL tb a b c)=false:=by
     rw [tkZ];first | exact hc2 | simpa using hc2 | simpa [inR] using hc2
    have hW:=g4q (ins:=ins) (ws:=ws) hz;have hsn:ws.map rQc++[V.agg [V.int .i64 (b7o ins),V.sl ((chL n ss fl node (nfL tb a b c)).map (V.int .i64))]]=(ws++[(b7o ins,chL n ss fl node (nfL tb a b c))]).map rQc:=by simp only [aQ,fQ,List.map_append];try rfl
    have hwl2:(ws++[(b7o ins,chL n ss fl node (nfL tb a b c))]).length=ws.length+1:=by rw [qln,ql1]
    rcases qmk ws.length 8 with h9 | h9
    ·skip;have hB:(tkB n ss fl ins ws tb node a b c)=true:=by rw [hBZ,hz,decide_eq_true (show ws.length < 8 by omega)];rfl
     have hif:=d5c n ss (chF n ss fl node (nfL tb a b c)) (tkI n ss fl ins node (nfL tb a b c)) (tkW n ss fl ins ws node (nfL tb a b c)) hs hl2 hls2 hil2 hin3 his3 hwl3 hwn3 (by rw [hck,hz,decide_eq_true h9];rfl);simp only [hW] at hif;have F:=Fc.mk hlm;apply (yV);apply n15
     ·apply b0m (b0a [5,10,16,18] _);simp only [b0r,b0k,b0i,b0f,b0n,Nat.reduceEqDiff,reduceIte];first | (rw [hsn,←hwl2,←hti,hjl,←htl];exact b2o _ _) | (rw [←hti,hjl,←htl];exact b2o _ _)
     try simp only [b04,b09,Nat.reduceEqDiff,reduceIte,Za,Zb]
     apply yR3 [10,16,18,21] (hif);apply b0e;intros;apply yR [10,16,18,87];apply b2a _ rfl
     ·intro hc3;exfalso;simp at hc3
     ·intro hc3;try simp only [zC,reduceCtorEq] at hc3
      apply zn [10,16,18];apply yR [10,11,12];apply (zq3);simp only [hB,b14,cond_true,hW];exact rta
    ·skip;have hB:(tkB n ss fl ins ws tb node a b c)=false:=by rw [hBZ,hz,decide_eq_false (by omega)];rfl
     have hif:=f6w n ss (chF n ss fl node (nfL tb a b c)) (tkI n ss fl ins node (nfL tb a b c)) (tkW n ss fl ins ws node (nfL tb a b c)) hs hl2 hls2 hil2 hin3 his3 hwl3 hwn3 (by rw [hck,hz,decide_eq_false (by omega)];rfl);simp only [hW] at hif;have F:=Fc.mk hlm;apply (yV);apply n15
     ·apply b0m (b0a [5,10,16,18] _);simp only [b0r,b0k,b0i,b0f,b0n,Nat.reduceEqDiff,reduceIte];first | (rw [hsn,←hwl2,←hti,hjl,←htl];exact b2o _ _) | (rw [←hti,hjl,←htl];exact b2o _ _)
     try simp only [b04,b09,Nat.reduceEqDiff,reduceIte,Za,Zb]
     apply yR3 [10,16,18,21] (hif);apply b0e;intros;apply yR [10,16,18,87];apply b2a _ rfl
     ·intro hc3;try simp only [zC,reduceCtorEq] at hc3
      apply yR [10,11,12];apply (zq3);simp only [aQ,fQ,hB,b3e,Zd,Zc,b5t,cond_false];exact rta
     ·intro hc3;exfalso;simp at hc3
   ·intro hc2;have hz:tkZ n ss fl node (nfL tb a b c)=true:=by
     rw [tkZ];first | exact hc2 | simpa using hc2 | simpa [inR] using hc2
    have hW:=f6y (ins:=ins) (ws:=ws) hz;have hB:(tkB n ss fl ins ws tb node a b c)=true:=by rw [hBZ,hz];rfl
    have hif:=d5c n ss (chF n ss fl node (nfL tb a b c)) (tkI n ss fl ins node (nfL tb a b c)) (tkW n ss fl ins ws node (nfL tb a b c)) hs hl2 hls2 hil2 hin3 his3 hwl3 hwn3 (by rw [hck,hz];rfl);simp only [hW] at hif;apply b6m;apply n15
    ·apply b0m (b0a [5,10,16,18] _);simp only [b0r,b0k,b0i,b0f,b0n,Nat.reduceEqDiff,reduceIte];first | (rw [hsn,←hwl2,←hti,hjl,←htl];exact b2o _ _) | (rw [←hti,hjl,←htl];exact b2o _ _)
    try simp only [b04,b09,Nat.reduceEqDiff,reduceIte,Za,Zb]
    apply yR3 [10,16,18,21] (hif);apply b0e;intros;apply yR [10,16,18,87];apply b2a _ rfl
    ·intro hc4;exfalso;simp at hc4
    ·intro hc4;try simp only [zC,reduceCtorEq] at hc4
     apply zn [10,16,18];apply yR [10,11,12];apply (zq3);simp only [hB,b14,cond_true,hW];exact rta
set_option maxRecDepth 100000 in
theorem d47 (n:Int) (ss:List TS) (fl:List TA) (ins:List TI) (ws:List TW) (tb:List (Int×Int×Int×Int×Int×Int×List Int)) (node a b c:Int) (htb:tb.length≤1048576) (htbs:∀t∈tb,t.2.2.2.2.2.2.length≤1048576) (hs:ss.length≤1048576) (hl:fl.length≤1048576) (hls:∀t∈fl,t.1.size≤9223372036854775807) (hil:ins.length≤1048576) (hin:∀x∈ins,x.2.2.2.length≤1048576) (his:∀x∈ins,∀s∈x.2.2.2,s.size≤9223372036854775807) (hwl:ws.length≤1048576) (hwn:∀x∈ws,x.2.length≤1048576):Con prog 6 [tQ n ss,sQ rQf tb,kQ fl ins ws,.int .i64 node,.agg [.int .i64 a,.int .i64 b,.int .i64 c]] [] (.tup [.agg [.ref 0,.ref 1,.ref 2],.int .i64 (bif (tkB n ss fl ins ws tb node a b c) then b7o ins else 0),.bool (tkB n ss fl ins ws tb node a b c)]) [aQ rQa (b3r (tkB n ss fl ins ws tb node a b c) (chF n ss fl node (nfL tb a b c))),fQ rQb (b3r (tkB n ss fl ins ws tb node a b c) (tkI n ss fl ins node (nfL tb a b c))),fQ rQc (b3r (tkB n ss fl ins ws tb node a b c) (tkW n ss fl ins ws node (nfL tb a b c)))]:=by
 apply zcn [.cell 10 32,.tmp 11,.tmp 12] [(39,[0])] func6 ntmps6;intro _ _ _;have T:=tqa (c2r Y3 Y4 Y9 Y24 Y26 Y27 Y28 Y29 Y30 Y32 Y34 Y41) (tq8 Y48 Y69 Y72 Y81 Y93 Y96 Y98 b7w);have F:=Fc.mk True.intro;apply yR [1,3,5,7,9,10];apply b0e;intros;apply b1l [1,3,5,7,9,10,41];intro _ k3;apply zc (b45 n ss hs);apply (zq2);apply (zgU);apply zgc (d8b tb htb htbs);apply (f1j);apply (zU);apply zgc (b4z n ss fl ins ws hs hl hls hil hin his hwl hwn);apply (g4j);apply zgc (c4n n ss node);apply (f1j);apply (zU);apply (c0e);apply zgc (f1q a b c);apply (f1j);apply k3 _;apply (zk);apply b0c _ rfl
 ·intro hc0;have hB:(tkB n ss fl ins ws tb node a b c)=false:=by
   cases hq:(tkB n ss fl ins ws tb node a b c) with
   |false=>rfl
   |true=>
    exfalso;simp only [tkB,Bool.and_eq_true] at hq;have q6:=b5b hq.1.1.1.1;rw [nfB,qlg,qlg] at hq;simp [hq.1.1.1.1,hq.1.1.1.2.1.1,hq.1.1.1.2.1.2,hq.1.1.2,q6] at hc0
  apply yR [10,11,12];apply (zq3);simp only [aQ,fQ,hB,b3e,Zd,Zc,b5t,cond_false];exact rta
 ·intro hc0;have hg:(b3g n ss fl ins ws)=true∧c04 tb=true∧d4n a b c=true∧c1m n node=true:=by
   cases q1:(b3g n ss fl ins ws)<;>cases q2:c04 tb<;>cases q3:d4n a b c<;>cases q4:c1m n node<;>simp [q1,q2,q3,q4] at hc0⊢
  have hp0:=(b36 n ss fl ins ws).1 hg.1;have hni:=hp0.inc;apply zn [1,3,5,7,9,10];apply yRc [3,5,7,10,13,14] (c9g tb a b c htb htbs);apply yRc [5,7,10,13,14,15,16,17] (d4y ins node hni hil hin);apply b0e;intros;apply yR [5,7,10,13,15,16,62];apply b0c _ rfl
  ·intro hc1;have hB:(tkB n ss fl ins ws tb node a b c)=false:=by
    rw [tkB,nfB]
    by_cases q1:0≤d29 tb a b c
    ·cases q2:opB ins with
     |false=>simp
     |true=>exfalso;first | (simp [q1,q2] at hc1;done) | (simp [q2] at hc1;omega)
    ·rw [decide_eq_false q1];simp
   apply yR [10,11,12];apply (zq3);simp only [aQ,fQ,hB,b3e,Zd,Zc,b5t,cond_false];exact rta
  ·intro hc1;have hw2:decide (0≤d29 tb a b c)=true∧opB ins=true:=by
    by_cases q1:0≤d29 tb a b c
    ·cases q2:opB ins with
     |false=>exfalso;first | (simp [q1,q2] at hc1;done) | (simp [q2] at hc1;omega)
     |true=>exact ⟨decide_eq_true q1,rfl⟩
    ·exfalso;first | (simp [q1] at hc1;done) | (simp at hc1;omega)
   have hnf2:nfB tb a b c=true:=by rw [nfB,hg.2.1,hg.2.2.1,hw2.1];rfl
   have hq:(b3g n ss fl ins ws)=true∧nfB tb a b c=true∧c1m n node=true:=by
    exact ⟨hg.1,hnf2,hg.2.2.2⟩
   have hK:=g5d (n:=n) (ss:=ss) (fl:=fl) (ins:=ins) (ws:=ws) (tb:=tb) (node:=node) (a:=a) (b:=b) (c:=c) hq.1 hq.2.1 hq.2.2;have h8:=hK.p.ws8;have hi8:=hK.p.inc.len;have h12:=hK.p.fl12;have hnd:=hK.need;have hNF:=hK.nf;simp only [hw2.1,b14];have ho:opB ins=true:=by
    exact hw2.2
   obtain ⟨hSx,hkp,hck⟩:SendOK n ss fl (ins++[b9q ins node]) ins.length (b7o ins,node,false,[]) (nfL tb a b c)∧CtlProp n ss (chF n ss fl node (nfL tb a b c)) (tkI n ss fl ins node (nfL tb a b c)) ws∧b3g n ss (chF n ss fl node (nfL tb a b c)) (tkI n ss fl ins node (nfL tb a b c)) (tkW n ss fl ins ws node (nfL tb a b c))=(tkZ n ss fl node (nfL tb a b c) || decide (ws.length < 8)):=⟨g36 hK.p hK.nd hK.nn ho hnd,d75 hK.p hK.nd hK.nn ho hnd,c8q hK.p hK.nd hK.nn ho hnd⟩;have hBZ:(tkB n ss fl ins ws tb node a b c)=(tkZ n ss fl node (nfL tb a b c) || decide (ws.length < 8)):=by rw [tkB,hq.1,hq.2.1,hq.2.2,ho];rfl
   have hjl:(ins++[b9q ins node]).length=ins.length+1:=by rw [qln,ql1]
   have hjs:=c2g ins (b9q ins node);have hti:(tkI n ss fl ins node (nfL tb a b c))=b4i ins.length (ins++[b9q ins node]) (chN n ss fl node (nfL tb a b c)):=rfl;have htl:(tkI n ss fl ins node (nfL tb a b c)).length=ins.length+1:=f8k;have hcl:=b5z (n:=n) (ss:=ss) (fl:=fl) (node:=node) hnd;have hin2:∀x∈ins++[b9q ins node],x.2.2.2.length≤1048576:=d1u hin (qle _);simp only [ho,b14,cond_true];generalize hjn:ins++[b9q ins node]=jn at hSx hjl hjs hti hin2⊢;have hlm:(jn.length:Int) - 1=(ins.length:Int):=by omega
   obtain ⟨z,zl,hz2⟩:∃z zl,chL n ss fl node (nfL tb a b c)=z::zl:=by
    cases hc:chL n ss fl node (nfL tb a b c) with
    |nil=>rw [hc] at hcl;cases hcl.1
    |cons z zl=>exact ⟨z,zl,rfl⟩
   have hn4c:=c8h hcl;have hmp:0 < b9o zl z↔(chL n ss fl node (nfL tb a b c)).all (fun x:Int=>inR x 0 0)=false:=by rw [hz2] at hn4c⊢;exact f4r hn4c
   have hzl:(z::zl).length≤1048576:=by rw [←hz2];omega
   apply zn [5,7,10,13,15,16];have F:=Fc.mk hlm;apply yRc [5,10,13,15,16,18] (c1i fl ins ws hl hil hin hwl hwn);apply yR [5,10,13,15,16,18];apply b0e;intro _ n14 _ _;apply b2u;intro _ k15;apply (g5s);apply (b46);apply (zU);apply b5y;intro K k;simp only [zE,zM,b0x,b0s,b0j,Nat.reduceEqDiff,reduceIte,Nat.reduceLT,implies_true,forall_const,reduceCtorEq,V.ofValue,V.ofScalar,V.un,V.gd,b1c,b3x,b4q,‹Tys _›.h,‹Fc _›.h];repeat (refine d43 ?_)
   refine c7d 15 (d1b 15 9 8 11 _ _ _ (b1w _) (b1w _) rfl rfl rfl rfl (c0r _) (c0r _) (by decide) (by decide) (by decide) (by decide) (by decide) (by decide)) (f3m n ss fl jn ins.length (b7o ins) node false [] (nfL tb a b c) hSx ws) rfl rfl ⟨rfl,by simp⟩ (.inl rfl) ⟨rfl,by simp [Blk.kindIs,b4c]⟩ ?_;apply k _;clear k K;simp only [zY,zW,b0j,Nat.reduceEqDiff,reduceIte,c0j,d2m,V.ren,V.renL,Za,Zb,rho,List.length_set,Nat.reduceAdd,Zf];apply (zq8);apply (b2h);apply (b2h);apply k15 _;apply n14
   ·apply b0m (b0a [10,16,18,20] _);simp only [b0r,b0k,b0i,b0f,b0n,Nat.reduceEqDiff,reduceIte];exact b0m (d4o 15 ((chF n ss fl node (nfL tb a b c)).map rQa) ((b4i ins.length jn (chN n ss fl node (nfL tb a b c))).map rQe) (ws.map rQc) (b1w (b4i ins.length jn (chN n ss fl node (nfL tb a b c))).length) (b1w ws.length) rfl d81 d21 d3o d21 d3o rfl) (d8f 19 (b4i ins.length jn (chN n ss fl node (nfL tb a b c))) _ rfl)
   try simp only [b04,b09,Nat.reduceEqDiff,reduceIte,Za,Zb]
   apply b0e;intro _ n16 _ _;apply yRc [10,16,18,20,77] (f4t hz2 (c40 z zl hzl));apply b0c _ rfl
   ·intro hc2;have hz:tkZ n ss fl node (nfL tb a b c)=false:=by
     cases q:tkZ n ss fl node (nfL tb a b c) with
     |false=>rfl
     |true=>exfalso;rw [tkZ] at q;have hq9:=hmp;rw [q] at hq9;simp at hc2 hq9;omega
    have hW:=g4q (ins:=ins) (ws:=ws) hz;have hsn:ws.map rQc++[V.agg [V.int .i64 (b7o ins),V.sl ((chL n ss fl node (nfL tb a b c)).map (V.int .i64))]]=(ws++[(b7o ins,chL n ss fl node (nfL tb a b c))]).map rQc:=by simp only [aQ,fQ,List.map_append];try rfl
    have hwl2:(ws++[(b7o ins,chL n ss fl node (nfL tb a b c))]).length=ws.length+1:=by rw [qln,ql1]
    apply b0e;intros;apply yR [10,16,18,20,81];apply b0c _ rfl
    ·intro hc3;have hB:(tkB n ss fl ins ws tb node a b c)=false:=by rw [hBZ,hz,decide_eq_false (by simp at hc3;omega)];rfl
     apply yR [10,11,12];apply (zq3);simp only [aQ,fQ,hB,b3e,Zd,Zc,b5t,cond_false];exact rta
    ·intro hc3;have hB:(tkB n ss fl ins ws tb node a b c)=true:=by rw [hBZ,hz,decide_eq_true (show ws.length < 8 by simp at hc3;omega)];rfl
     apply zn [10,16,18,20];apply (yV);apply n16
     ·apply b0m (b0a [10,16,18] _);simp only [b0r,b0k,b0i,b0f,b0n,Nat.reduceEqDiff,reduceIte];first | (rw [hsn,←hwl2,←hti];exact b2o _ _) | (rw [←hti];exact b2o _ _)
     try simp only [b04,b09,Nat.reduceEqDiff,reduceIte,Za,Zb]
     apply yR [10,11,12];apply (zq3);simp only [hB,b14,cond_true,hW];exact rta
   ·intro hc2;have hz:tkZ n ss fl node (nfL tb a b c)=true:=by
     cases q:tkZ n ss fl node (nfL tb a b c) with
     |true=>rfl
     |false=>exfalso;rw [tkZ] at q;have hq9:=hmp;rw [q] at hq9;simp at hc2 hq9;omega
    have hW:=f6y (ins:=ins) (ws:=ws) hz;have hB:(tkB n ss fl ins ws tb node a b c)=true:=by rw [hBZ,hz];rfl
    apply b6m;apply n16
    ·apply b0m (b0a [10,16,18] _);simp only [b0r,b0k,b0i,b0f,b0n,Nat.reduceEqDiff,reduceIte];first | (rw [hsn,←hwl2,←hti];exact b2o _ _) | (rw [←hti];exact b2o _ _)
    try simp only [b04,b09,Nat.reduceEqDiff,reduceIte,Za,Zb]
    apply yR [10,11,12];apply (zq3);simp only [hB,b14,cond_true,hW];exact rta
def g0r (n:Int):ByteArray:=⟨(Lib.itoa n).toArray⟩
def rdB (s:ByteArray):Bool:=match Lib.atoiAll s.data.toList with
  | .ok v=>decide (g0r v=s)
  | _=>false
def blk (s:ByteArray):Int:=Lib.indexByte s.data.toList 32
def d05 (s:ByteArray):ByteArray:=if 0≤blk s then s.extract 0 (blk s).toNat else s
def c2h (s:ByteArray):ByteArray:=if 0≤blk s then s.extract ((blk s).toNat+1) s.size else ⟨#[]⟩
theorem d5g {s:ByteArray} {k:Nat} {c:UInt8} (h:s.data.toList[k]? =some c):b2q s k=(c.toNat:Int):=by
  unfold b2q;rw [qlo,h];rfl
theorem d1i {s:ByteArray} {k:Nat} (hk:k < s.size):∃c:UInt8,s.data.toList[k]? =some c∧b2q s k=(c.toNat:Int):=by
  have hl:k < s.data.toList.length:=by rw [Array.length_toList];exact hk
  exact ⟨_,qla hl,d5g (qla hl)⟩
theorem d5y {s:ByteArray} {k:Nat} (hk:k < s.size) (h:s.data.toList[k]?≠some 32):b2q s k≠32:=by
  obtain ⟨c,h1,h2⟩:=d1i hk;intro e;rw [h2] at e;have h3:c.toNat=(32:UInt8).toNat:=by show c.toNat=32;omega
  rw [UInt8.toNat_inj.1 h3] at h1;exact h h1
theorem g4t (s:ByteArray):(blk s=-1∧∀k,k < s.size→b2q s k≠32)∨∃p:Nat,blk s=(p:Int)∧p < s.size∧b2q s p=32∧∀k,k < p→b2q s k≠32:=by
  have h0:=Lib.indexByte_ge s.data.toList 32;rcases Int.lt_or_le (blk s) 0 with h | h
  · left
    have h1:blk s=-1:=by unfold blk at h⊢;omega
    exact ⟨h1,fun k hk=>d5y hk (Lib.indexByte_none h1 k)⟩
  · right
    obtain ⟨p,hp⟩:=qlw h;obtain ⟨h1,h2⟩:=Lib.indexByte_some (l:=s.data.toList) (c:=32) (o:=p) hp;have hlt:p < s.size:=by
      have:=(qlc.1 h1).1
      rwa [Array.length_toList] at this
    exact ⟨p,hp,hlt,d5g h1,fun k hk=>d5y (by omega) (h2 k hk)⟩
theorem c2k {s:ByteArray}:∀i,(∀k,k < i→b2q s k≠32)→b2z s 32 i=([],0)
  | 0,_=>rfl
  | i+1,h=>by rw [b2z,if_neg (h i (by omega))];exact c2k i fun k hk=>h k (by omega)
theorem d6e {s:ByteArray} {p:Nat} (hp:b2q s p=32) (h0:∀k,k < p→b2q s k≠32):∀d,(∀k,p < k→k < p+1+d→b2q s k≠32)→b2z s 32 (p+1+d)=([s.extract 0 p],p+1)
  | 0,_=>by rw [Zf,b2z,if_pos hp,c2k p h0];rfl
  | d+1,h=>by
    rw [←Zg,b2z,if_neg (h (p+1+d) (by omega) (by omega))];exact d6e hp h0 d fun k h1 h2=>h k h1 (by omega)
theorem d0e {s:ByteArray} {p:Nat} (hp:b2q s p=32) (h0:∀k,k < p→b2q s k≠32):∀d,1≤(b2z s 32 (p+1+d)).1.length
  | 0=>by rw [Zf,b2z,if_pos hp,c2k p h0];exact qly _
  | d+1=>by
    rw [←Zg,b2z];split
    · rw [qln];have:=d0e hp h0 d;omega
    · exact d0e hp h0 d
theorem c84 {s:ByteArray} {p q:Nat} (hp:b2q s p=32) (h0:∀k,k < p→b2q s k≠32) (hq:p < q) (hb:b2q s q=32):∀d,2≤(b2z s 32 (q+1+d)).1.length
  | 0=>by
    obtain ⟨e,rfl⟩:∃e,q=p+1+e:=⟨q - (p+1),by omega⟩;rw [Zf,b2z,if_pos hb,qln];have:=d0e hp h0 e;simp only [List.length_singleton];omega
  | d+1=>by
    rw [←Zg,b2z];split
    · rw [qln];have:=c84 hp h0 hq hb d;omega
    · exact c84 hp h0 hq hb d
def c6i (s:ByteArray):List ByteArray:=(b2z s 32 s.size).1++[s.extract (b2z s 32 s.size).2 s.size]
theorem c7f {s:ByteArray} {a k:Nat} (h:a+k < s.size):b2q (s.extract a s.size) k=b2q s (a+k):=by
  unfold b2q;rw [ByteArray.data_extract,Array.toList_extract,qlo,qlo,List.extract_eq_take_drop,List.getElem?_take,if_pos (by omega),qmt]
theorem d2a (s:ByteArray) (a:Nat):(s.extract a s.size).size=s.size - a:=by rw [Ze,Nat.min_self]
theorem d1g (s:ByteArray):((c6i s).length=1∧c2h s=⟨#[]⟩)∨(c6i s=[d05 s,c2h s]∧∀k,k < (c2h s).size→b2q (c2h s) k≠32)∨(3≤(c6i s).length∧∃k,k < (c2h s).size∧b2q (c2h s) k=32):=by
  rcases g4t s with ⟨h1,h2⟩ | ⟨p,h1,h2,h3,h4⟩
  · left
    refine ⟨?_,by rw [c2h,if_neg (by omega)]⟩;rw [c6i,c2k _ h2];rfl
  · have hA:d05 s=s.extract 0 p:=by rw [d05,if_pos (by omega),h1,qlh]
    have hB:c2h s=s.extract (p+1) s.size:=by rw [c2h,if_pos (by omega),h1,qlh]
    right
    by_cases h5:∀k,p < k→k < s.size→b2q s k≠32
    · left
      obtain ⟨d,hd⟩:∃d,s.size=p+1+d:=⟨s.size - (p+1),by omega⟩;have hs:=d6e h3 h4 d (by rw [←hd];exact h5);rw [←hd] at hs;refine ⟨by rw [c6i,hs,hA,hB];rfl,fun k hk=> ?_⟩;rw [hB,d2a] at hk;rw [hB,c7f (by omega)];exact h5 _ (by omega) (by omega)
    · right
      have h6:∃q,p < q∧q < s.size∧b2q s q=32:=by
        apply Classical.byContradiction;intro hn;exact h5 fun k h7 h8 h9=>hn ⟨k,h7,h8,h9⟩
      obtain ⟨q,q1,q2,q3⟩:=h6;obtain ⟨d,hd⟩:∃d,s.size=q+1+d:=⟨s.size - (q+1),by omega⟩;refine ⟨?_,q - (p+1),by rw [hB,d2a];omega,?_⟩
      · have:=c84 h3 h4 q1 q3 d
        rw [←hd] at this;rw [c6i,qln,ql1];omega
      · rw [hB,c7f (by omega),show p+1+(q - (p+1))=q by omega];exact q3
def c7s (s:ByteArray) (k:Nat):Bool:=decide (48≤b2q s k) && decide (b2q s k≤57)
def f9h (s:ByteArray):Nat→Int
  | 0=>0
  | i+1=>10 * f9h s i+(b2q s i - 48)
def rdH (s:ByteArray):Bool:=(decide (1≤s.size) && decide (s.size≤6)) && !(decide (b2q s 0=48) && decide (1 < s.size))
def rdN (s:ByteArray):Int:=if rdH s=true∧∀k,k < s.size→c7s s k=true then f9h s s.size else -1
theorem f8q {s:ByteArray} {k:Nat} (h:c7s s k=true):48≤b2q s k∧b2q s k≤57:=by simpa [c7s] using h
theorem d07 {s:ByteArray}:∀i,(∀k,k < i→c7s s k=true)→0≤f9h s i∧f9h s i < 10 ^ i
  | 0,_=>⟨Int.le_refl _,Int.lt_succ 0⟩
  | i+1,h=>by
    have h1:=d07 i fun k hk=>h k (by omega)
    have h2:=f8q (h i (by omega));rw [f9h,Int.pow_succ];omega
theorem g5t {i:Nat} (h:i≤5):(10:Int) ^ i≤100000:=by
  have:i=0∨i=1∨i=2∨i=3∨i=4∨i=5:=by omega
  rcases this with rfl | rfl | rfl | rfl | rfl | rfl<;>decide
theorem f0j (s:ByteArray) (i:Nat):0≤b2q s i∧b2q s i≤255:=by
  unfold b2q;have:=(s.data.toList.getD i 0).toNat_lt;omega
theorem f7z {s:ByteArray} {i:Nat} (h:∀k,k < i→c7s s k=true) (hi:c7s s i=true):∀k,k < i+1→c7s s k=true:=fun k hk=>by
  rcases Nat.lt_succ_iff_lt_or_eq.1 hk with q | q
  · exact h k q
  · subst q;exact hi
theorem g0n (s:ByteArray) (h:s.size≤1048576):(d05 s).size≤1048576∧(c2h s).size≤1048576:=by
  constructor
  · rw [d05];split
    · rw [Ze];omega
    · exact h
  · rw [c2h];split
    · rw [Ze];omega
    · exact qle _
theorem d6h:∀(k n:Nat),n < k→∀b∈Lib.decDigits n,48≤b.toNat∧b.toNat≤57
  | 0,n,h=>by omega
  | k + 1,n,h=>by
    intro b hb;rw [Lib.decDigits] at hb;split at hb
    · rename_i q
      rw [qlm] at hb;subst hb;rw [UInt8.toNat_ofNat',Nat.mod_eq_of_lt (by omega)];omega
    · rename_i q
      rcases qll.1 hb with e | e
      · exact d6h k (n / 10) (by omega) b e
      · rw [qlm] at e;subst e
        have:=Nat.mod_lt n (show 10 > 0 by decide);rw [UInt8.toNat_ofNat',Nat.mod_eq_of_lt (by omega)];omega
theorem f2s (v:Int):∀b∈Lib.itoa v,b.toNat≠32:=by
  intro b hb;unfold Lib.itoa at hb;split at hb
  · rcases qlv.1 hb with e | e
    · subst e;decide
    · have:=d6h _ _ (Nat.lt_succ_self _) b e;omega
  · have:=d6h _ _ (Nat.lt_succ_self _) b hb;omega
theorem f8d {s:ByteArray} {k:Nat} (hk:k < s.size) (h:b2q s k=32):rdB s=false∧s≠⟨#[97,116]⟩:=by
  refine ⟨?_,?_⟩
  · unfold rdB
    cases hq:Lib.atoiAll s.data.toList with
    | ok v=>
      apply decide_eq_false;intro e;obtain ⟨c,h1,h2⟩:=d1i hk;rw [←e] at h1;have hm:c∈Lib.itoa v:=by simpa [g0r] using qlb h1
      exact f2s v c hm (by omega)
    | range=>rfl
    | _=>rfl
  · intro e;subst e
    have:k=0∨k=1:=by have:k < 2:=hk;omega
    rcases this with rfl | rfl<;>exact absurd h (by decide)
theorem f7y:rdB ⟨#[]⟩=false∧(⟨#[]⟩:ByteArray)≠⟨#[97,116]⟩:=⟨rfl,by intro e;have:=congrArg ByteArray.size e;cases this⟩
def c1s (fl:List TA) (s:ByteArray):Bool:=decide ((c6i s).length=2) && (if c2h s=(⟨#[97,116]⟩:ByteArray) then d23 fl (d05 s) else inR (rdN (c2h s)) 0 5 && d8g fl (d05 s) (rdN (c2h s)))
def d9q (fl:List TA) (ins:List TI) (s:ByteArray):List TA:=if c2h s=(⟨#[97,116]⟩:ByteArray) then g0h fl ins (d05 s) else f9i fl (d05 s) (rdN (c2h s))
def g3a (ins:List TI) (s:ByteArray):List TI:=if c2h s=(⟨#[97,116]⟩:ByteArray) then ins else g5e ins (d05 s) (rdN (c2h s))
theorem g5w {s:ByteArray} (h:c2h s=(⟨#[97,116]⟩:ByteArray)):c6i s=[d05 s,c2h s]:=by
  rcases d1g s with ⟨_,h2⟩ | ⟨h1,_⟩ | ⟨_,k,h2,h3⟩
  · rw [h] at h2;exact absurd h2.symm f7y.2
  · exact h1
  · exact absurd h (f8d h2 h3).2
theorem f6j {fl:List TA} {s:ByteArray} (h:c2h s=(⟨#[97,116]⟩:ByteArray)):c1s fl s=d23 fl (d05 s):=by rw [c1s,g5w h,if_pos h];rfl
theorem f3k {n:Int} {ss:List TS} {fl:List TA} {ins:List TI} {ws:List TW} {s:ByteArray} (hB:b3g n ss fl ins ws=true) (h:c1s fl s=true):b3g n ss (d9q fl ins s) (g3a ins s) ws=true:=by
  rw [c1s,qlg] at h;have h2:=h.2
  by_cases e:c2h s=(⟨#[97,116]⟩:ByteArray)
  · rw [if_pos e] at h2
    rw [d9q,g3a,if_pos e,if_pos e];exact f7u hB h2
  · rw [if_neg e,qlg] at h2
    rw [d9q,g3a,if_neg e,if_neg e];exact g49 hB h2.2
end Go.Proofs.YtmbbjhopngejaaaGreat
