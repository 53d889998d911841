/- What functions compute. No condition. -/
import Derived.Test.YtmbbjhopngejaaaGreatX27
import Derived.Test.YtmbbjhopngejaaaGreatX29
import Derived.Test.YtmbbjhopngejaaaGreatX28
import Derived.Test.YtmbbjhopngejaaaGreatX14
set_option linter.all false
namespace Go.Proofs.YtmbbjhopngejaaaGreat
open Go Go.Vm
set_option maxHeartbeats 8000000
set_option maxRecDepth 8000 in
theorem c2w (c1 c2:List Int) (hc1:∀x∈c1,0≤x∧x≤255) (hc2:∀x∈c2,0≤x∧x≤255) (hn1:c1.length≤9223372036854775807) (hn2:c2.length≤9223372036854775807):Con Tryz.prog 3 [.sl (c1.map (V.int .u8)),.sl (c2.map (V.int .u8))] [] (.bool true) []:=by
 apply zcn [.tmp 4] [] Tryz.func3 Tryz.ntmps3;intro _ _ _;have T:=tqa (c2r Y3 Y4 Y5 Y9 Y22 Y24 Y26 Y27 Y28 Y29 Y30 Y32) (tq8 Y34 Y41 Y48 Y81 Y93 Y96 Y98 b7w);have F:=Fc.mk True.intro;apply yR [0,1];apply b0e;intro _ _ e2 _;apply yRc [0,1,71] (f9q c1 c2 hn1 hn2);apply b0c _ rfl
 ·intro hc0;apply yR [4];apply (zr);exact b0h rfl (by first | rfl | simp) (by first | exact .inl rfl | exact .inr rfl)
 ·intro hc0;apply zn [0,1];apply b1l [1,5,6,7,8,9];intro _ k6;apply (zU);apply zxn (c76 c1 hc1 hn1);rintro _ _ ⟨n,ss,fl,ins,ws,tb,nd,e1,e2,e3,⟨⟨hss,hQ⟩,htl,htq⟩,rfl,rfl⟩;apply (zEn);have z:=SzC.of hQ;have hall:=g0z (n:=n) (ss:=ss) (fl:=fl) (ins:=ins) (ws:=ws) (tb:=tb) (node:=nd) (a:=e1) (b:=e2) (c:=e3);obtain ⟨b,hb⟩:∃b,tkB n ss fl ins ws tb nd e1 e2 e3=b:=⟨_,rfl⟩;obtain ⟨N4,hN4⟩:∃x,nfL tb e1 e2 e3=x:=⟨_,rfl⟩;obtain ⟨f1,hf1⟩:∃x,chF n ss fl nd N4=x:=⟨_,rfl⟩;obtain ⟨i1,hi1⟩:∃x,tkI n ss fl ins nd N4=x:=⟨_,rfl⟩;obtain ⟨w1,hw1⟩:∃x,tkW n ss fl ins ws nd N4=x:=⟨_,rfl⟩;obtain ⟨m,hm⟩:∃x,b7o ins=x:=⟨_,rfl⟩;rw [hb,hN4,hf1,hi1,hw1,hm] at hall;have gR:=SzC.or (b:=b) fun e=>c6x (hall e).1.ctl
  apply (g0m);apply (zq2);apply (d5x);apply (g0j);apply (b2h);apply (b55);apply (b2h);apply (b55);apply k6 _;apply (zk);apply yRc [1,5,6,7,8,9,10,11,12] ((by have q:=d47 n ss fl ins ws tb nd e1 e2 e3 (by omega) (fun t h=>by have:=htq t h;omega) (by omega) z.hl z.hls z.hil z.hin z.his z.hwl z.hwn;rw [hb,hN4,hf1,hi1,hw1,hm] at q;exact q));apply yRc [1,5,6,7,9,10,11,12,13,14,15] ((by have q:=c66 n ss fl ins ws tb nd e1 e2 e3 (by omega) (fun t h=>by have:=htq t h;omega) (by omega) z.hl z.hls z.hil z.hin z.his z.hwl z.hwn;rw [hb,hN4,hf1,hi1,hw1,hm] at q;exact q));apply b0e;intros;apply g2e [1,5,6,7,9,10,12,13,14,127] (b52 _ _ _ gR.hl gR.hil gR.hin gR.hwl gR.hwn) (b5l n ss fl ins ws (by omega) z.hl z.hls z.hil z.hin z.his z.hwl z.hwn) (b5l n ss (b3r b f1) (b3r b i1) (b3r b w1) (by omega) gR.hl gR.hls gR.hil gR.hin gR.his gR.hwl gR.hwn);apply b2a _ rfl
  ·intro hc1;exfalso;cases b with
   |false=>simp at hc1
   |true=>
    simp only [b14] at hc1;simp [(hall rfl).2.1,(hall rfl).1.ctl] at hc1
  ·intro hc1;try simp only [zC,reduceCtorEq] at hc1
   apply zn [1,5,6,7,9,10,12,13,14];apply b4r (A:=Unit) (fun u0=>⟨[(1,.sl (c2.map (V.int .u8)))],[],false,448,0⟩) (fun u0=>True)
   ·intro _ n12 _ _;apply yR [1,5,6,7,9,10,13,14,128];apply b0c _ rfl
    ·intro hc2;have hbt:b=true:=hc2;subst hbt;have gT:=gR;obtain ⟨D,D2⟩:=hall rfl;have hat:atB n ss f1 i1 w1 m=true:=by rw [atB,D.ctl,decide_eq_true D.opn];rfl
     have gF:=SzC.of (c6x D.fin);have hb0:=c4j D2.1;have hb1:=c4j D.ctl;have hb4:∀x∈N4,0≤x∧x≤1000:=fun x h=>by have:=D2.2.2.2 x h;omega
     have hN:=D2.2.2.1;have hs0:=d16 hb0;have hs1:=d16 hb1;have hs4:=d16 hb4;rw [b4k] at hs0 hs1;rw [hN] at hs4;have hsm:=D.sm;have hsl:=D.sl;have hfr:=D.fr;have hgl:(b3v fl fl.length).length≤fl.length:=by rw [b3v,qlu];exact ql7 (List.length_filter_le ..) (by rw [qlj];omega)
     have hzl:=z.hl;have hbk:=D.bk;simp only [b14,cond_true] at gT⊢;apply yRc [1,5,7,10,13,14,16,17] ((by have q:=c10 tb e1 e2 e3 (by omega) (fun t h=>by have:=htq t h;omega);rw [D2.2.1,hN4] at q;simp only [b14] at q;exact q));apply yRc [1,5,7,10,13,14,16,17,18,19] ((by have q:=b7v n ss fl ins ws (by omega) z.hl z.hls z.hil z.hin z.his z.hwl z.hwn;rw [D2.1] at q;simp only [b14] at q;exact q));apply yRc [1,5,7,10,13,14,16,17,18,19,20,21] ((by have q:=c5d n ss f1 i1 w1 (by omega) gT.hl gT.hls gT.hil gT.hin gT.his gT.hwl gT.hwn;rw [D.ctl] at q;simp only [b14] at q;exact q));apply yRc [1,5,7,10,13,14,16,17,18,19,20,21,22,23] ((by have q:=b7v n ss f1 i1 w1 (by omega) gT.hl gT.hls gT.hil gT.hin gT.his gT.hwl gT.hwn;rw [D.ctl] at q;simp only [b14] at q;exact q));apply yRc [1,5,7,10,13,14,16,17,18,19,20,21,22,23,24,25] ((by have q:=c3i n ss f1 i1 w1 m (by omega) gT.hl gT.hls gT.hil gT.hin gT.his gT.hwl gT.hwn;rw [hat] at q;simp only [b14] at q;exact q));apply yRc [1,5,7,10,14,16,17,18,19,20,21,22,23,24,25,26,27] ((by have q:=c23 n ss f1 i1 w1 m (by omega) gT.hl gT.hls gT.hil gT.hin gT.his gT.hwl gT.hwn;rw [hat] at q;simp only [b14] at q;exact q));apply b0e;intros;apply b1l [1,5,7,10,14,26,213];intro _ k22;apply (zq2);apply (zq4);apply (g4j);apply (g4j);apply (g0f);apply zgc (b7n (b4o w1 w1.length) (by rw [b4k];decide));apply (g4j);apply (g4j);apply (g0f);apply zgc (b7n _ (ql7 D.sl (by decide)));apply (g4j);apply zgc (c5b _ (by rw [b4k];decide) hb1);apply (zgU);apply zgc (c5b _ (by rw [b4k];decide) hb0);apply (c8k);apply (zgU);apply (d7v);apply (c8k);apply (zgU);apply zgc (c5b N4 (by omega) hb4);apply (b5q);apply (c74);apply k22 _;apply (zk);apply b2a _ rfl
     ·intro hc3;exfalso;simp at hc3;omega
     ·intro hc3;try simp only [zC,reduceCtorEq] at hc3
      apply zn [1,5,7,10,14,26];apply b0e;intros;apply yR [1,5,7,10,14,26,214,215,216];apply b0g;intros;apply b05 (fun i=>⟨[(1,.sl (c2.map (V.int .u8))),(5,.ptr 0 0 0),(7,.ptr 1 0 0),(10,.ptr 5 0 0),(14,.int .i64 m),(26,.ref 6),(214,.ref 6),(215,.int .i64 (b4n f1 i1 m).length),(216,.int .i64 (Nat.cast i))],[.box (tQ n ss) .shal,.box (kQ fl ins ws) .shal,aQ rQa f1,fQ rQb i1,fQ rQc w1,bQ 2 3 4,.arr ((b4n f1 i1 m).map (V.int .i64)) .flat],false,448,0⟩) (fun i=>i≤(b4n f1 i1 m).length) (fun i=>(b4n f1 i1 m).length - i) 0
      ·apply b1a [1,5,7,10,14,26,214,215,216] [1,5,7,8,9,13,26];rfl
      ·exact qle _
      ·rintro i hok27 Q27 n27 e27 r27;have hi1x:i≤(b4n f1 i1 m).length:=hok27;apply yR [1,5,7,10,14,26,214,215,216,217];apply b0e;intros;apply b0c _ rfl
       ·intro hc4;have hlt:i < (b4n f1 i1 m).length:=by omega
        obtain ⟨x,hx⟩:∃x,(b4n f1 i1 m)[i]? =some x:=⟨_,qla hlt⟩;have hx1:x=1:=D.st x (qlb hx);subst hx1;apply zn [1,5,7,10,14,26,214,215,216];apply b0e;intros;apply b0g;intros;have F:=Fc.mk (gdm hx);apply yR [1,5,7,10,14,26,29,214,215,216];apply yR [1,5,7,10,14,26,214,215,216,221];apply b2a _ rfl
        ·intro hc5;exfalso;simp at hc5
        ·intro hc5;try simp only [zC,reduceCtorEq] at hc5
         apply zn [1,5,7,10,14,26,214,215,216];apply (yV);apply n27 _ (i+1)
         ·apply b1a [1,5,7,10,14,26,214,215,216] [0,1,2,3,4,5,6];rfl
         ·exact hlt
         ·show _ < _;omega
       ·intro hc4;apply zn [1,5,7,10,14,26];apply yRc [1,5,10,14,26,30,31] ((by have q:=d49 n ss fl ins ws (by omega) z.hl z.hls z.hil z.hin z.his z.hwl z.hwn;rw [D2.1] at q;simp only [b14] at q;exact q));apply yRc [1,5,10,14,26,30,31,32,33] ((by have q:=c7e n ss f1 i1 w1 (by omega) gT.hl gT.hls gT.hil gT.hin gT.his gT.hwl gT.hwn;rw [D.ctl] at q;simp only [b14] at q;exact q));apply b0e;intros;apply yR [1,5,10,14,30,250];apply b2a _ rfl
        ·intro hc6;exfalso;simp at hc6;omega
        ·intro hc6;try simp only [zC,reduceCtorEq] at hc6
         apply zn [1,5,10,14,30];apply yRc [1,5,30,34,35] ((by have q:=d0m n ss f1 i1 w1 m (by omega) gT.hl gT.hls gT.hil gT.hin gT.his gT.hwl gT.hwn;rw [hat] at q;simp only [b14] at q;exact q));apply yRc [1,5,30,34,35,36,37] ((by have q:=c7e n ss (b7q f1 (f3v i1 m)) (g3j i1 m) (c7w w1 m) (by omega) gF.hl gF.hls gF.hil gF.hin gF.his gF.hwl gF.hwn;rw [D.fin] at q;simp only [b14] at q;exact q));apply yRg [1,282] ((by have q:=b5l n ss (b7q f1 (f3v i1 m)) (g3j i1 m) (c7w w1 m) (by omega) gF.hl gF.hls gF.hil gF.hin gF.his gF.hwl gF.hwn;rw [D.fin] at q;exact q));apply b2a _ rfl
         ·intro hc7;exfalso;simp at hc7;omega
         ·intro hc7;try simp only [zC,reduceCtorEq] at hc7
          apply b6m;apply n12 () _
          ·trivial
          ·exact b0t [1] []
    ·intro hc2;apply b6m;apply n12 () _
     ·trivial
     ·exact b0t [1] []
   ·rintro u0 hok12;have _hu:True:=hok12;apply b1l [1,38,39];intro _ k46;have F:=Fc.mk True.intro;apply (zU);apply zxn (c51 c2 hc2 hn2);rintro _ _ ⟨n,ss,fl,ins,ws,⟨hss,hQ⟩,rfl,rfl⟩;apply (zEn);have z:=SzC.of hQ;have hall:b3g n ss fl ins ws=true→FwDone n ss ws (b59 n ss fl ins ws ws.length):=fun e=>g5j ((b36 ..).1 e)
    have hsm:=c4j (n:=n) (ss:=ss) (fl:=fl) (ins:=ins) (ws:=ws);obtain ⟨b,hb⟩:∃b,b3g n ss fl ins ws=b:=⟨_,rfl⟩;obtain ⟨F,hF⟩:∃F,b59 n ss fl ins ws ws.length=F:=⟨_,rfl⟩;rw [hb] at hall hsm;rw [hF] at hall;have gR:=SzC.or (b:=b) fun e=>c6x ((b36 ..).2 (hall e).ctl)
    have hnm:(b3r b F.2.2.2).length≤1048576:=by
     cases e:b with
     |false=>exact qle _
     |true=>exact ql7 (hall e).nl (by decide)
    apply (zq8);apply (g0j);apply (b55);apply k46 _;apply (zk);apply yRc [1,38,39,40,41,42] ((by have q:=c5a n ss fl ins ws (by omega) z.hl z.hls z.hil z.hin z.his z.hwl z.hwn;rw [hb,hF] at q;exact q));apply yRc [1,38,39,40,41,42,43,44,45] ((by have q:=d3j n ss fl ins ws (by omega) z.hl z.hls z.hil z.hin z.his z.hwl z.hwn;rw [hb,hF] at q;exact q));apply b0e;intros;apply g1p [1,38,39,40,42,43,44,316] (b52 _ _ _ gR.hl gR.hil gR.hin gR.hwl gR.hwn) (c3b _ hnm);apply b2a _ rfl
    ·intro hc8;exfalso;simp at hc8
    ·intro hc8;try simp only [zC,reduceCtorEq] at hc8
     apply zn [1,38,39,40,42,43,44];apply b4r (A:=Unit) (fun u0=>⟨[(1,.sl (c2.map (V.int .u8)))],[],false,448,0⟩) (fun u0=>True)
     ·intro _ n52 _ _;apply yR [1,38,39,40,43,44,317];apply b0c _ rfl
      ·intro hc9;have hbt:b=true:=hc9;subst hbt;have gT:=gR;have D:=hall rfl;have hc1x:b3g n ss F.1 F.2.1 F.2.2.1=true:=(b36 ..).2 D.ctl;have hb0:=hsm rfl;have hb1:=c4j hc1x;have hs0:=d16 hb0;have hs1:=d16 hb1;rw [b4k] at hs0 hs1;have hsu:=D.sum;have hnl:=D.nl;simp only [b14] at gT⊢;apply yRc [1,38,40,43,44,46,47] ((by have q:=b7v n ss fl ins ws (by omega) z.hl z.hls z.hil z.hin z.his z.hwl z.hwn;rw [hb] at q;simp only [b14] at q;exact q));apply yRc [1,38,40,43,44,46,47,48,49] ((by have q:=c5d n ss F.1 F.2.1 F.2.2.1 (by omega) gT.hl gT.hls gT.hil gT.hin gT.his gT.hwl gT.hwn;rw [hc1x] at q;simp only [b14] at q;exact q));apply yRc [1,38,40,43,44,46,47,48,49,50,51] ((by have q:=b7v n ss F.1 F.2.1 F.2.2.1 (by omega) gT.hl gT.hls gT.hil gT.hin gT.his gT.hwl gT.hwn;rw [hc1x] at q;simp only [b14] at q;exact q));apply yRc [1,38,40,43,44,46,47,48,49,50,51,52,53,54] ((by have q:=c5a n ss F.1 F.2.1 F.2.2.1 (by omega) gT.hl gT.hls gT.hil gT.hin gT.his gT.hwl gT.hwn;rw [hc1x,D.again] at q;simp only [b14] at q;exact q));apply b1l [1,389];intro _ k59;apply (zq2);apply (zq4);apply (g4j);apply (g0f);apply zgc (b7n (b4o F.2.2.1 F.2.2.1.length) (by rw [b4k];decide));apply (g4j);apply zgc (c5b _ (by rw [b4k];decide) hb0);apply (zgU);apply zgc (c5b _ (by rw [b4k];decide) hb1);apply (c8k);apply (zgU);apply (d7v);apply (b5q);apply (zq5);apply (g4j);apply (d7v);apply (b5q);apply (c74);apply (zU);apply (c0e);apply (c0e);apply zgc (b52 _ _ _ gT.hl gT.hil gT.hin gT.hwl gT.hwn);apply (f1j);apply (zU);apply (c0e);apply (c0e);apply zgc ((by have q:=b5l n ss F.1 F.2.1 F.2.2.1 (by omega) gT.hl gT.hls gT.hil gT.hin gT.his gT.hwl gT.hwn;rw [hc1x] at q;exact q));apply (f1j);apply k59 _;apply (zk);apply b2a _ rfl
       ·intro hc10;exfalso;simp at hc10;omega
       ·intro hc10;try simp only [zC,reduceCtorEq] at hc10
        apply b6m;apply n52 () _
        ·trivial
        ·exact b0t [1] []
      ·intro hc9;apply b6m;apply n52 () _
       ·trivial
       ·exact b0t [1] []
     ·rintro u0 hok52;have _hu:True:=hok52;apply b1l [1,55,56,57];intro _ k61;have F:=Fc.mk True.intro;apply (zU);apply zxn (c3h c2 hc2 hn2);rintro _ _ ⟨n,ss,fl,ins,ws,k9,⟨hss,hQ⟩,rfl,rfl⟩;apply (zEn);have z:=SzC.of hQ;apply (g0m);apply (g0j);apply (b55);apply (b2h);apply k61 _;apply (zk);apply yRc [1,55,56,57,58,59] (d0m n ss fl ins ws k9 (by omega) z.hl z.hls z.hil z.hin z.his z.hwl z.hwn);apply yRc [1,58,59,60,61] (d77 n ss fl ins ws k9 (by omega) z.hl z.hls z.hil z.hin z.his z.hwl z.hwn);apply b1l [58,59,60,61,62,63,64];intro _ k64;apply (zU);apply zxn (d0s c2 hc2 hn2);rintro _ _ ⟨n3,ss3,fl3,ins3,ws3,k3,⟨hss3,hQ3⟩,rfl,rfl⟩;apply (zEn);have z3:=SzC.of hQ3;apply (g0m);apply (g0j);apply (b55);apply (b2h);apply k64 _;apply (zk);apply yRc [58,59,60,61,62,63,64,65,66] (c3i n3 ss3 fl3 ins3 ws3 k3 (by omega) z3.hl z3.hls z3.hil z3.hin z3.his z3.hwl z3.hwn);apply yRc [58,59,60,61,65,66,67,68] (c23 n3 ss3 fl3 ins3 ws3 k3 (by omega) z3.hl z3.hls z3.hil z3.hin z3.his z3.hwl z3.hwn);apply g1p [4] (b52 (b3r (atB n ss fl ins ws k9) (b7q fl (f3v ins k9))) (b3r (atB n ss fl ins ws k9) (g3j ins k9)) (b3r (atB n ss fl ins ws k9) (c7w ws k9)) (d9o (ql7 (Nat.le_of_eq (b7y ..)) z.hl)) (d9o (ql7 (Nat.le_of_eq (f7b ..)) z.hil)) (d51 (f7h k9 z.hin)) (d9o (ql7 (d3d ..) z.hwl)) (d51 (f7d k9 z.hwn))) (b7n (b3r (atB n3 ss3 fl3 ins3 ws3 k3) (b4n fl3 ins3 k3)) (d9o (g3c z3.hin)));apply (zr);exact b0h rfl (by first | rfl | simp) (by first | exact .inl rfl | exact .inr rfl)
end Go.Proofs.YtmbbjhopngejaaaGreat
