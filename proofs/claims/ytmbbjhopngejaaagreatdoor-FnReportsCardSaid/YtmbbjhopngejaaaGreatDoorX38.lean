/- What functions compute. No condition. -/
import Derived.Test.YtmbbjhopngejaaaGreatDoorX35
import Derived.Test.YtmbbjhopngejaaaGreatDoorX36
import Derived.Test.YtmbbjhopngejaaaGreatDoorX37
import Derived.Test.YtmbbjhopngejaaaGreatDoorX19
set_option linter.unusedSimpArgs false
set_option linter.unusedVariables false
set_option linter.defProp false
namespace Go.Proofs.YtmbbjhopngejaaaGreatDoor
open Go Go.Vm
set_option maxHeartbeats 8000000
structure SzC (fl:List TA) (ins:List TI) (ws:List TW):Prop where
  hl:fl.length≤1048576
  hls:∀t∈fl,t.1.size≤9223372036854775807
  hil:ins.length≤1048576
  hin:∀x∈ins,x.2.2.2.length≤1048576
  his:∀x∈ins,∀s∈x.2.2.2,s.size≤9223372036854775807
  hwl:ws.length≤1048576
  hwn:∀x∈ws,x.2.length≤1048576
theorem SzC.of {fl:List TA} {ins:List TI} {ws:List TW} (h:CtQ fl ins ws):SzC fl ins ws:=by
  obtain ⟨⟨q1,q2⟩,⟨q3,q4,q5⟩,q6,q7⟩:=h;exact ⟨by omega,fun t h=>by have:=q2 t h;omega,by omega,fun x h=>by have:=q4 x h;omega,fun x h s hs=>by have:=q5 x h s hs;omega,by omega,fun x h=>by have:=q7 x h;omega⟩
theorem SzC.no:SzC [] [] []:=⟨by simp,by simp,by simp,by simp,by simp,by simp,by simp⟩
theorem SzC.or {b:Bool} {fl:List TA} {ins:List TI} {ws:List TW} (h:b=true→CtQ fl ins ws):SzC (b3j b fl) (b3j b ins) (b3j b ws):=by
  cases b with
  | true=>exact SzC.of (h rfl)
  | false=>exact SzC.no
theorem d77 {α:Type} {b:Bool} {l:List α} {n:Nat} (h:l.length≤n):(b3j b l).length≤n:=by
  cases b with
  | true=>exact h
  | false=>exact qle _
set_option maxRecDepth 8000 in
theorem c6i (c1 c2:List Int) (hc1:∀x∈c1,0≤x∧x≤255) (hc2:∀x∈c2,0≤x∧x≤255) (hn1:c1.length≤9223372036854775807) (hn2:c2.length≤9223372036854775807):Con Tryz.prog 3 [.sl (c1.map (V.int .u8)),.sl (c2.map (V.int .u8))] [] (.bool true) []:=by
 refine zcn [.tmp 4] [] Tryz.func3 Tryz.ntmps3 ⟨?_⟩;intro Q0 n0 r0;have T:=Tys.mk (ai Ty.t3 (ai Ty.t4 (ai Ty.t5 (ai Ty.t9 (ai Ty.t22 (ai Ty.t24 (ai Ty.t26 (ai Ty.t27 (ai Ty.t28 (ai Ty.t29 (ai Ty.t31 (ai Ty.t32 (ai Ty.t35 (ai Ty.t53 (ai Ty.t55 (ai Ty.t91 Ty.t127))))))))))))))));have F:=Fc.mk True.intro;refine yR [0,1] ⟨?_⟩;refine b0e ?_;intros;refine yRc [0,1,68] (f7c c1 c2 hn1 hn2) ⟨?_⟩;refine b0a _ rfl ?_ ?_
 ·intro hc0;refine yR [4] ⟨?_⟩;refine zr ⟨?_⟩;exact b0g rfl (by first | rfl | simp) (by first | exact .inl rfl | exact .inr rfl)
 ·intro hc0;refine zn [0,1] ⟨?_⟩;refine b1l [1,5,6,7] ?_;intro K6 k6;refine b15 ⟨?_⟩;refine zxn (c3s c1 hc1 hn1) ⟨?_⟩;rintro _ _ ⟨n,ss,fl,ins,ws,L,⟨⟨hss,hQ⟩,hLl,hLz⟩,rfl,rfl⟩;refine zEn ⟨?_⟩;have z:=SzC.of hQ;obtain ⟨b,hb⟩:∃b,c9c n ss fl ins ws L=b:=⟨_,rfl⟩;obtain ⟨st,hst⟩:∃st,b3t fl ins L L.length=st:=⟨_,rfl⟩;have hrB:b=true→b2o n ss st.1 st.2.1 ws=true∧b2o n ss fl ins ws=true∧L.length≤40:=fun e=>by
   rw [←hb,c9c,qld,decide_eq_true_eq] at e;have:=(d1n (L:=L) e.1 L.length).ok;rw [hst] at this;exact ⟨this,e.1,by omega⟩
  have gR:=SzC.or (b:=b) fun e=>c54 (hrB e).1
  have hfl:(b3j b st.2.2).length≤1048576:=d77 (by have:=d7y (fl:=fl) (ins:=ins) (L:=L) L.length;rw [hst] at this;omega);refine f0q ⟨?_⟩;refine c3c ⟨?_⟩;refine f6r ⟨?_⟩;refine b2l ⟨?_⟩;refine k6 _ ?_;refine zk ⟨?_⟩;refine yRc [1,5,6,7,8,9,10] ((by have q:=c7e n ss fl ins ws L (by omega) (fun s h=>by have:=hLz s h;omega) (by omega) z.hl z.hls z.hil z.hin z.his z.hwl z.hwn;rw [hb,hst] at q;exact q)) ⟨?_⟩;refine yRc [1,5,6,7,8,9,10,11,12,13] ((by have q:=d6j n ss fl ins ws L (by omega) (fun s h=>by have:=hLz s h;omega) (by omega) z.hl z.hls z.hil z.hin z.his z.hwl z.hwn;rw [hb,hst] at q;exact q)) ⟨?_⟩;refine b0e ?_;intros;refine f94 [1,5,6,7,8,10,11,12,105] (b4w _ _ _ gR.hl gR.hil gR.hin gR.hwl gR.hwn) (c1e _ hfl) ⟨?_⟩;refine b18 _ rfl ?_ ?_
  ·intro hc1;exfalso;simp at hc1
  ·intro hc1;try simp only [zC,reduceCtorEq] at hc1
   refine zn [1,5,6,7,8,10,11,12] ⟨?_⟩;refine b3u (A:=Unit) (fun u0=>⟨[(1,.sl (c2.map (V.int .u8)))],[],false,404,0⟩) (fun u0=>True) ?_ ?_
   ·intro Q12 n12 e12 r12;refine yR [1,5,6,7,8,11,12,106] ⟨?_⟩;refine b0a _ rfl ?_ ?_
    ·intro hc2;have hbt:b=true:=hc2;subst hbt;have gT:=gR;simp only [b2r] at gT hfl⊢;have hfl2:=hfl;refine yR [1,5,6,7,8,11,12,14] ⟨?_⟩;refine b0e ?_;intros;refine yR [1,5,6,8,11,12,14,107,108,109] ⟨?_⟩;refine b0i ?_;intros;refine b08 (fun i=>⟨[(1,.sl (c2.map (V.int .u8))),(5,.ptr 0 0 0),(6,.ptr 1 0 0),(8,.ptr 5 0 0),(11,.ptr 10 0 0),(12,.ref 9),(14,.ref 11),(107,.sl (L.map V.str)),(108,.int .i64 L.length),(109,.int .i64 (Nat.cast i))],[.box (tQ n ss) .shal,.box (kQ fl ins ws) .shal,aQ rQa st.1,fQ rQb st.2.1,fQ rQc ws,bQ 2 3 4,aQ rQa st.1,fQ rQb st.2.1,fQ rQc ws,.arr (st.2.2.map (V.int .i64)) .flat,bQ 6 7 8,.arr ((c9p st.2.2 L i).map V.str) .flat],false,404,0⟩) (fun i=>i≤L.length) (fun i=>L.length - i) 0 ?_ ?_ ?_
     ·refine b1o [1,5,6,8,11,12,14,107,108,109] [1,5,6,7,8,13,14,15,16,17,21,22] ⟨?_⟩;rfl
     ·exact qle _
     ·rintro i hok19 Q19 n19 e19 r19;have hi1:i≤L.length:=hok19;refine yR [1,5,6,8,11,12,14,107,108,109,110] ⟨?_⟩;refine b0e ?_;intros;refine b0a _ rfl ?_ ?_
      ·intro hc3;have hlt:i < L.length:=by omega
       obtain ⟨s,hx⟩:∃s,L[i]? =some s:=⟨_,qla hlt⟩;refine zn [1,5,6,8,11,12,14,107,108,109] ⟨?_⟩;refine b0e ?_;intros;refine b0i ?_;intros;have F:=Fc.mk (gdm hx);refine yR [1,5,6,8,11,12,14,15,16,107,108,109] ⟨?_⟩;refine yRc [1,5,6,8,11,12,14,16,107,108,109,117] (f67 st.2.2 (i:Int) hfl2) ⟨?_⟩;refine b0a _ rfl ?_ ?_
       ·intro hc4;have hni:(i:Int) ∉ st.2.2:=by simpa using hc4
        have hgl:=d7e st.2.2 L i;refine yQ [1,5,6,8,11,12,14,107,108,109] ⟨?_⟩;refine yV ⟨?_⟩;refine n19 _ (i+1) ?_ ?_ ?_
        ·refine b1o [1,5,6,8,11,12,14,107,108,109] [0,1,2,3,4,5,6,7,8,9,10,13] ⟨?_⟩;rw [f6h hx hni];simp only [aQ,fQ,List.map_append];try rfl
        ·exact hlt
        ·show _ < _;omega
       ·intro hc4;have hin2:(i:Int)∈st.2.2:=by simpa using hc4
        refine zn [1,5,6,8,11,12,14,107,108,109] ⟨?_⟩;refine yV ⟨?_⟩;refine n19 _ (i+1) ?_ ?_ ?_
        ·refine b1o [1,5,6,8,11,12,14,107,108,109] [0,1,2,3,4,5,6,7,8,9,10,11] ⟨?_⟩;rw [f8v hx hin2];rfl
        ·exact hlt
        ·show _ < _;omega
      ·intro hc3;have hie:i=L.length:=by omega
       subst hie;have hG:=d7v (fl:=fl) (ins:=ins) (L:=L) L.length (qlw _);rw [hst] at hG;have hGb:c9c n ss fl ins ws (c9p st.2.2 L L.length)=true:=by
        have:=d7e st.2.2 L L.length;have h40:=(hrB rfl).2.2;rw [c9c,(hrB rfl).2.1,decide_eq_true (by omega)];rfl
       have hlen:st.2.1.length=ins.length:=by have:=f16 (fl:=fl) (ins:=ins) (L:=L) L.length;rw [hst] at this;exact this
       refine zn [1,5,6,8,11,14] ⟨?_⟩;have F:=Fc.mk hlen;refine yRc [1,5,6,8,11,17,18,19] ((by have q:=c7e n ss fl ins ws (c9p st.2.2 L L.length) (by have:=d7e st.2.2 L L.length;omega) (fun s h=>by have:=f4f hLz L.length s h;omega) (by omega) z.hl z.hls z.hil z.hin z.his z.hwl z.hwn;rw [hGb,hG] at q;simp only [b2r] at q;exact q)) ⟨?_⟩;refine f94 [1,158] (b4w _ _ _ gT.hl gT.hil gT.hin gT.hwl gT.hwn) ((by have q:=b63 n ss st.1 st.2.1 ws (by omega) gT.hl gT.hls gT.hil gT.hin gT.his gT.hwl gT.hwn;rw [(hrB rfl).1] at q;exact q)) ⟨?_⟩;refine b18 _ rfl ?_ ?_
       ·intro hc5;exfalso;first | (simp at hc5;done) | (simp [hlen] at hc5;done)
       ·intro hc5;try simp only [zC,reduceCtorEq] at hc5
        refine b5z ?_;refine n12 () _ ?_ ?_
        ·trivial
        ·exact b0q [1] []
    ·intro hc2;refine b5z ?_;refine n12 () _ ?_ ?_
     ·trivial
     ·exact b0q [1] []
   ·rintro u0 hok12;have _hu:True:=hok12;refine b1l [1,20,21,22,23] ?_;intro K34 k34;have F:=Fc.mk True.intro;refine b15 ⟨?_⟩;refine zxn (c2o c2 hc2 hn2) ⟨?_⟩;rintro _ _ ⟨n,ss,fl,ins,ws,nm,sv,⟨⟨hss,hQ⟩,hnz,hs1,hs2⟩,rfl,rfl⟩;refine zEn ⟨?_⟩;have z:=SzC.of hQ;obtain ⟨b,hb⟩:∃b,d2s n ss fl ins ws nm sv=b:=⟨_,rfl⟩;have hrB:b=true→b2o n ss fl ins ws=true∧c18 fl nm sv=true:=fun e=>by
     rw [←hb,d2s,qld] at e;exact e
    have gR:=SzC.or (b:=b) fun e=>c54 (c6r (hrB e).1 (hrB e).2)
    refine f0q ⟨?_⟩;refine zq7 ⟨?_⟩;refine f6r ⟨?_⟩;refine b2l ⟨?_⟩;refine b2l ⟨?_⟩;refine k34 _ ?_;refine zk ⟨?_⟩;refine yRc [1,20,21,22,23,24,25] ((by have q:=c9l n ss fl ins ws nm sv (by omega) z.hl z.hls z.hil z.hin z.his z.hwl z.hwn;rw [hb] at q;exact q)) ⟨?_⟩;refine yRc [1,20,22,23,24,25,26,27] ((by have q:=c9g n ss fl ins ws nm sv (by omega) z.hl z.hls z.hil z.hin z.his z.hwl z.hwn;rw [hb] at q;exact q)) ⟨?_⟩;refine b0e ?_;intros;refine yRg [1,20,22,23,24,25,26,190] (b4w _ _ _ gR.hl gR.hil gR.hin gR.hwl gR.hwn) ⟨?_⟩;refine b18 _ rfl ?_ ?_
    ·intro hc6;exfalso;simp at hc6
    ·intro hc6;try simp only [zC,reduceCtorEq] at hc6
     refine zn [1,20,22,23,24,25,26] ⟨?_⟩;refine b3u (A:=Unit) (fun u0=>⟨[(1,.sl (c2.map (V.int .u8)))],[],false,404,0⟩) (fun u0=>True) ?_ ?_
     ·intro Q40 n40 e40 r40;refine yR [1,20,22,23,24,26,191] ⟨?_⟩;refine b0a _ rfl ?_ ?_
      ·intro hc7;have hbt:b=true:=hc7;subst hbt;have gT:=gR;simp only [b2r] at gT⊢;have hC:=c6r (hrB rfl).1 (hrB rfl).2;have hcm:=f54 (hrB rfl).1 (hrB rfl).2;rcases Bool.eq_false_or_eq_true (cmB (c9m ins nm sv) nm) with hcb | hcb
       ·skip;have hps:=f7g hcb;have hcl:decide (cmN (c9m ins nm sv) nm < 1)=false:=decide_eq_false (by omega);rw [hcb] at hcm;replace hcm:=hcm.symm;have F:=fq3 hcb hcl hcm;refine yRc [1,20,23,24,28,29] (c50 (c9m ins nm sv) nm gT.hil gT.hin gT.his (by omega)) ⟨?_⟩;refine yR [1,20,24,28,29,30] ⟨?_⟩;refine yRg [1,220] ((by have q:=b63 n ss (d7k fl nm sv) (c9m ins nm sv) ws (by omega) gT.hl gT.hls gT.hil gT.hin gT.his gT.hwl gT.hwn;rw [hC] at q;exact q)) ⟨?_⟩;refine b18 _ rfl ?_ ?_
        ·intro hc8;exfalso;first | (simp at hc8;done) | (simp [hcb,hcl,hcm] at hc8;done) | (simp [hcb,hcm] at hc8;done)
        ·intro hc8;try simp only [zC,reduceCtorEq] at hc8
         refine b5z ?_;refine n40 () _ ?_ ?_
         ·trivial
         ·exact b0q [1] []
       ·skip;rw [hcb] at hcm;replace hcm:=hcm.symm;have F:=fq2 hcb hcm;refine yRc [1,20,23,24,28,29] (c50 (c9m ins nm sv) nm gT.hil gT.hin gT.his (by omega)) ⟨?_⟩;refine yR [1,20,24,28,29,30] ⟨?_⟩;refine yRg [1,220] ((by have q:=b63 n ss (d7k fl nm sv) (c9m ins nm sv) ws (by omega) gT.hl gT.hls gT.hil gT.hin gT.his gT.hwl gT.hwn;rw [hC] at q;exact q)) ⟨?_⟩;refine b18 _ rfl ?_ ?_
        ·intro hc8;exfalso;first | (simp at hc8;done) | (simp [hcb,hcl,hcm] at hc8;done) | (simp [hcb,hcm] at hc8;done)
        ·intro hc8;try simp only [zC,reduceCtorEq] at hc8
         refine b5z ?_;refine n40 () _ ?_ ?_
         ·trivial
         ·exact b0q [1] []
      ·intro hc7;refine b5z ?_;refine n40 () _ ?_ ?_
       ·trivial
       ·exact b0q [1] []
     ·rintro u0 hok40;have _hu:True:=hok40;refine b1l [1,31,32,33] ?_;intro K51 k51;have F:=Fc.mk True.intro;refine b15 ⟨?_⟩;refine zxn (c6o c2 hc2 hn2) ⟨?_⟩;rintro _ _ ⟨n,ss,fl,ins,ws,nm,⟨⟨hss,hQ⟩,hnz⟩,rfl,rfl⟩;refine zEn ⟨?_⟩;have z:=SzC.of hQ;obtain ⟨b,hb⟩:∃b,d2n n ss fl ins ws nm=b:=⟨_,rfl⟩;have hrB:b=true→b2o n ss fl ins ws=true∧b9t fl nm=true:=fun e=>by
       rw [←hb,d2n,qld] at e;exact e
      have gR:=SzC.or (b:=b) fun e=>c54 (d1s (hrB e).1 (hrB e).2)
      refine f0q ⟨?_⟩;refine c3c ⟨?_⟩;refine f6r ⟨?_⟩;refine b2l ⟨?_⟩;refine k51 _ ?_;refine zk ⟨?_⟩;refine yRc [1,31,32,33,34,35] ((by have q:=c9r n ss fl ins ws nm (by omega) z.hl z.hls z.hil z.hin z.his z.hwl z.hwn;rw [hb] at q;exact q)) ⟨?_⟩;refine yRc [1,33,34,35,36,37] ((by have q:=c9j n ss fl ins ws nm (by omega) z.hl z.hls z.hil z.hin z.his z.hwl z.hwn;rw [hb] at q;exact q)) ⟨?_⟩;refine b0e ?_;intros;refine yRg [1,33,35,36,249] (b4w _ _ _ gR.hl gR.hil gR.hin gR.hwl gR.hwn) ⟨?_⟩;refine b18 _ rfl ?_ ?_
      ·intro hc9;exfalso;simp at hc9
      ·intro hc9;try simp only [zC,reduceCtorEq] at hc9
       refine zn [1,33,35,36] ⟨?_⟩;refine b3u (A:=Unit) (fun u0=>⟨[(1,.sl (c2.map (V.int .u8)))],[],true,404,0⟩) (fun u0=>True) ?_ ?_
       ·intro Q57 n57 e57 r57;refine yR [1,33,36,250] ⟨?_⟩;refine b0a _ rfl ?_ ?_
        ·intro hc10;have hbt:b=true:=hc10;subst hbt;have gT:=gR;simp only [b2r] at gT⊢;obtain ⟨k,⟨z0,z1,z2,z3,z4⟩,hA⟩:=f8x (hrB rfl).1 (hrB rfl).2;have hst4:z4=3:=hA.st;subst hst4;have hkl:=(qlc.1 hA.get).1;have F:=fq2 (gdm hA.get) @qli;refine yRc [1,33,36,38,39] ((by have q:=d4e ins nm gT.hil gT.hin gT.his (by omega);rw [hA.cm] at q;exact q)) ⟨?_⟩;refine yRc [1,36,38,39,40,41] ((by have q:=d47 (d5e fl ins nm) nm gT.hl gT.hls;rw [hA.fd,hA.at_] at q;simp only [cond_true] at q;exact q)) ⟨?_⟩;refine b0e ?_;intros;refine yR [1,36,38,40,279] ⟨?_⟩;refine b18 _ rfl ?_ ?_
         ·intro hc11;exfalso;simp at hc11
         ·intro hc11;try simp only [zC,reduceCtorEq] at hc11
          refine zn [1,36,38,40] ⟨?_⟩;refine yR [1,36,38,40,281,282,283] ⟨?_⟩;refine b0i ?_;intros;refine b08 (fun i=>⟨[(1,.sl (c2.map (V.int .u8))),(36,.ptr 3 0 0),(38,.int .i64 (cmN ins nm)),(40,.int .i64 (Nat.cast k)),(281,.ref 1),(282,.int .i64 ins.length),(283,.int .i64 (Nat.cast i))],[aQ rQa (d5e fl ins nm),fQ rQb ins,fQ rQc ws,bQ 0 1 2],true,404,0⟩) (fun i=>i≤ins.length) (fun i=>ins.length - i) 0 ?_ ?_ ?_
          ·refine b00 (b0f [1,36,38,40,281,282,283] _) ?_;simp only [b02,b0n,b0l,b0j,b0u,Nat.reduceEqDiff,reduceIte];refine b00 c33 (b1o [1,36,38,40,281,282,283] [13,14,15,19] ⟨?_⟩);rfl
          ·exact qle _
          ·rintro i hok67 Q67 n67 e67 r67;have hi1:i≤ins.length:=hok67;refine yR [1,36,38,40,281,282,283,284] ⟨?_⟩;refine b0e ?_;intros;refine b0a _ rfl ?_ ?_
           ·intro hc12;have hilx:=gT.hil;have hlt:i < ins.length:=by omega
            obtain ⟨⟨x0,x1,x2,x3⟩,hx⟩:∃x:TI,ins[i]? =some x:=⟨ins[i]'(by omega),qla (by omega)⟩;have hnd:x0=cmN ins nm→x1=z2:=fun e=>hA.nd _ (qlb hx) e
            refine zn [1,36,38,40,281,282,283] ⟨?_⟩;refine b0e ?_;intros;refine b0i ?_;intros;have F:=fq3 (gdm hA.get) @qli (gdm hx);refine yR [1,36,38,40,43,281,282,283] ⟨?_⟩;refine b0e ?_;intro Q74 n74 e74 r74;refine b1f (by kernel_rfl) ?_;intro K75 q75 k75;show b1r _ _ _ _ 15 (Array.replicate 15 false) _;refine b0h q75 true 0 287 ?_;refine b1i q75 true 1 288 ?_;refine b0t q75 true 2 289 ?_;refine b19 q75 true 3 290 ?_;refine b0t q75 true 4 291 ?_;refine b0c q75 true 5 292 ?_;refine b5a q75 true 6 293 ?_;refine b0c q75 true 7 294 ?_;refine b5a q75 true 8 295 ?_;refine b0z q75 true 9 296 ?_;refine b0x q75 true 10 297 ?_;refine b0c q75 true 11 298 ?_;refine b5a q75 true 12 299 ?_;refine b0y q75 true 13 300 ?_;refine b1p q75 true 14 301 ?_;refine b0b (by kernel_rfl) ?_;refine k75 _ ?_;refine n74 _ _ (b0f [1,36,38,40,281,282,283,301] _) ?_;refine zk ⟨?_⟩;refine b18 _ rfl ?_ ?_
            ·intro hc13;exfalso;first | (simp at hc13;omega) | (simp at hc13;exact hc13.2 (hnd hc13.1))
            ·intro hc13;try simp only [zC,reduceCtorEq] at hc13
             refine zn [1,36,38,40,281,282,283] ⟨?_⟩;refine yV ⟨?_⟩;refine n67 _ (i+1) ?_ ?_ ?_
             ·refine b1o [1,36,38,40,281,282,283] [0,1,2,3] ⟨?_⟩;rfl
             ·exact hlt
             ·show _ < _;omega
           ·intro hc12;refine zx ⟨?_⟩;refine n57 () _ ?_ ?_
            ·trivial
            ·exact b0q [1] []
        ·intro hc10;refine b5z ?_;refine n57 () _ ?_ ?_
         ·trivial
         ·exact b00 c33 (b0q [1] [])
       ·rintro u0 hok57;have _hu:True:=hok57;refine b1l [1,44,45] ?_;intro K78 k78;have F:=Fc.mk True.intro;refine b15 ⟨?_⟩;refine zxn (c4f c2 hc2 hn2) ⟨?_⟩;rintro _ _ ⟨n,ss,fl,⟨hss,hQ1,hQ2⟩,rfl,rfl⟩;refine zEn ⟨?_⟩;have z:=SzC.of (show CtQ fl [] [] from ⟨⟨hQ1,hQ2⟩,⟨by simp,by simp,by simp⟩,by simp,by simp⟩);have gN:SzC (b3j (b2o n ss fl [] []) fl) [] []:=⟨d77 z.hl,fun t ht=>z.hls t (by cases q:b2o n ss fl [] []<;>rw [q] at ht;cases ht;exact ht),by simp,by simp,by simp,by simp,by simp⟩
        refine f0q ⟨?_⟩;refine zq8 ⟨?_⟩;refine b2l ⟨?_⟩;refine k78 _ ?_;refine zk ⟨?_⟩;refine yRc [1,44,45,46,47] (d5t n ss fl (by omega) z.hl z.hls) ⟨?_⟩;refine yRc [1,46,47,48,49] (d60 n ss fl (by omega) z.hl z.hls) ⟨?_⟩;refine b1l [1,46,47,48,49,50,51] ?_;intro K81 k81;refine b15 ⟨?_⟩;refine zxn (c2t c2 hc2 hn2) ⟨?_⟩;rintro _ _ ⟨n3,ss3,fl3,ins3,ws3,⟨hss3,hQ3⟩,rfl,rfl⟩;refine zEn ⟨?_⟩;have z3:=SzC.of hQ3;refine f0q ⟨?_⟩;refine f6r ⟨?_⟩;refine k81 _ ?_;refine zk ⟨?_⟩;refine yRc [1,46,47,48,49,50,51,52,53] (d07 n3 ss3 fl3 ins3 ws3 (by omega) z3.hl z3.hls z3.hil z3.hin z3.his z3.hwl z3.hwn) ⟨?_⟩;refine yRc [1,46,47,48,49,52,53,54,55] (d11 n3 ss3 fl3 ins3 ws3 (by omega) z3.hl z3.hls z3.hil z3.hin z3.his z3.hwl z3.hwn) ⟨?_⟩;refine b1l [46,47,48,49,52,53,54,55,56,57] ?_;intro K84 k84;refine b15 ⟨?_⟩;refine zxn (c30 c2 hc2 hn2) ⟨?_⟩;rintro _ _ ⟨n4,ss4,fl4,ins4,ws4,⟨hss4,hQ4⟩,rfl,rfl⟩;refine zEn ⟨?_⟩;have z4:=SzC.of hQ4;have hfr:(b3j (b2o n4 ss4 fl4 ins4 ws4) (b58 fl4 fl4.length)).length≤1048576:=d77 (ql6 (d1c fl4 _) z4.hl);have hnd:(b3j (b2o n4 ss4 fl4 ins4 ws4) (b7l ws4 ws4.length)).length≤1048576:=d77 (by rw [c05];decide);refine f0q ⟨?_⟩;refine f6r ⟨?_⟩;refine k84 _ ?_;refine zk ⟨?_⟩;refine yRc [46,47,48,49,52,53,54,55,56,57,58,59] (d30 n4 ss4 fl4 ins4 ws4 (by omega) z4.hl z4.hls z4.hil z4.hin z4.his z4.hwl z4.hwn) ⟨?_⟩;refine yRc [46,47,48,49,52,53,54,55,56,57,58,59,60,61] (d3d n4 ss4 fl4 ins4 ws4 (by omega) z4.hl z4.hls z4.hil z4.hin z4.his z4.hwl z4.hwn) ⟨?_⟩;refine yRc [46,47,48,49,52,53,54,55,56,57,58,59,60,61,62,63] (d2l n4 ss4 fl4 ins4 ws4 (by omega) z4.hl z4.hls z4.hil z4.hin z4.his z4.hwl z4.hwn) ⟨?_⟩;refine yRc [46,47,48,49,52,53,54,55,58,59,60,61,62,63,64,65] (d1k n4 ss4 fl4 ins4 ws4 (by omega) z4.hl z4.hls z4.hil z4.hin z4.his z4.hwl z4.hwn) ⟨?_⟩;refine f9v [4] (b4w _ [] [] gN.hl gN.hil gN.hin gN.hwl gN.hwn) (c2i _ hfr) (c1e _ hnd) ⟨?_⟩;refine zr ⟨?_⟩;exact b0g rfl (by first | rfl | simp) (by first | exact .inl rfl | exact .inr rfl)
end Go.Proofs.YtmbbjhopngejaaaGreatDoor
