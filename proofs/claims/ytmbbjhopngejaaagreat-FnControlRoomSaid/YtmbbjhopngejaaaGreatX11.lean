/- What functions compute. No condition. -/
import Derived.Test.YtmbbjhopngejaaaGreatX10
set_option linter.all false
open Go.Vm.V renaming int → Za, str → Ze
open Array renaming replicate → Zb
open Nat renaming cast → Zc
open List renaming map_append → Zd
namespace Go.Proofs.YtmbbjhopngejaaaGreat
open Go Go.Vm Tryz
set_option maxHeartbeats 8000000
set_option maxRecDepth 100000 in
theorem c7e (n:Int) (ss:List TS) (fl:List TA) (ins:List TI) (ws:List TW) (hs:ss.length≤1048576) (hl:fl.length≤1048576) (hls:∀t∈fl,t.1.size≤9223372036854775807) (hil:ins.length≤1048576) (hin:∀x∈ins,x.2.2.2.length≤1048576) (his:∀x∈ins,∀s∈x.2.2.2,s.size≤9223372036854775807) (hwl:ws.length≤1048576) (hwn:∀x∈ws,x.2.length≤1048576):Con prog 18 [tQ n ss,kQ fl ins ws] [] (.tup [.ref 0,.bool (b3g n ss fl ins ws)]) [.arr ((b3r (b3g n ss fl ins ws) (b3v fl fl.length)).map Ze) .flat]:=by
 apply zcn [.tmp 4,.tmp 5] [] func18 ntmps18;intro _ _ _;have T:=tqa (c2r Y3 Y4 Y9 Y24 Y26 Y28 Y29 Y30 Y32 Y41 Y48 Y69) (tq5 Y72 Y81 Y96 Y98 b7w);have F:=Fc.mk True.intro;apply yR [2,3];apply b0e;intros;apply d6n [3,14] (b45 n ss hs) (b4z n ss fl ins ws hs hl hls hil hin his hwl hwn);apply b0c _ rfl
 ·intro hc0;have hB:(b3g n ss fl ins ws)=false:=by
   cases hq:(b3g n ss fl ins ws) with
   |false=>rfl
   |true=>(have ht:=b5b hq;simp [hq,ht] at hc0)
  apply yR [4,5];apply (zr);rw [hB,b3e];exact rta
 ·intro hc0;have hB:(b3g n ss fl ins ws)=true:=by
   cases hq:(b3g n ss fl ins ws) with
   |true=>rfl
   |false=>simp [hq] at hc0
  have hc:=b5c hB;apply zn [3];apply yR [3,6];apply b0e;intros;apply yR [6,16,17,18];apply b0g;intros;apply b05 (fun i=>⟨[(6,.ref 0),(16,sQ rQa fl),(17,.int .i64 fl.length),(18,.int .i64 (Zc i))],[.arr ((b3v fl i).map Ze) .flat],false,31,0⟩) (fun i=>i≤fl.length) (fun i=>fl.length - i) 0
  ·apply b0d [6,16,17,18] [3];rfl
  ·exact qle _
  ·rintro i hok10 Q10 n10 e10 r10;have hi1:i≤fl.length:=hok10;apply yR [6,16,17,18,19];apply b0e;intros;apply b0c _ rfl
   ·intro hc1;have hlt:i < fl.length:=by omega
    obtain ⟨⟨x0,x1,x2,x3,x4⟩,hx⟩:∃x:TA,fl[i]? =some x:=⟨fl[i]'(by omega),qla (by omega)⟩;have hkx:=(hc.ds.hap _ (qlb hx)).1;simp only [] at hkx;have hfl:=d89 fl i;have h12:=hc.ds.hfl;apply zn [6,16,17,18];apply b0e;intros;apply b0g;intros;have F:=Fc.mk (gdm hx);apply yR [6,8,16,17,18];apply yRc [6,8,16,17,18,23] (c1w x0 x1 x2 x3 x4 hkx);apply b0c _ rfl
    ·intro hc2;have hst:=d8o hx hc2;have hsn:(b3v fl i).map Ze++[Ze x0]=(b3v fl (i+1)).map Ze:=by rw [hst];simp only [aQ,fQ,Zd];try rfl
     apply yQ [6,16,17,18];apply (yV);apply n10 _ (i+1)
     ·apply b0d [6,16,17,18] [3]
      (try simp only [aQ,fQ]);rw [←hsn];rfl
     ·exact hlt
     ·show _ < _;omega
    ·intro hc2;have hst:=f4o hx hc2;apply zn [6,16,17,18];apply (yV);apply n10 _ (i+1)
     ·apply b0d [6,16,17,18] [0];rw [hst];rfl
     ·exact hlt
     ·show _ < _;omega
   ·intro hc1;have hend:i=fl.length:=by omega
    subst hend;apply zn [6];apply yR [4,5];apply (zr);rw [hB,b14];exact rta
set_option maxRecDepth 100000 in
theorem d49 (n:Int) (ss:List TS) (fl:List TA) (ins:List TI) (ws:List TW) (hs:ss.length≤1048576) (hl:fl.length≤1048576) (hls:∀t∈fl,t.1.size≤9223372036854775807) (hil:ins.length≤1048576) (hin:∀x∈ins,x.2.2.2.length≤1048576) (his:∀x∈ins,∀s∈x.2.2.2,s.size≤9223372036854775807) (hwl:ws.length≤1048576) (hwn:∀x∈ws,x.2.length≤1048576):Con prog 17 [tQ n ss,kQ fl ins ws] [] (.tup [.ref 0,.bool (b3g n ss fl ins ws)]) [.arr ((b3r (b3g n ss fl ins ws) (b3v fl fl.length)).map Ze) .flat]:=by
 apply zcn [.tmp 4,.tmp 5] [] func17 ntmps17;intro _ _ _;have T:=tqa (c2r Y3 Y4 Y9 Y24 Y26 Y28 Y29 Y30 Y32 Y41 Y48 Y81) (tq3 Y96 Y98 b7w);have F:=Fc.mk True.intro;apply yR [2,3];apply b0e;intros;apply yRc [3,12] (b5n n ss fl ins ws hs hl hls hil hin his hwl hwn);apply b0c _ rfl
 ·intro hc0;have hB:(b3g n ss fl ins ws)=false:=by
   cases hq:(b3g n ss fl ins ws) with
   |false=>rfl
   |true=>simp [hq] at hc0
  apply yR [4,5];apply (zr);rw [hB,b3e];exact rta
 ·intro hc0;have hB:(b3g n ss fl ins ws)=true:=by
   cases hq:(b3g n ss fl ins ws) with
   |true=>rfl
   |false=>simp [hq] at hc0
  have hc:=b5c hB;apply zn [3];apply yR [3,6];apply b0e;intros;apply yR [6,14,15,16];apply b0g;intros;apply b05 (fun i=>⟨[(6,.ref 0),(14,sQ rQa fl),(15,.int .i64 fl.length),(16,.int .i64 (Zc i))],[.arr ((b3v fl i).map Ze) .flat],false,29,0⟩) (fun i=>i≤fl.length) (fun i=>fl.length - i) 0
  ·apply b0d [6,14,15,16] [3];rfl
  ·exact qle _
  ·rintro i hok10 Q10 n10 e10 r10;have hi1:i≤fl.length:=hok10;apply yR [6,14,15,16,17];apply b0e;intros;apply b0c _ rfl
   ·intro hc1;have hlt:i < fl.length:=by omega
    obtain ⟨⟨x0,x1,x2,x3,x4⟩,hx⟩:∃x:TA,fl[i]? =some x:=⟨fl[i]'(by omega),qla (by omega)⟩;have hkx:=(hc.ds.hap _ (qlb hx)).1;simp only [] at hkx;have hfl:=d89 fl i;have h12:=hc.ds.hfl;apply zn [6,14,15,16];apply b0e;intros;apply b0g;intros;have F:=Fc.mk (gdm hx);apply yR [6,8,14,15,16];apply yRc [6,8,14,15,16,21] (c9q x0 x1 x2 x3 x4 hkx);apply b0c _ rfl
    ·intro hc2;have hst:=d8o hx hc2;have hsn:(b3v fl i).map Ze++[Ze x0]=(b3v fl (i+1)).map Ze:=by rw [hst];simp only [aQ,fQ,Zd];try rfl
     apply yQ [6,14,15,16];apply (yV);apply n10 _ (i+1)
     ·apply b0d [6,14,15,16] [3]
      (try simp only [aQ,fQ]);rw [←hsn];rfl
     ·exact hlt
     ·show _ < _;omega
    ·intro hc2;have hst:=f4o hx hc2;apply zn [6,14,15,16];apply (yV);apply n10 _ (i+1)
     ·apply b0d [6,14,15,16] [0];rw [hst];rfl
     ·exact hlt
     ·show _ < _;omega
   ·intro hc1;have hend:i=fl.length:=by omega
    subst hend;apply zn [6];apply yR [4,5];apply (zr);rw [hB,b14];exact rta
set_option maxRecDepth 100000 in
theorem c3i (n:Int) (ss:List TS) (fl:List TA) (ins:List TI) (ws:List TW) (m:Int) (hs:ss.length≤1048576) (hl:fl.length≤1048576) (hls:∀t∈fl,t.1.size≤9223372036854775807) (hil:ins.length≤1048576) (hin:∀x∈ins,x.2.2.2.length≤1048576) (his:∀x∈ins,∀s∈x.2.2.2,s.size≤9223372036854775807) (hwl:ws.length≤1048576) (hwn:∀x∈ws,x.2.length≤1048576):Con prog 13 [tQ n ss,kQ fl ins ws,.int .i64 m] [] (.tup [.ref 0,.bool (atB n ss fl ins ws m)]) [.arr ((b3r (atB n ss fl ins ws m) (b4n fl ins m)).map (Za .i64)) .flat]:=by
 apply zcn [.tmp 6,.tmp 7] [] func13 ntmps13;intro _ _ _;have T:=tqa (c2r Y3 Y4 Y9 Y24 Y26 Y28 Y29 Y30 Y32 Y41 Y48 Y69) (tq5 Y72 Y81 Y96 Y98 b7w);have F:=Fc.mk True.intro;apply yR [2,3,4];apply b0e;intros;apply c5h [2,4,23] (b45 n ss hs) (b4z n ss fl ins ws hs hl hls hil hin his hwl hwn) (b5p ins m hil);apply b0c _ rfl
 ·intro hc0;have hB:(atB n ss fl ins ws m)=false:=by
   rw [atB];cases hq:(b3g n ss fl ins ws) with
   |false=>rfl
   |true=>(have ht:=b5b hq;simp [hq,ht] at hc0;simp;omega)
  apply yR [6,7];apply (zr);rw [hB,b3e];exact rta
 ·intro hc0;have hB:(atB n ss fl ins ws m)=true:=by
   rw [atB];cases hq:(b3g n ss fl ins ws) with
   |false=>simp [hq] at hc0
   |true=>(have ht:=b5b hq;simp [hq,ht] at hc0;simp;omega)
  have hB2:=hB;rw [atB,qlg,decide_eq_true_eq] at hB2;have hc:=b5c hB2.1;obtain ⟨k,t,hk1,hk2,hk3⟩:=b83 hB2.2;obtain ⟨t0,t1,t2,t3⟩:=t;have hkl:k < ins.length:=(qlc.1 hk1).1;have hna:=c6l hk3 hk1;simp only [] at hna;have hnl:=hin _ (qlb hk1);simp only [] at hnl;have hnm:=hc.names _ (qlb hk1);simp only [] at hnm;apply zn [2,4];have F:=fq3 hk3 @qlh (gdm hk1);apply yR [2,4,8];apply b0e;intros;apply b0e;intro _ n8 _ _;apply b1b (by kernel_rfl);intro _ q9 k9;show b13 _ _ _ _ 11 (Zb 11 false) _;refine zdU q9 true 0 24 ?_;refine b08 q9 true 1 25 ?_;refine zdU q9 true 2 26 ?_;refine b08 q9 true 3 27 ?_;refine zdU q9 true 4 28 ?_;refine zdU q9 true 10 34 ?_;apply zoc 5 (b5p ins m hil);refine b0z q9 true 6 30 ?_;refine zdU q9 true 7 31 ?_;refine b08 q9 true 8 32 ?_;refine d6y q9 true 9 33 ?_;apply b0b (by kernel_rfl);apply k9 _;apply n8 _ _ (b0a [4,8,32,33,34] _);apply (zk);apply b0g;intros;apply b05 (fun i=>⟨[(4,.ptr 1 0 0),(8,.ref 0),(32,.sl (t3.map Ze)),(33,.int .i64 t3.length),(34,.int .i64 (Zc i))],[.arr (((t3.take i).map (stA fl)).map (Za .i64)) .flat,.box (kQ fl ins ws) .shal],false,52,0⟩) (fun i=>i≤t3.length) (fun i=>t3.length - i) 0
  ·apply b0d [4,8,32,33,34] [3,1];rfl
  ·exact qle _
  ·rintro i hok11 Q11 n11 e11 r11;have hi1:i≤t3.length:=hok11;apply yR [4,8,32,33,34,35];apply b0e;intros;apply b0c _ rfl
   ·intro hc1;have hlt:i < t3.length:=by omega
    obtain ⟨s,hx⟩:∃s,t3[i]? =some s:=⟨_,qla hlt⟩;obtain ⟨q,y,hy1,hy2,hy3⟩:=c02 (hnm s (qlb hx));obtain ⟨y0,y1,y2,y3,y4⟩:=y;have hql:q < fl.length:=(qlc.1 hy1).1;have hst:=c9h hy3 hy1;simp only [] at hst;have hsn:((t3.take i).map (stA fl)).map (Za .i64)++[Za .i64 y4]=((t3.take (i+1)).map (stA fl)).map (Za .i64):=by rw [b2t hx,hst];simp only [aQ,fQ,Zd];try rfl
    have hti:(t3.take i).length=i:=by rw [qlj];omega
    apply zn [4,8,32,33,34];apply b0e;intro _ n15 _ _;apply b0g;intro _ n16 _ _ _;have F:=fq7 hk3 @qlh (gdm hk1) (gdm hx) hy3 (gdm hy1) hti;apply yR [4,8,10,32,33,34];apply b1b (by kernel_rfl);intro _ q18 k18;show b13 _ _ _ _ 13 (Zb 13 false) _;refine zdU q18 true 0 38 ?_;refine zdU q18 true 1 39 ?_;refine b08 q18 true 2 40 ?_;refine zdU q18 true 3 41 ?_;refine b08 q18 true 4 42 ?_;refine zdU q18 true 5 43 ?_;apply zoc 6 (b6w fl s hl);refine b0z q18 true 7 45 ?_;refine zdU q18 true 8 46 ?_;refine b08 q18 true 9 47 ?_;apply b1j 10;apply b0l 11;apply b0q 12;apply b0b (by kernel_rfl);apply k18 _;apply n16 _;apply n15 _ _ (b0a [4,8,32,33,34] _);apply (zk);apply (yV);apply n11 _ (i+1)
    ·apply b0d [4,8,32,33,34] [3,1]
     (try simp only [aQ,fQ]);rw [←hsn];rfl
    ·exact hlt
    ·show _ < _;omega
   ·intro hc1;have hend:i=t3.length:=by omega
    subst hend;apply zn [8];apply yR [6,7];apply (zr);rw [hB,b14,b4n,hna];rw [ql9];exact rta
set_option maxRecDepth 100000 in
theorem c23 (n:Int) (ss:List TS) (fl:List TA) (ins:List TI) (ws:List TW) (m:Int) (hs:ss.length≤1048576) (hl:fl.length≤1048576) (hls:∀t∈fl,t.1.size≤9223372036854775807) (hil:ins.length≤1048576) (hin:∀x∈ins,x.2.2.2.length≤1048576) (his:∀x∈ins,∀s∈x.2.2.2,s.size≤9223372036854775807) (hwl:ws.length≤1048576) (hwn:∀x∈ws,x.2.length≤1048576):Con prog 14 [tQ n ss,kQ fl ins ws,.int .i64 m] [] (.tup [.ref 0,.bool (atB n ss fl ins ws m)]) [.arr ((b3r (atB n ss fl ins ws m) (b4n fl ins m)).map (Za .i64)) .flat]:=by
 apply zcn [.tmp 6,.tmp 7] [] func14 ntmps14;intro _ _ _;have T:=tqa (c2r Y3 Y4 Y9 Y24 Y26 Y28 Y29 Y30 Y32 Y41 Y48 Y81) (tq3 Y96 Y98 b7w);have F:=Fc.mk True.intro;apply yR [2,3,4];apply b0e;intros;apply d6n [2,4,21] (b5n n ss fl ins ws hs hl hls hil hin his hwl hwn) (b54 ins m hil);apply b0c _ rfl
 ·intro hc0;have hB:(atB n ss fl ins ws m)=false:=by
   rw [atB];cases hq:(b3g n ss fl ins ws) with
   |false=>rfl
   |true=>(have ht:=b5b hq;simp [hq,ht] at hc0;simp;omega)
  apply yR [6,7];apply (zr);rw [hB,b3e];exact rta
 ·intro hc0;have hB:(atB n ss fl ins ws m)=true:=by
   rw [atB];cases hq:(b3g n ss fl ins ws) with
   |false=>simp [hq] at hc0
   |true=>(have ht:=b5b hq;simp [hq,ht] at hc0;simp;omega)
  have hB2:=hB;rw [atB,qlg,decide_eq_true_eq] at hB2;have hc:=b5c hB2.1;obtain ⟨k,t,hk1,hk2,hk3⟩:=b83 hB2.2;obtain ⟨t0,t1,t2,t3⟩:=t;have hkl:k < ins.length:=(qlc.1 hk1).1;have hna:=c6l hk3 hk1;simp only [] at hna;have hnl:=hin _ (qlb hk1);simp only [] at hnl;have hnm:=hc.names _ (qlb hk1);simp only [] at hnm;apply zn [2,4];have F:=fq3 hk3 @qlh (gdm hk1);apply yR [2,4,8];apply b0e;intros;apply b0e;intro _ n8 _ _;apply b1b (by kernel_rfl);intro _ q9 k9;show b13 _ _ _ _ 11 (Zb 11 false) _;refine zdU q9 true 0 22 ?_;refine b08 q9 true 1 23 ?_;refine zdU q9 true 2 24 ?_;refine b08 q9 true 3 25 ?_;refine zdU q9 true 4 26 ?_;refine zdU q9 true 10 32 ?_;apply zoc 5 (b54 ins m hil);refine b0z q9 true 6 28 ?_;refine zdU q9 true 7 29 ?_;refine b08 q9 true 8 30 ?_;refine d6y q9 true 9 31 ?_;apply b0b (by kernel_rfl);apply k9 _;apply n8 _ _ (b0a [4,8,30,31,32] _);apply (zk);apply b0g;intros;apply b05 (fun i=>⟨[(4,.ptr 1 0 0),(8,.ref 0),(30,.sl (t3.map Ze)),(31,.int .i64 t3.length),(32,.int .i64 (Zc i))],[.arr (((t3.take i).map (stA fl)).map (Za .i64)) .flat,.box (kQ fl ins ws) .shal],false,50,0⟩) (fun i=>i≤t3.length) (fun i=>t3.length - i) 0
  ·apply b0d [4,8,30,31,32] [3,1];rfl
  ·exact qle _
  ·rintro i hok11 Q11 n11 e11 r11;have hi1:i≤t3.length:=hok11;apply yR [4,8,30,31,32,33];apply b0e;intros;apply b0c _ rfl
   ·intro hc1;have hlt:i < t3.length:=by omega
    obtain ⟨s,hx⟩:∃s,t3[i]? =some s:=⟨_,qla hlt⟩;obtain ⟨q,y,hy1,hy2,hy3⟩:=c02 (hnm s (qlb hx));obtain ⟨y0,y1,y2,y3,y4⟩:=y;have hql:q < fl.length:=(qlc.1 hy1).1;have hst:=c9h hy3 hy1;simp only [] at hst;have hsn:((t3.take i).map (stA fl)).map (Za .i64)++[Za .i64 y4]=((t3.take (i+1)).map (stA fl)).map (Za .i64):=by rw [b2t hx,hst];simp only [aQ,fQ,Zd];try rfl
    have hti:(t3.take i).length=i:=by rw [qlj];omega
    apply zn [4,8,30,31,32];apply b0e;intro _ n15 _ _;apply b0g;intro _ n16 _ _ _;have F:=fq7 hk3 @qlh (gdm hk1) (gdm hx) hy3 (gdm hy1) hti;apply yR [4,8,10,30,31,32];apply b1b (by kernel_rfl);intro _ q18 k18;show b13 _ _ _ _ 13 (Zb 13 false) _;refine zdU q18 true 0 36 ?_;refine zdU q18 true 1 37 ?_;refine b08 q18 true 2 38 ?_;refine zdU q18 true 3 39 ?_;refine b08 q18 true 4 40 ?_;refine zdU q18 true 5 41 ?_;apply zoc 6 (b6v fl s hl);refine b0z q18 true 7 43 ?_;refine zdU q18 true 8 44 ?_;refine b08 q18 true 9 45 ?_;apply b1j 10;apply b0l 11;apply b0q 12;apply b0b (by kernel_rfl);apply k18 _;apply n16 _;apply n15 _ _ (b0a [4,8,30,31,32] _);apply (zk);apply (yV);apply n11 _ (i+1)
    ·apply b0d [4,8,30,31,32] [3,1]
     (try simp only [aQ,fQ]);rw [←hsn];rfl
    ·exact hlt
    ·show _ < _;omega
   ·intro hc1;have hend:i=t3.length:=by omega
    subst hend;apply zn [8];apply yR [6,7];apply (zr);rw [hB,b14,b4n,hna];rw [ql9];exact rta
set_option maxRecDepth 100000 in
theorem c5d (n:Int) (ss:List TS) (fl:List TA) (ins:List TI) (ws:List TW) (hs:ss.length≤1048576) (hl:fl.length≤1048576) (hls:∀t∈fl,t.1.size≤9223372036854775807) (hil:ins.length≤1048576) (hin:∀x∈ins,x.2.2.2.length≤1048576) (his:∀x∈ins,∀s∈x.2.2.2,s.size≤9223372036854775807) (hwl:ws.length≤1048576) (hwn:∀x∈ws,x.2.length≤1048576):Con prog 12 [tQ n ss,kQ fl ins ws] [] (.tup [.ref 0,.bool (b3g n ss fl ins ws)]) [.arr ((b3r (b3g n ss fl ins ws) (b4o ws ws.length)).map (Za .i64)) .flat]:=by
 apply zcn [.tmp 4,.tmp 5] [] func12 ntmps12;intro _ _ _;have T:=tqa (c2r Y3 Y4 Y9 Y24 Y26 Y28 Y29 Y30 Y32 Y41 Y48 Y69) (tq5 Y72 Y81 Y96 Y98 b7w);have F:=Fc.mk True.intro;apply yR [2,3];apply b0e;intros;apply d6n [3,16] (b45 n ss hs) (b4z n ss fl ins ws hs hl hls hil hin his hwl hwn);apply b0c _ rfl
 ·intro hc0;have hB:(b3g n ss fl ins ws)=false:=by
   cases hq:(b3g n ss fl ins ws) with
   |false=>rfl
   |true=>(have ht:=b5b hq;simp [hq,ht] at hc0)
  apply yR [4,5];apply (zr);rw [hB,b3e];exact rta
 ·intro hc0;have hB:(b3g n ss fl ins ws)=true:=by
   cases hq:(b3g n ss fl ins ws) with
   |true=>rfl
   |false=>simp [hq] at hc0
  have hc:=b5c hB;have hwd:=c9w hc;apply zn [3];apply yR [3,6];apply b0e;intros;apply yR [6,19,20,21];apply b0g;intros;apply b05 (fun i=>⟨[(6,.ref 0),(19,sQ rQc ws),(20,.int .i64 ws.length),(21,.int .i64 (Zc i))],[.arr ((b4o ws i).map (Za .i64)) .flat],false,43,0⟩) (fun i=>i≤ws.length) (fun i=>ws.length - i) 0
  ·apply b0d [6,19,20,21] [3];rfl
  ·exact qle _
  ·rintro i hok10 Q10 n10 e10 r10;have hi1:i≤ws.length:=hok10;apply yR [6,19,20,21,22];apply b0e;intros;apply b0c _ rfl
   ·intro hc1;have hlt:i < ws.length:=by omega
    obtain ⟨⟨x0,x1⟩,hx⟩:∃x:TW,ws[i]? =some x:=⟨ws[i]'(by omega),qla (by omega)⟩;have hw4:=hwd _ (qlb hx);simp only [] at hw4;have h8:=hc.ws8;have hst:=b8d hx;simp only [] at hst;have hsl:=b4k ws i;apply zn [6,19,20,21];apply b0e;intros;apply b0g;intros;have F:=Fc.mk (gdm hx);apply yR [6,8,19,20,21];apply yR [6,19,20,21,26,27,28];apply b0g;intros;apply b05 (fun j=>⟨[(6,.ref 0),(19,sQ rQc ws),(20,.int .i64 ws.length),(21,.int .i64 (Zc i)),(26,.sl (x1.map (Za .i64))),(27,.int .i64 x1.length),(28,.int .i64 (Zc j))],[.arr ((c7y (b4o ws i) (x1.take j)).map (Za .i64)) .flat],false,43,0⟩) (fun j=>j≤4) (fun j=>4 - j) 0
    ·apply b0d [6,19,20,21,26,27,28] [0];rw [qm4,c8c];rfl
    ·exact qle _
    ·rintro j hok19 Q19 n19 e19 r19;have hj1:j≤4:=hok19;apply yR [6,19,20,21,26,27,28,29];apply b0e;intros;apply b0c _ rfl
     ·intro hc2;have hlj:j < 4:=by omega
      obtain ⟨z,hz⟩:∃z,x1[j]? =some z:=⟨_,qla (by omega)⟩;obtain ⟨v,hv⟩:∃v,(b4o ws i)[j]? =some v:=⟨_,qla (by omega)⟩;have hvb:=b8g hwd i v (qlb hv);have hzb:=hw4.2 z (qlb hz);obtain ⟨ha1,ha2⟩:=c88 hv hz;have hal:(c7y (b4o ws i) (x1.take j)).length=4:=by rw [c8i];exact hsl
      have hsm:((c7y (b4o ws i) (x1.take j)).map (Za .i64)).set j (Za .i64 (v+z))=(c7y (b4o ws i) (x1.take (j+1))).map (Za .i64):=by rw [←ha2,qmx]
      apply zn [6,19,20,21,26,27,28];apply b0e;intros;apply b0g;intros;have F:=fq5 (gdm hx) (gdm hz) (gdm ha1) hal hsm;apply yR [6,9,10,19,20,21,26,27,28];apply yQ [6,19,20,21,26,27,28];apply (yV);apply n19 _ (j+1)
      ·apply b0d [6,19,20,21,26,27,28] [0];rfl
      ·exact hlj
      ·show _ < _;omega
     ·intro hc2;have hej:j=4:=by omega
      apply zn [6,19,20,21];apply (yV);apply n10 _ (i+1)
      ·apply b0d [6,19,20,21] [0];rw [hst,hej,ql3 (by omega)];rfl
      ·exact hlt
      ·show _ < _;omega
   ·intro hc1;have hend:i=ws.length:=by omega
    subst hend;apply zn [6];apply yR [4,5];apply (zr);rw [hB,b14];exact rta
set_option maxRecDepth 100000 in
theorem b7v (n:Int) (ss:List TS) (fl:List TA) (ins:List TI) (ws:List TW) (hs:ss.length≤1048576) (hl:fl.length≤1048576) (hls:∀t∈fl,t.1.size≤9223372036854775807) (hil:ins.length≤1048576) (hin:∀x∈ins,x.2.2.2.length≤1048576) (his:∀x∈ins,∀s∈x.2.2.2,s.size≤9223372036854775807) (hwl:ws.length≤1048576) (hwn:∀x∈ws,x.2.length≤1048576):Con prog 11 [tQ n ss,kQ fl ins ws] [] (.tup [.ref 0,.bool (b3g n ss fl ins ws)]) [.arr ((b3r (b3g n ss fl ins ws) (b4o ws ws.length)).map (Za .i64)) .flat]:=by
 apply zcn [.tmp 4,.tmp 5] [] func11 ntmps11;intro _ _ _;have T:=tqa (c2r Y3 Y4 Y9 Y24 Y26 Y28 Y29 Y30 Y32 Y41 Y48 Y81) (tq3 Y96 Y98 b7w);have F:=Fc.mk True.intro;apply yR [2,3];apply b0e;intros;apply yRc [3,14] (b5n n ss fl ins ws hs hl hls hil hin his hwl hwn);apply b0c _ rfl
 ·intro hc0;have hB:(b3g n ss fl ins ws)=false:=by
   cases hq:(b3g n ss fl ins ws) with
   |false=>rfl
   |true=>simp [hq] at hc0
  apply yR [4,5];apply (zr);rw [hB,b3e];exact rta
 ·intro hc0;have hB:(b3g n ss fl ins ws)=true:=by
   cases hq:(b3g n ss fl ins ws) with
   |true=>rfl
   |false=>simp [hq] at hc0
  have hc:=b5c hB;have hwd:=c9w hc;apply zn [3];apply yR [3,6];apply b0e;intros;apply yR [6,17,18,19];apply b0g;intros;apply b05 (fun i=>⟨[(6,.ref 0),(17,sQ rQc ws),(18,.int .i64 ws.length),(19,.int .i64 (Zc i))],[.arr ((b4o ws i).map (Za .i64)) .flat],false,41,0⟩) (fun i=>i≤ws.length) (fun i=>ws.length - i) 0
  ·apply b0d [6,17,18,19] [3];rfl
  ·exact qle _
  ·rintro i hok10 Q10 n10 e10 r10;have hi1:i≤ws.length:=hok10;apply yR [6,17,18,19,20];apply b0e;intros;apply b0c _ rfl
   ·intro hc1;have hlt:i < ws.length:=by omega
    obtain ⟨⟨x0,x1⟩,hx⟩:∃x:TW,ws[i]? =some x:=⟨ws[i]'(by omega),qla (by omega)⟩;have hw4:=hwd _ (qlb hx);simp only [] at hw4;have h8:=hc.ws8;have hst:=b8d hx;simp only [] at hst;have hsl:=b4k ws i;apply zn [6,17,18,19];apply b0e;intros;apply b0g;intros;have F:=Fc.mk (gdm hx);apply yR [6,8,17,18,19];apply yR [6,17,18,19,24,25,26];apply b0g;intros;apply b05 (fun j=>⟨[(6,.ref 0),(17,sQ rQc ws),(18,.int .i64 ws.length),(19,.int .i64 (Zc i)),(24,.sl (x1.map (Za .i64))),(25,.int .i64 x1.length),(26,.int .i64 (Zc j))],[.arr ((c7y (b4o ws i) (x1.take j)).map (Za .i64)) .flat],false,41,0⟩) (fun j=>j≤4) (fun j=>4 - j) 0
    ·apply b0d [6,17,18,19,24,25,26] [0];rw [qm4,c8c];rfl
    ·exact qle _
    ·rintro j hok19 Q19 n19 e19 r19;have hj1:j≤4:=hok19;apply yR [6,17,18,19,24,25,26,27];apply b0e;intros;apply b0c _ rfl
     ·intro hc2;have hlj:j < 4:=by omega
      obtain ⟨z,hz⟩:∃z,x1[j]? =some z:=⟨_,qla (by omega)⟩;obtain ⟨v,hv⟩:∃v,(b4o ws i)[j]? =some v:=⟨_,qla (by omega)⟩;have hvb:=b8g hwd i v (qlb hv);have hzb:=hw4.2 z (qlb hz);obtain ⟨ha1,ha2⟩:=c88 hv hz;have hal:(c7y (b4o ws i) (x1.take j)).length=4:=by rw [c8i];exact hsl
      have hsm:((c7y (b4o ws i) (x1.take j)).map (Za .i64)).set j (Za .i64 (v+z))=(c7y (b4o ws i) (x1.take (j+1))).map (Za .i64):=by rw [←ha2,qmx]
      apply zn [6,17,18,19,24,25,26];apply b0e;intros;apply b0g;intros;have F:=fq5 (gdm hx) (gdm hz) (gdm ha1) hal hsm;apply yR [6,9,10,17,18,19,24,25,26];apply yQ [6,17,18,19,24,25,26];apply (yV);apply n19 _ (j+1)
      ·apply b0d [6,17,18,19,24,25,26] [0];rfl
      ·exact hlj
      ·show _ < _;omega
     ·intro hc2;have hej:j=4:=by omega
      apply zn [6,17,18,19];apply (yV);apply n10 _ (i+1)
      ·apply b0d [6,17,18,19] [0];rw [hst,hej,ql3 (by omega)];rfl
      ·exact hlt
      ·show _ < _;omega
   ·intro hc1;have hend:i=ws.length:=by omega
    subst hend;apply zn [6];apply yR [4,5];apply (zr);rw [hB,b14];exact rta
theorem b5t:b1w 0=.flat:=rfl
set_option maxRecDepth 100000 in
theorem d57 (n:Int) (ss:List TS) (fl:List TA) (ins:List TI) (ws:List TW) (s:ByteArray) (hl:fl.length≤1048576) (hil:ins.length≤1048576) (hin:∀x∈ins,x.2.2.2.length≤1048576) (hwl:ws.length≤1048576) (hwn:∀x∈ws,x.2.length≤1048576) (hB:(b3g n ss fl ins ws)=true):Con prog 123 [kQ fl ins ws,.str s] [] (.tup [.agg [.ref 0,.ref 1,.ref 2],.bool (d23 fl s)]) [aQ rQa (b3r (d23 fl s) (g0h fl ins s)),fQ rQb (b3r (d23 fl s) ins),fQ rQc (b3r (d23 fl s) ws)]:=by
 apply zcn [.cell 4 32,.tmp 5] [] func123 ntmps123;intro _ _ _;have T:=c2r Y3 Y4 Y9 Y28 Y29 Y30 Y32 Y41 Y48 Y81 Y96 Y98;have F:=Fc.mk True.intro;rcases c4d fl s with hf | ⟨k,⟨a0,a1,a2,a3,a4⟩,ha3,ha1,ha2⟩
 ·skip;have hneg:decide (b4l fl s < (0:Int))=true:=by rw [hf];rfl
  have hA:(d23 fl s)=false:=by rw [d23,decide_eq_false (by omega)];rfl
  have F:=Fc.mk hneg;apply yR [1,2,4];apply yRc [1,2,4,6] (b6v fl s hl);apply b0e;intros;apply yR [1,2,4,6,23];apply b2a _ rfl
  ·intro hc0;try simp only [zC,reduceCtorEq] at hc0
   have hA:(d23 fl s)=false:=by
    first
    |exact hA
    |(cases hq:(d23 fl s) with
     |false=>rfl
     |true=>(exfalso;rw [d23,hsa] at hq;simp at hq hc0;exact hc0 hq.2))
   apply yR [4,5];apply (zq3);simp only [aQ,fQ,hA,b3e,List.map_nil,List.length_nil,b5t];exact rta
  ·intro hc0;exfalso;simp at hc0
 ·skip;have hc:=b5c hB;simp only [] at ha2;have hsa:=c9h ha3 ha1;simp only [] at hsa;have hkl:k < fl.length:=(qlc.1 ha1).1;have hk0:decide ((k:Int) < (0:Int))=false:=decide_eq_false (by omega);have F:=fq4 ha3 @qlh hk0 (gdm ha1);apply yR [1,2,4];apply yRc [1,2,4,6] (b6v fl s hl);apply b0e;intros;apply yR [1,2,4,6,23];apply b0c _ rfl
  ·intro hc0;have hA:(d23 fl s)=false:=by
    first
    |exact hA
    |(cases hq:(d23 fl s) with
     |false=>rfl
     |true=>(exfalso;rw [d23,hsa] at hq;simp at hq hc0;exact hc0 hq.2))
   apply yR [4,5];apply (zq3);simp only [aQ,fQ,hA,b3e,List.map_nil,List.length_nil,b5t];exact rta
  ·intro hc0;have hst2:a4=2:=by simpa using hc0
   have hcm:=f6p hc ha1 ha2 hst2;obtain ⟨m,⟨x0,x1,x2,x3⟩,hm1,_,hm3⟩:=c8n hcm;have hml:m < ins.length:=(qlc.1 hm1).1;have hA:(d23 fl s)=true:=by rw [d23,hsa,hst2,ha3,decide_eq_true (show (0:Int)≤(k:Int) by omega)];rfl
   have hAF:=f5x ha3 ha1 hm3 hm1;simp only [] at hAF;have hsm1:(fl.map rQa).set k (V.agg [Ze a0,Za .i64 a1,Za .i64 a2,Za .i64 a3,Za .i64 3])=(fl.set k (a0,a1,a2,a3,3)).map rQa:=by have q:=qmx (f:=rQa) (l:=fl) (i:=k) (a:=(a0,a1,a2,a3,3));exact q.symm
   have hg1:(fl.set k (a0,a1,a2,a3,3))[k]? =some (a0,a1,a2,a3,3):=qlf hkl;have hl1:(fl.set k (a0,a1,a2,a3,3)).length=fl.length:=qlr;have hsm2:((fl.set k (a0,a1,a2,a3,3)).map rQa).set k (V.agg [Ze a0,Za .i64 a1,Za .i64 x1,Za .i64 a3,Za .i64 3])=(fl.set k (a0,a1,x1,a3,3)).map rQa:=by have q:=qmx (f:=rQa) (l:=fl.set k (a0,a1,a2,a3,3)) (i:=k) (a:=(a0,a1,x1,a3,3));rw [List.set_set] at q;exact q.symm
   apply zn [1,2,4,6];have F:=g17 ha3 @qlh hk0 (gdm ha1) hm3 (gdm hm1) hsm1 (gdm hg1) hl1 hsm2;apply yRc [1,2,4,6,7] (b91 fl ins ws hl hil hin hwl hwn);apply yR [1,2,4,6,7,8];apply yR [1,2,4,6,7,8];apply b0e;intro _ n16 _ _;apply b1b (by kernel_rfl);intro _ q17 k17;show b13 _ _ _ _ 11 (Zb 11 false) _;refine zdU q17 true 0 33 ?_;refine b00 q17 true 1 34 ?_;refine zdU q17 true 2 35 ?_;refine b00 q17 true 3 36 ?_;refine zdU q17 true 4 37 ?_;apply zoc 5 (d2x ins s hil hin);refine b0z q17 true 6 39 ?_;refine zdU q17 true 7 40 ?_;refine b00 q17 true 8 41 ?_;refine zdU q17 true 9 42 ?_;apply b06 10;apply b0b (by kernel_rfl);apply k17 _;apply n16 _ _ (b0a [2,4,6,7,8] _);apply (zk);apply yRc [4,7] (c6e fl k a0 a1 x1 a3 3 hl hkl);apply yR [4,5];apply (zq3);simp only [hA,b14];rw [hAF];exact rta
theorem f6o:Con prog 163 [.ref 0,.int .i64 0,.int .i64 0] [eQ] (.tup []) [eQ]:=by
 apply zcn [] [] func163 ntmps163;intro _ _ _;have T:=tq3 Y3 Y4 Y41;have F:=Fc.mk True.intro;apply yR [0,1,2,6];apply b0g;intros;apply b05 (fun i=>⟨[(0,.ref 0),(1,.int .i64 0),(2,.int .i64 0),(6,.int .i64 1)],[eQ],false,49,0⟩) (fun i=>True) (fun i=>0) ()
 ·refine b18 [0,1,2,6] ?_;simp only [b0r,b0k,b0i,b0f,b0n,Nat.reduceEqDiff,reduceIte];all_goals rfl
 ·trivial
 ·rintro i hok3 Q3 n3 e3 r3;have hok:True:=hok3;apply b0e;intros;apply yR [0,1,2,6,12];apply b2a _ rfl
  ·intro hc0;exfalso;simp at hc0
  ·intro hc0;try simp only [zC,reduceCtorEq] at hc0
   apply (zx);apply (zf);exact c2j rfl (by simp) rfl (by simp) (by simp [Blk.kindIs]) (.inl rfl)
theorem g45 (lim:Int):Con prog 141 [.ref 0,.int .i64 0,.int .i64 0,.int .i64 lim] [eQ] (.tup []) [eQ]:=by
 apply zcn [] [(163,[0])] func141 ntmps141;intro _ _ _;have T:=tq4 Y3 Y4 Y41 g2r;have F:=Fc.mk True.intro;apply yR [0,1,2,3,8];apply yR [0,1,2,3,8,9];apply b0g;intros;apply b05 (fun i=>⟨[(0,.ref 0),(1,.int .i64 0),(2,.int .i64 0),(3,.int .i64 lim),(8,.bool true),(9,.bool true)],[eQ],false,134,0⟩) (fun i=>True) (fun i=>0) ()
 ·refine b18 [0,1,2,3,8,9] ?_;simp only [b0r,b0k,b0i,b0f,b0n,Nat.reduceEqDiff,reduceIte];all_goals rfl
 ·trivial
 ·rintro i hok4 Q4 n4 e4 r4;have hok:True:=hok4;apply b0g;intros;apply yR [0,1,2,3,8,9,10];apply b0e;intros;apply yR [0,1,2,3,8,9,10,23];apply b2a _ rfl
  ·intro hc0;try simp only [zC,reduceCtorEq] at hc0
   apply yRl [] (f6o);apply (zr);exact c2j rfl (by simp) rfl (by simp) (by simp [Blk.kindIs]) (.inl rfl)
  ·intro hc0;exfalso;simp at hc0
set_option maxRecDepth 100000 in
theorem d7d:Con prog 173 [.int .u64 0] [] (.int .i64 0) []:=by
 apply zcn [.tmp 2] [] func173 ntmps173;intro _ _ _;have T:=tq5 Y3 Y5 Y9 Y61 f8y;have F:=Fc.mk True.intro;apply yR [0,2];apply b0e;intros;apply yR [0,2,4];apply b2a _ rfl
 ·intro hc0;exfalso;simp at hc0
 ·intro hc0;try simp only [zC,reduceCtorEq] at hc0
  apply zn [0,2];apply b0e;intros;apply yR [0,2,8];apply b2a _ rfl
  ·intro hc1;exfalso;simp at hc1
  ·intro hc1;try simp only [zC,reduceCtorEq] at hc1
   apply zn [0,2];apply b0e;intros;apply yR [0,2,14];apply b2a _ rfl
   ·intro hc2;exfalso;simp at hc2
   ·intro hc2;try simp only [zC,reduceCtorEq] at hc2
    apply zn [0,2];apply b1l [2];intro _ k11;apply (zq2);apply (c4o);apply b5y;intro K k;simp only [zE,zL,zN,b0x,b0s,b0j,Nat.reduceEqDiff,reduceIte,Nat.reduceLT,implies_true,forall_const,reduceCtorEq,V.ofValue,V.ofScalar,V.un,V.gd,b1c,aop,b8t,Int.toNat_natCast,Int.reduceToNat,Nat.reduceAdd,Nat.reduceLeDiff,Nat.reduceMul,underlying9];repeat (refine ai (by first | decide | exact ⟨by decide,by decide⟩ | (intro _;exact ⟨by decide,by decide⟩) | rfl | exact ⟨_,rfl⟩) ?_)
    apply k _;clear k K;apply (c4o);apply (b46);apply (b2h);apply k11 _;apply (zq1);exact b0h rfl (by rfl) (.inl rfl)
theorem f5k:Con prog 142 [.int .u64 0] [] (.int .i64 0) []:=by
 apply zcn [.tmp 2] [] func142 ntmps142;intro _ _ _;have T:=tq3 Y3 Y61 f8y;have F:=Fc.mk True.intro;apply yR [0];apply b0e;intros;apply b2a _ rfl
 ·intro hc0;exfalso;simp at hc0
 ·intro hc0;try simp only [zC,reduceCtorEq] at hc0
  apply zn [0];apply yRc [2] (d7d);apply (zr);exact b0h rfl rfl (.inl rfl)
theorem f2n:Con prog 99 [.ref 0] [eQ] (.tup []) [eQ]:=by
 apply zcn [] [(141,[0])] func99 ntmps99;intro _ n0 _;have T:=tq3 Y3 Y41 f8y;have F:=Fc.mk True.intro;apply yR [0,2];apply b2u;intro _ k2;apply (zq8);apply (c4o);apply zc (f5k);apply zcl (g45 0);apply k2 _;apply n0 _;apply (zf);exact c2j rfl (by simp) rfl (by simp) (by simp [Blk.kindIs]) (.inl rfl)
theorem d0f (zs:List Int) (hl:zs.length < 4611686018427387904):Con prog 99 [.ref 0] [.arr (zs.map (Za .i64)) .flat] (.tup []) [.arr ((b3s zs).map (Za .i64)) .flat]:=by
  by_cases hne:zs=[]
  · subst hne
    have e:b3s []=[]:=qlt.1 (c1l []);rw [e];exact f2n
  · exact f6d zs ⟨_,func99,rfl,rfl⟩ hne (fun blk off cap w h1 h2=>Tryz.slices_Sort_int blk off cap zs w h1 h2 hl)
end Go.Proofs.YtmbbjhopngejaaaGreat
