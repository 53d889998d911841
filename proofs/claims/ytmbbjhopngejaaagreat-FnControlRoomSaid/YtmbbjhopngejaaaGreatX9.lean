/- What functions compute. No condition. -/
import Derived.Test.YtmbbjhopngejaaaGreatX8
set_option linter.all false
open Array renaming replicate → Za
open Nat renaming cast → Zb
namespace Go.Proofs.YtmbbjhopngejaaaGreat
open Go Go.Vm Tryz
set_option maxHeartbeats 8000000
set_option maxRecDepth 8000 in
section
variable (n:Int) (ss:List TS) (fl:List TA) (ins:List TI) (ws:List TW) (hs:ss.length≤1048576) (hl:fl.length≤1048576) (hls:∀t∈fl,t.1.size≤9223372036854775807) (hil:ins.length≤1048576) (hin:∀x∈ins,x.2.2.2.length≤1048576) (his:∀x∈ins,∀s∈x.2.2.2,s.size≤9223372036854775807) (hwl:ws.length≤1048576) (hwn:∀x∈ws,x.2.length≤1048576)
include n ss fl ins ws hs hl hls hil hin his hwl hwn
theorem b4z:Con prog 33 [.pv [tQ n ss] 0 0,.pv [kQ fl ins ws] 0 0] [] (.bool (b3g n ss fl ins ws)) []:=by
 apply zcn [.tmp 4] [] func33 ntmps33;intro _ _ _;have T:=tqa (c2r Y3 Y4 Y9 Y24 Y26 Y28 Y29 Y30 Y32 Y41 Y48 Y69) (tq4 Y81 Y96 Y98 b7w);have F:=Fc.mk True.intro;apply yR [0,1];apply b0e;intros;apply d6n [0,1,35] (c7x n ss fl hs hl hls) (c7v ins hil hin his);apply b0c _ rfl
 ·intro hc0;have hh:d3r n ss fl ins ws=false:=by cases hq:d3r n ss fl ins ws with | false=>rfl | true=>(exfalso;simp [d3r] at hq;(try simp at hc0);simp_all;first | done | omega)
  have hbad:=g1c hh;apply yR [4];apply (zr);exact b0h rfl (by rw [hbad]) (.inl rfl)
 ·intro hc0;have hh:d3r n ss fl ins ws=true:=by simp [d3r];(try simp at hc0);first | (simp_all;done) | (simp_all;omega)
  obtain ⟨hd,hnd⟩:=d1x hh;have hfl12:=hd.hfl;have hn14:=hd.hn;apply zn [0,1];apply b0e;intros;apply yR [0,1,39,40,41];apply b0g;intros;apply b05 (fun i=>⟨[(0,.pv [tQ n ss] 0 0),(1,.pv [kQ fl ins ws] 0 0),(39,sQ rQb ins),(40,.int .i64 ins.length),(41,.int .i64 (Zb i))],[],false,136,0⟩) (fun i=>i≤ins.length∧(ins.drop i).all (inP n fl)=ins.all (inP n fl)) (fun i=>ins.length - i) 0
  ·apply b0d [0,1,39,40,41] [];rfl
  ·exact ⟨qle _,rfl⟩
  ·rintro i hok9 Q9 n9 e9 r9;obtain ⟨hi1,hR⟩:=hok9;apply yR [0,1,39,40,41,42];apply b0e;intros;apply b0c _ rfl
   ·intro hc1;have hlt:i < ins.length:=by omega
    obtain ⟨⟨x0,x1,x2,x3⟩,hx⟩:∃x:TI,ins[i]? =some x:=⟨ins[i]'(by omega),qla (by omega)⟩;have hlx:=hin _ (qlb hx);have hnx:=hnd _ (qlb hx);simp only [] at hlx hnx;have hst:=b6h (p:=inP n fl) hx;have hip:inP n fl (x0,x1,x2,x3)=(c1m n x1 && x3.all (fun s=>decide (0≤b4l fl s))):=rfl;have hhb:=b6f (x:=x1) hn14;apply zn [0,1,39,40,41];apply b0e;intros;apply b0g;intros;have F:=Fc.mk (gdm hx);apply yR [0,1,6,39,40,41];apply b0e;intros;apply yRc [0,1,6,39,40,41,49] (c4n n ss x1);apply b0c _ rfl
    ·intro hc2;have hh0:c1m n x1=false:=by first | (simpa using hc2) | (rw [hhb,decide_eq_false (show ¬x1 < n by (try simp at hc2);omega)];simp)
     have hbad:=g47 (ss:=ss) (ws:=ws) (show ins.all (inP n fl)=false by rw [←hR,hst,hip,hh0];rfl);apply yR [4];apply (zr);exact b0h rfl (by rw [hbad]) (.inl rfl)
    ·intro hc2;have hh1:c1m n x1=true:=by first | (simpa using hc2) | (rw [hhb,decide_eq_true hnx,decide_eq_true (show x1 < n by (try simp at hc2);omega)];rfl)
     apply zn [0,1,6,39,40,41];apply yR [0,1,39,40,41,51,52,53];apply b0g;intros;apply b05 (fun j=>⟨[(0,.pv [tQ n ss] 0 0),(1,.pv [kQ fl ins ws] 0 0),(39,sQ rQb ins),(40,.int .i64 ins.length),(41,.int .i64 (Zb i)),(51,.sl (x3.map V.str)),(52,.int .i64 x3.length),(53,.int .i64 (Zb j))],[],false,136,0⟩) (fun j=>j≤x3.length∧(x3.drop j).all (fun s=>decide (0≤b4l fl s))=x3.all (fun s=>decide (0≤b4l fl s))) (fun j=>x3.length - j) 0
     ·apply b0d [0,1,39,40,41,51,52,53] [];rfl
     ·exact ⟨qle _,rfl⟩
     ·rintro j hok22 Q22 n22 e22 r22;obtain ⟨hj1,hR1⟩:=hok22;apply yR [0,1,39,40,41,51,52,53,54];apply b0e;intros;apply b0c _ rfl
      ·intro hc3;have hlj:j < x3.length:=by omega
       obtain ⟨s,hs1⟩:∃s,x3[j]? =some s:=⟨_,qla hlj⟩;have hst1:=b6h (p:=(fun s=>decide (0≤b4l fl s))) hs1;apply zn [0,1,39,40,41,51,52,53];apply b0e;intros;apply b0g;intros;have F:=fq2 (gdm hx) (gdm hs1);apply yR [0,1,8,39,40,41,51,52,53];apply yRc [0,1,39,40,41,51,52,53,63] (b6w fl s hl);apply b0c _ rfl
       ·intro hc4;have hbad:=g47 (ss:=ss) (ws:=ws) (show ins.all (inP n fl)=false by rw [←hR,hst,hip,show x3.all (fun s=>decide (0≤b4l fl s))=false by rw [←hR1,hst1,decide_eq_false (show ¬0≤b4l fl s by (try simp at hc4);omega)];rfl];simp);apply yR [4];apply (zr);exact b0h rfl (by rw [hbad]) (.inl rfl)
       ·intro hc4;have hfs:0≤b4l fl s:=by (try simp at hc4);omega
        apply zn [0,1,39,40,41,51,52,53];apply (yV);apply n22 _ (j+1)
        ·apply b0d [0,1,39,40,41,51,52,53] [];rfl
        ·exact ⟨by omega,by rw [←hR1,hst1,decide_eq_true hfs];rfl⟩
        ·show _ < _;omega
      ·intro hc3;have hall:x3.all (fun s=>decide (0≤b4l fl s))=true:=by rw [←hR1,b8o (by omega)]
       apply zn [0,1,39,40,41];apply (yV);apply n9 _ (i+1)
       ·apply b0d [0,1,39,40,41] [];rfl
       ·exact ⟨by omega,by rw [←hR,hst,hip,hh1,hall];rfl⟩
       ·show _ < _;omega
   ·intro hc1;have hI:ins.all (inP n fl)=true:=by rw [←hR,b8o (by omega)]
    apply zn [1];apply b0e;intros;apply yR [1,69,70,71];apply b0g;intros;apply b05 (fun i=>⟨[(1,.pv [kQ fl ins ws] 0 0),(69,sQ rQa fl),(70,.int .i64 fl.length),(71,.int .i64 (Zb i))],[],false,136,0⟩) (fun i=>i≤fl.length∧(fl.drop i).all (b57 ins)=fl.all (b57 ins)) (fun i=>fl.length - i) 0
    ·apply b0d [1,69,70,71] [];rfl
    ·exact ⟨qle _,rfl⟩
    ·rintro i hok37 Q37 n37 e37 r37;obtain ⟨hi2,hR2⟩:=hok37;apply yR [1,69,70,71,72];apply b0e;intros;apply b0c _ rfl
     ·intro hc5;have hlt:i < fl.length:=by omega
      obtain ⟨⟨x0,x1,x2,x3,x4⟩,hx⟩:∃x:TA,fl[i]? =some x:=⟨fl[i]'(by omega),qla (by omega)⟩;have hst:=b6h (p:=b57 ins) hx;have hfp:b57 ins (x0,x1,x2,x3,x4)= !(c19 (x0,x1,x2,x3,x4) != decide (0≤b6k ins x0)):=rfl;apply zn [1,69,70,71];apply b0e;intros;apply b0g;intros;have F:=Fc.mk (gdm hx);apply yR [1,10,69,70,71];apply b0e;intro _ n44 _ _;apply b1b (by kernel_rfl);intro _ q45 k45;show b13 _ _ _ _ 11 (Za 11 false) _;refine b08 q45 true 0 75 ?_;refine zdU q45 true 2 77 ?_;refine zdU q45 true 3 78 ?_;refine zdU q45 true 4 79 ?_;refine b08 q45 true 5 80 ?_;refine zdU q45 true 6 81 ?_;refine b08 q45 true 7 82 ?_;apply zoc 1 (g24 x0 x1 x2 x3 x4);apply zoc 8 (b8q ins x0 hil hin);refine b2b q45 true 9 84 ?_;refine b2b q45 true 10 85 ?_;apply b0b (by kernel_rfl);apply k45 _;apply n44 _ _ (b0a [1,69,70,71,85] _);apply (zk);apply b0c _ rfl
      ·intro hc6;have hbad:=g1k (n:=n) (ss:=ss) (ws:=ws) (show fl.all (b57 ins)=false by rw [←hR2,hst,hfp];first | (rw [hc6];rfl) | (simp [c19] at hc6⊢;simp_all;done) | (simp_all [c19];done));apply yR [4];apply (zr);exact b0h rfl (by rw [hbad]) (.inl rfl)
      ·intro hc6;have hgf:b57 ins (x0,x1,x2,x3,x4)=true:=by rw [hfp];first | (rw [hc6];rfl) | (simp [c19] at hc6⊢;simp_all;done) | (simp_all [c19];done)
       apply zn [1,69,70,71];apply (yV);apply n37 _ (i+1)
       ·apply b0d [1,69,70,71] [];rfl
       ·exact ⟨by omega,by rw [←hR2,hst,hgf];rfl⟩
       ·show _ < _;omega
     ·intro hc5;have hF:fl.all (b57 ins)=true:=by rw [←hR2,b8o (by omega)]
      apply zn [1];apply b0e;intros;apply yR [1,90,91,92];apply b0g;intros;apply b05 (fun i=>⟨[(1,.pv [kQ fl ins ws] 0 0),(90,sQ rQc ws),(91,.int .i64 ws.length),(92,.int .i64 (Zb i))],[],false,136,0⟩) (fun i=>i≤ws.length∧∀j,j < i→b6j ins ws j=true) (fun i=>ws.length - i) 0
      ·apply b0d [1,90,91,92] [];rfl
      ·exact ⟨qle _,fun j h=>absurd h (Nat.not_lt_zero _)⟩
      ·rintro i hok52 Q52 n52 e52 r52;obtain ⟨hi3,hR3⟩:=hok52;apply yR [1,90,91,92,93];apply b0e;intros;apply b0c _ rfl
       ·intro hc7;have hlt:i < ws.length:=by omega
        obtain ⟨⟨x0,x1⟩,hx⟩:∃x:TW,ws[i]? =some x:=⟨ws[i]'(by omega),qla (by omega)⟩;have hlx:=hwn _ (qlb hx);simp only [] at hlx;rcases ql8 i with h0 | h0<;>rcases Bool.eq_false_or_eq_true (c3t x1) with hnd4 | hnd4
        ·skip;have hi0:¬((0:Int) < (i:Int)):=by omega
         have hwp:b6j ins ws i=(decide (0≤b3j ins x0) && b3c x1):=by subst h0;exact c5z hx
         obtain ⟨a,m,hm⟩:∃a m,x1=a::m:=by cases x1 with | nil=>(have:=b5i hnd4;simp at this) | cons a m=>exact ⟨a,m,rfl⟩
         subst hm;have hmx:=c40 a m hlx;have hmz:=d2n hnd4;have hrn:b3c (a::m)= !decide (b9o m a=0):=by rw [b3c,hnd4,hmz];rfl
         apply zn [1,90,91,92];apply b0e;intros;apply b0g;intros;have F:=fq5 (gdm hx) hi0 @decide_false @qmo hnd4;apply yR [1,11,12,90,91,92];apply b0e;intro _ n59 _ _;apply b1b (by kernel_rfl);intro _ q60 k60;show b13 _ _ _ _ 38 (Za 38 false) _;refine zdU q60 true 0 97 ?_;refine zdU q60 true 1 98 ?_;refine zdU q60 true 2 99 ?_;refine b08 q60 true 3 100 ?_;refine zdU q60 true 4 101 ?_;refine b08 q60 true 5 102 ?_;apply zoc 6 (b5p ins x0 hil);refine b2b q60 true 7 104 ?_;refine zdU q60 true 8 105 ?_;refine b1n q60 true 9 106 ?_;refine b0y q60 true 10 107 ?_;refine b1n q60 true 11 108 ?_;refine b1n q60 true 12 109 ?_;refine b1n q60 true 13 110 ?_;refine b1n q60 true 14 111 ?_;refine b0p q60 true 15 112 ?_;refine b1n q60 true 16 113 ?_;refine b2s q60 true 17 114 ?_;refine b0u q60 true 18 115 ?_;refine b1n q60 true 19 116 ?_;refine b0p q60 true 20 117 ?_;refine b1n q60 true 21 118 ?_;refine b0p q60 true 22 119 ?_;refine b0y q60 true 23 120 ?_;refine b4s q60 true 24 121 ?_;refine b1s q60 true 25 122 ?_;refine zdU q60 true 26 123 ?_;refine b1n q60 true 27 124 ?_;refine b0p q60 true 28 125 ?_;first
         |apply d3v 29 ((b97 _ hlx))
         |(apply b2w 29 126 26 false rfl rfl (show 126 < 136 by decide) (by kernel_rfl) rfl;(focus first | rfl | (simp only [zV,b01,Nat.reduceEqDiff,reduceIte];done));simp only [zW,b0j,Nat.reduceEqDiff,reduceIte])
         refine b1n q60 true 30 127 ?_;refine b1s q60 true 31 128 ?_;refine zdU q60 true 32 129 ?_;refine b1n q60 true 33 130 ?_;refine b0p q60 true 34 131 ?_;first
         |apply d3v 35 (hmx)
         |(apply b2w 35 132 32 false rfl rfl (show 132 < 136 by decide) (by kernel_rfl) rfl;(focus first | rfl | (simp only [zV,b01,Nat.reduceEqDiff,reduceIte];done));simp only [zW,b0j,Nat.reduceEqDiff,reduceIte])
         refine b0y q60 true 36 133 ?_;refine b1s q60 true 37 134 ?_;apply b0b (by kernel_rfl);apply k60 _;apply n59 _ _ (b0a [1,90,91,92,134] _);apply (zk);apply b0c _ rfl
         ·intro hc8;have hbw:b6j ins ws i=false:=by
           rw [hwp];simp only [hrn]
           (try simp at hc8)
           first | (simp;done) | (simp [hc8];done) | (simp;exact hc8) | (simp;intro q;exact hc8 q) | (rcases hc8 with h | h<;>first | (rw [decide_eq_false (show ¬0≤b3j ins x0 by omega)];simp;done) | (rw [decide_eq_false (show ¬0≤b3j ins x0 by omega)];rfl) | (simp [h];done)) | (simp;intros;simp_all;omega) | (simp;intros;simp_all;done) | (rcases hc8 with h | h<;>simp [h];done) | (simp_all;done)
          have hbad:=f0h (n:=n) (ss:=ss) (fl:=fl) hlt hbw;apply yR [4];apply (zr);exact b0h rfl (by rw [hbad]) (.inl rfl)
         ·intro hc8;have hgw:b6j ins ws i=true:=by
           rw [hwp];simp only [hrn]
           (try simp at hc8)
           first | (simp [hc8];done) | (simp;omega) | (simp_all;done) | (simp_all;omega)
          apply zn [1,90,91,92];apply (yV);apply n52 _ (i+1)
          ·apply b0d [1,90,91,92] [];rfl
          ·exact ⟨by omega,b7f hR3 hgw⟩
          ·show _ < _;omega
        ·skip;have hi0:¬((0:Int) < (i:Int)):=by omega
         have hwp:b6j ins ws i=(decide (0≤b3j ins x0) && b3c x1):=by subst h0;exact c5z hx
         have hmx:=True.intro;have hrn:b3c x1=false:=by rw [b3c,hnd4];rfl
         apply zn [1,90,91,92];apply b0e;intros;apply b0g;intros;have F:=fq8 (gdm hx) hi0 @decide_false @qmo hnd4 @Bool.or_true @Bool.true_or @Bool.not_false;apply yR [1,11,12,90,91,92];apply b0e;intro _ n67 _ _;apply b1b (by kernel_rfl);intro _ q68 k68;show b13 _ _ _ _ 38 (Za 38 false) _;refine zdU q68 true 0 97 ?_;refine zdU q68 true 1 98 ?_;refine zdU q68 true 2 99 ?_;refine b08 q68 true 3 100 ?_;refine zdU q68 true 4 101 ?_;refine b08 q68 true 5 102 ?_;apply zoc 6 (b5p ins x0 hil);refine b2b q68 true 7 104 ?_;refine zdU q68 true 8 105 ?_;refine b1n q68 true 9 106 ?_;refine b0y q68 true 10 107 ?_;refine b1n q68 true 11 108 ?_;refine b1n q68 true 12 109 ?_;refine b1n q68 true 13 110 ?_;refine b1n q68 true 14 111 ?_;refine b0p q68 true 15 112 ?_;refine b1n q68 true 16 113 ?_;refine b2s q68 true 17 114 ?_;refine b0u q68 true 18 115 ?_;refine b1n q68 true 19 116 ?_;refine b0p q68 true 20 117 ?_;refine b1n q68 true 21 118 ?_;refine b0p q68 true 22 119 ?_;refine b0y q68 true 23 120 ?_;refine b4s q68 true 24 121 ?_;refine b1s q68 true 25 122 ?_;refine zdU q68 true 26 123 ?_;refine b1n q68 true 27 124 ?_;refine b0p q68 true 28 125 ?_;first
         |apply d3v 29 ((b97 _ hlx))
         |(apply b2w 29 126 26 false rfl rfl (show 126 < 136 by decide) (by kernel_rfl) rfl;(focus first | rfl | (simp only [zV,b01,Nat.reduceEqDiff,reduceIte];done));simp only [zW,b0j,Nat.reduceEqDiff,reduceIte])
         refine b1n q68 true 30 127 ?_;refine b1s q68 true 31 128 ?_;refine zdU q68 true 32 129 ?_;refine b1n q68 true 33 130 ?_;refine b0p q68 true 34 131 ?_;first
         |apply d3v 35 (hmx)
         |(apply b2w 35 132 32 false rfl rfl (show 132 < 136 by decide) (by kernel_rfl) rfl;(focus first | rfl | (simp only [zV,b01,Nat.reduceEqDiff,reduceIte];done));simp only [zW,b0j,Nat.reduceEqDiff,reduceIte])
         refine b0y q68 true 36 133 ?_;refine b1s q68 true 37 134 ?_;apply b0b (by kernel_rfl);apply k68 _;apply n67 _ _ (b0a [1,90,91,92,134] _);apply (zk);apply b2a _ rfl
         ·intro hc8;try simp only [zC,reduceCtorEq] at hc8
          have hbw:b6j ins ws i=false:=by
           rw [hwp];simp only [hrn]
           (try simp at hc8)
           first | (simp;done) | (simp [hc8];done) | (simp;exact hc8) | (simp;intro q;exact hc8 q) | (rcases hc8 with h | h<;>first | (rw [decide_eq_false (show ¬0≤b3j ins x0 by omega)];simp;done) | (rw [decide_eq_false (show ¬0≤b3j ins x0 by omega)];rfl) | (simp [h];done)) | (simp;intros;simp_all;omega) | (simp;intros;simp_all;done) | (rcases hc8 with h | h<;>simp [h];done) | (simp_all;done)
          have hbad:=f0h (n:=n) (ss:=ss) (fl:=fl) hlt hbw;apply yR [4];apply (zr);exact b0h rfl (by rw [hbad]) (.inl rfl)
         ·intro hc8;exfalso;first | (cases hc8;done) | (simp at hc8;done)
        ·skip;obtain ⟨⟨y0,y1⟩,hy⟩:∃x:TW,ws[i - 1]? =some x:=⟨ws[i - 1]'(by omega),qla (by omega)⟩;have hi0:(0:Int) < i:=by omega
         have hk:((i:Int) - 1).toNat=i - 1:=by omega
         have hwp:=c6g (ins:=ins) h0 hy hx;obtain ⟨a,m,hm⟩:∃a m,x1=a::m:=by cases x1 with | nil=>(have:=b5i hnd4;simp at this) | cons a m=>exact ⟨a,m,rfl⟩
         subst hm;have hmx:=c40 a m hlx;have hmz:=d2n hnd4;have hrn:b3c (a::m)= !decide (b9o m a=0):=by rw [b3c,hnd4,hmz];rfl
         apply zn [1,90,91,92];apply b0e;intros;apply b0g;intros;have F:=fq7 (gdm hx) hi0 hk (gdm hy) @decide_true @qm0 hnd4;apply yR [1,11,12,90,91,92];apply b0e;intro _ n74 _ _;apply b1b (by kernel_rfl);intro _ q75 k75;show b13 _ _ _ _ 38 (Za 38 false) _;refine zdU q75 true 0 97 ?_;refine zdU q75 true 1 98 ?_;refine zdU q75 true 2 99 ?_;refine b08 q75 true 3 100 ?_;refine zdU q75 true 4 101 ?_;refine b08 q75 true 5 102 ?_;apply zoc 6 (b5p ins x0 hil);refine b2b q75 true 7 104 ?_;refine zdU q75 true 8 105 ?_;refine b1n q75 true 9 106 ?_;refine b0y q75 true 10 107 ?_;refine b1n q75 true 11 108 ?_;refine b1n q75 true 12 109 ?_;refine b1n q75 true 13 110 ?_;refine b1n q75 true 14 111 ?_;refine b0p q75 true 15 112 ?_;refine b1n q75 true 16 113 ?_;refine b2s q75 true 17 114 ?_;refine b0u q75 true 18 115 ?_;refine b1n q75 true 19 116 ?_;refine b0p q75 true 20 117 ?_;refine b1n q75 true 21 118 ?_;refine b0p q75 true 22 119 ?_;refine b0y q75 true 23 120 ?_;refine b4s q75 true 24 121 ?_;refine b1s q75 true 25 122 ?_;refine zdU q75 true 26 123 ?_;refine b1n q75 true 27 124 ?_;refine b0p q75 true 28 125 ?_;first
         |apply d3v 29 ((b97 _ hlx))
         |(apply b2w 29 126 26 false rfl rfl (show 126 < 136 by decide) (by kernel_rfl) rfl;(focus first | rfl | (simp only [zV,b01,Nat.reduceEqDiff,reduceIte];done));simp only [zW,b0j,Nat.reduceEqDiff,reduceIte])
         refine b1n q75 true 30 127 ?_;refine b1s q75 true 31 128 ?_;refine zdU q75 true 32 129 ?_;refine b1n q75 true 33 130 ?_;refine b0p q75 true 34 131 ?_;first
         |apply d3v 35 (hmx)
         |(apply b2w 35 132 32 false rfl rfl (show 132 < 136 by decide) (by kernel_rfl) rfl;(focus first | rfl | (simp only [zV,b01,Nat.reduceEqDiff,reduceIte];done));simp only [zW,b0j,Nat.reduceEqDiff,reduceIte])
         refine b0y q75 true 36 133 ?_;refine b1s q75 true 37 134 ?_;apply b0b (by kernel_rfl);apply k75 _;apply n74 _ _ (b0a [1,90,91,92,134] _);apply (zk);apply b0c _ rfl
         ·intro hc8;have hbw:b6j ins ws i=false:=by
           rw [hwp];simp only [hrn]
           (try simp at hc8)
           first | (simp;done) | (simp [hc8];done) | (simp;exact hc8) | (simp;intro q;exact hc8 q) | (rcases hc8 with h | h<;>first | (rw [decide_eq_false (show ¬0≤b3j ins x0 by omega)];simp;done) | (rw [decide_eq_false (show ¬0≤b3j ins x0 by omega)];rfl) | (simp [h];done)) | (simp;intros;simp_all;omega) | (simp;intros;simp_all;done) | (rcases hc8 with h | h<;>simp [h];done) | (simp_all;done)
          have hbad:=f0h (n:=n) (ss:=ss) (fl:=fl) hlt hbw;apply yR [4];apply (zr);exact b0h rfl (by rw [hbad]) (.inl rfl)
         ·intro hc8;have hgw:b6j ins ws i=true:=by
           rw [hwp];simp only [hrn]
           (try simp at hc8)
           first | (simp [hc8];done) | (simp;omega) | (simp_all;done) | (simp_all;omega)
          apply zn [1,90,91,92];apply (yV);apply n52 _ (i+1)
          ·apply b0d [1,90,91,92] [];rfl
          ·exact ⟨by omega,b7f hR3 hgw⟩
          ·show _ < _;omega
        ·skip;obtain ⟨⟨y0,y1⟩,hy⟩:∃x:TW,ws[i - 1]? =some x:=⟨ws[i - 1]'(by omega),qla (by omega)⟩;have hi0:(0:Int) < i:=by omega
         have hk:((i:Int) - 1).toNat=i - 1:=by omega
         have hwp:=c6g (ins:=ins) h0 hy hx;have hmx:=True.intro;have hrn:b3c x1=false:=by rw [b3c,hnd4];rfl
         apply zn [1,90,91,92];apply b0e;intros;apply b0g;intros;have F:=g17 (gdm hx) hi0 hk (gdm hy) @decide_true @qm0 hnd4 @Bool.or_true @Bool.true_or @Bool.not_false;apply yR [1,11,12,90,91,92];apply b0e;intro _ n82 _ _;apply b1b (by kernel_rfl);intro _ q83 k83;show b13 _ _ _ _ 38 (Za 38 false) _;refine zdU q83 true 0 97 ?_;refine zdU q83 true 1 98 ?_;refine zdU q83 true 2 99 ?_;refine b08 q83 true 3 100 ?_;refine zdU q83 true 4 101 ?_;refine b08 q83 true 5 102 ?_;apply zoc 6 (b5p ins x0 hil);refine b2b q83 true 7 104 ?_;refine zdU q83 true 8 105 ?_;refine b1n q83 true 9 106 ?_;refine b0y q83 true 10 107 ?_;refine b1n q83 true 11 108 ?_;refine b1n q83 true 12 109 ?_;refine b1n q83 true 13 110 ?_;refine b1n q83 true 14 111 ?_;refine b0p q83 true 15 112 ?_;refine b1n q83 true 16 113 ?_;refine b2s q83 true 17 114 ?_;refine b0u q83 true 18 115 ?_;refine b1n q83 true 19 116 ?_;refine b0p q83 true 20 117 ?_;refine b1n q83 true 21 118 ?_;refine b0p q83 true 22 119 ?_;refine b0y q83 true 23 120 ?_;refine b4s q83 true 24 121 ?_;refine b1s q83 true 25 122 ?_;refine zdU q83 true 26 123 ?_;refine b1n q83 true 27 124 ?_;refine b0p q83 true 28 125 ?_;first
         |apply d3v 29 ((b97 _ hlx))
         |(apply b2w 29 126 26 false rfl rfl (show 126 < 136 by decide) (by kernel_rfl) rfl;(focus first | rfl | (simp only [zV,b01,Nat.reduceEqDiff,reduceIte];done));simp only [zW,b0j,Nat.reduceEqDiff,reduceIte])
         refine b1n q83 true 30 127 ?_;refine b1s q83 true 31 128 ?_;refine zdU q83 true 32 129 ?_;refine b1n q83 true 33 130 ?_;refine b0p q83 true 34 131 ?_;first
         |apply d3v 35 (hmx)
         |(apply b2w 35 132 32 false rfl rfl (show 132 < 136 by decide) (by kernel_rfl) rfl;(focus first | rfl | (simp only [zV,b01,Nat.reduceEqDiff,reduceIte];done));simp only [zW,b0j,Nat.reduceEqDiff,reduceIte])
         refine b0y q83 true 36 133 ?_;refine b1s q83 true 37 134 ?_;apply b0b (by kernel_rfl);apply k83 _;apply n82 _ _ (b0a [1,90,91,92,134] _);apply (zk);apply b2a _ rfl
         ·intro hc8;try simp only [zC,reduceCtorEq] at hc8
          have hbw:b6j ins ws i=false:=by
           rw [hwp];simp only [hrn]
           (try simp at hc8)
           first | (simp;done) | (simp [hc8];done) | (simp;exact hc8) | (simp;intro q;exact hc8 q) | (rcases hc8 with h | h<;>first | (rw [decide_eq_false (show ¬0≤b3j ins x0 by omega)];simp;done) | (rw [decide_eq_false (show ¬0≤b3j ins x0 by omega)];rfl) | (simp [h];done)) | (simp;intros;simp_all;omega) | (simp;intros;simp_all;done) | (rcases hc8 with h | h<;>simp [h];done) | (simp_all;done)
          have hbad:=f0h (n:=n) (ss:=ss) (fl:=fl) hlt hbw;apply yR [4];apply (zr);exact b0h rfl (by rw [hbad]) (.inl rfl)
         ·intro hc8;exfalso;first | (cases hc8;done) | (simp at hc8;done)
       ·intro hc7;apply zn [];apply yR [4];apply (zr);exact b0h rfl (by rw [f4d hh hI hF (by omega) hR3]) (.inl rfl)
theorem b5l:Con prog 9 [tQ n ss,kQ fl ins ws] [] (.bool (b3g n ss fl ins ws)) []:=by
 apply zcn [.tmp 4] [] func9 ntmps9;intro _ _ _;have T:=tqa (c2r Y3 Y4 Y9 Y24 Y26 Y28 Y29 Y30 Y32 Y41 Y48 Y69) (tq5 Y72 Y81 Y96 Y98 b7w);have F:=Fc.mk True.intro;apply yR [2,3];apply yRc [4] (b4z n ss fl ins ws hs hl hls hil hin his hwl hwn);apply (zr);exact b0h rfl rfl (.inl rfl)
end
set_option maxRecDepth 8000 in
theorem b5n (n:Int) (ss:List TS) (fl:List TA) (ins:List TI) (ws:List TW) (hs:ss.length≤1048576) (hl:fl.length≤1048576) (hls:∀t∈fl,t.1.size≤9223372036854775807) (hil:ins.length≤1048576) (hin:∀x∈ins,x.2.2.2.length≤1048576) (his:∀x∈ins,∀s∈x.2.2.2,s.size≤9223372036854775807) (hwl:ws.length≤1048576) (hwn:∀x∈ws,x.2.length≤1048576):Con prog 41 [tQ n ss,kQ fl ins ws] [] (.bool (b3g n ss fl ins ws)) []:=by
 apply zcn [.tmp 4] [] func41 ntmps41;intro _ _ _;have T:=tqa (c2r Y3 Y4 Y9 Y24 Y26 Y28 Y29 Y30 Y32 Y41 Y48 Y81) (tq3 Y96 Y98 b7w);have F:=Fc.mk True.intro;apply yR [2,3];apply b0e;intros;apply d6n [2,3,29] (f1a n ss fl hs hl hls) (c2m ins hil hin his);apply b0c _ rfl
 ·intro hc0;have hh:d3r n ss fl ins ws=false:=by cases hq:d3r n ss fl ins ws with | false=>rfl | true=>(exfalso;simp [d3r] at hq;(try simp at hc0);simp_all;first | done | omega)
  have hbad:=g1c hh;apply yR [4];apply (zr);exact b0h rfl (by rw [hbad]) (.inl rfl)
 ·intro hc0;have hh:d3r n ss fl ins ws=true:=by simp [d3r];(try simp at hc0);first | (simp_all;done) | (simp_all;omega)
  obtain ⟨hd,hnd⟩:=d1x hh;have hfl12:=hd.hfl;have hn14:=hd.hn;apply zn [2,3];apply b0e;intros;apply yR [2,3,31,32,33];apply b0g;intros;apply b05 (fun i=>⟨[(2,.ptr 0 0 0),(3,.ptr 1 0 0),(31,sQ rQb ins),(32,.int .i64 ins.length),(33,.int .i64 (Zb i))],[.box (tQ n ss) .shal,.box (kQ fl ins ws) .shal],false,111,0⟩) (fun i=>i≤ins.length∧(ins.drop i).all (inP n fl)=ins.all (inP n fl)) (fun i=>ins.length - i) 0
  ·apply b0d [2,3,31,32,33] [0,1];rfl
  ·exact ⟨qle _,rfl⟩
  ·rintro i hok9 Q9 n9 e9 r9;obtain ⟨hi1,hR⟩:=hok9;apply yR [2,3,31,32,33,34];apply b0e;intros;apply b0c _ rfl
   ·intro hc1;have hlt:i < ins.length:=by omega
    obtain ⟨⟨x0,x1,x2,x3⟩,hx⟩:∃x:TI,ins[i]? =some x:=⟨ins[i]'(by omega),qla (by omega)⟩;have hlx:=hin _ (qlb hx);have hnx:=hnd _ (qlb hx);simp only [] at hlx hnx;have hst:=b6h (p:=inP n fl) hx;have hip:inP n fl (x0,x1,x2,x3)=(c1m n x1 && x3.all (fun s=>decide (0≤b4l fl s))):=rfl;have hhb:=b6f (x:=x1) hn14;apply zn [2,3,31,32,33];apply b0e;intros;apply b0g;intros;have F:=Fc.mk (gdm hx);apply yR [2,3,6,31,32,33];apply b0e;intros;apply yR [2,3,6,31,32,33,41];apply b0c _ rfl
    ·intro hc2;have hh0:c1m n x1=false:=by first | (simpa using hc2) | (rw [hhb,decide_eq_false (show ¬x1 < n by (try simp at hc2);omega)];simp)
     have hbad:=g47 (ss:=ss) (ws:=ws) (show ins.all (inP n fl)=false by rw [←hR,hst,hip,hh0];rfl);apply yR [4];apply (zr);exact b0h rfl (by rw [hbad]) (.inl rfl)
    ·intro hc2;have hh1:c1m n x1=true:=by first | (simpa using hc2) | (rw [hhb,decide_eq_true hnx,decide_eq_true (show x1 < n by (try simp at hc2);omega)];rfl)
     apply zn [2,3,6,31,32,33];apply yR [2,3,31,32,33,43,44,45];apply b0g;intros;apply b05 (fun j=>⟨[(2,.ptr 0 0 0),(3,.ptr 1 0 0),(31,sQ rQb ins),(32,.int .i64 ins.length),(33,.int .i64 (Zb i)),(43,.sl (x3.map V.str)),(44,.int .i64 x3.length),(45,.int .i64 (Zb j))],[.box (tQ n ss) .shal,.box (kQ fl ins ws) .shal],false,111,0⟩) (fun j=>j≤x3.length∧(x3.drop j).all (fun s=>decide (0≤b4l fl s))=x3.all (fun s=>decide (0≤b4l fl s))) (fun j=>x3.length - j) 0
     ·apply b0d [2,3,31,32,33,43,44,45] [0,1];rfl
     ·exact ⟨qle _,rfl⟩
     ·rintro j hok22 Q22 n22 e22 r22;obtain ⟨hj1,hR1⟩:=hok22;apply yR [2,3,31,32,33,43,44,45,46];apply b0e;intros;apply b0c _ rfl
      ·intro hc3;have hlj:j < x3.length:=by omega
       obtain ⟨s,hs1⟩:∃s,x3[j]? =some s:=⟨_,qla hlj⟩;have hst1:=b6h (p:=(fun s=>decide (0≤b4l fl s))) hs1;apply zn [2,3,31,32,33,43,44,45];apply b0e;intros;apply b0g;intros;have F:=fq2 (gdm hx) (gdm hs1);apply yR [2,3,8,31,32,33,43,44,45];apply yRc [2,3,31,32,33,43,44,45,53] (b6v fl s hl);apply b0c _ rfl
       ·intro hc4;have hbad:=g47 (ss:=ss) (ws:=ws) (show ins.all (inP n fl)=false by rw [←hR,hst,hip,show x3.all (fun s=>decide (0≤b4l fl s))=false by rw [←hR1,hst1,decide_eq_false (show ¬0≤b4l fl s by (try simp at hc4);omega)];rfl];simp);apply yR [4];apply (zr);exact b0h rfl (by rw [hbad]) (.inl rfl)
       ·intro hc4;have hfs:0≤b4l fl s:=by (try simp at hc4);omega
        apply zn [2,3,31,32,33,43,44,45];apply (yV);apply n22 _ (j+1)
        ·apply b0d [2,3,31,32,33,43,44,45] [0,1];rfl
        ·exact ⟨by omega,by rw [←hR1,hst1,decide_eq_true hfs];rfl⟩
        ·show _ < _;omega
      ·intro hc3;have hall:x3.all (fun s=>decide (0≤b4l fl s))=true:=by rw [←hR1,b8o (by omega)]
       apply zn [2,3,31,32,33];apply (yV);apply n9 _ (i+1)
       ·apply b0d [2,3,31,32,33] [0,1];rfl
       ·exact ⟨by omega,by rw [←hR,hst,hip,hh1,hall];rfl⟩
       ·show _ < _;omega
   ·intro hc1;have hI:ins.all (inP n fl)=true:=by rw [←hR,b8o (by omega)]
    apply zn [3];apply b0e;intros;apply yR [3,57,58,59];apply b0g;intros;apply b05 (fun i=>⟨[(3,.ptr 0 0 0),(57,sQ rQa fl),(58,.int .i64 fl.length),(59,.int .i64 (Zb i))],[.box (kQ fl ins ws) .shal],false,111,0⟩) (fun i=>i≤fl.length∧(fl.drop i).all (b57 ins)=fl.all (b57 ins)) (fun i=>fl.length - i) 0
    ·apply b0d [3,57,58,59] [1];rfl
    ·exact ⟨qle _,rfl⟩
    ·rintro i hok37 Q37 n37 e37 r37;obtain ⟨hi2,hR2⟩:=hok37;apply yR [3,57,58,59,60];apply b0e;intros;apply b0c _ rfl
     ·intro hc5;have hlt:i < fl.length:=by omega
      obtain ⟨⟨x0,x1,x2,x3,x4⟩,hx⟩:∃x:TA,fl[i]? =some x:=⟨fl[i]'(by omega),qla (by omega)⟩;have hst:=b6h (p:=b57 ins) hx;have hfp:b57 ins (x0,x1,x2,x3,x4)= !(c19 (x0,x1,x2,x3,x4) != decide (0≤b6k ins x0)):=rfl;apply zn [3,57,58,59];apply b0e;intros;apply b0g;intros;have F:=Fc.mk (gdm hx);apply yR [3,10,57,58,59];apply b0e;intro _ n44 _ _;apply b1b (by kernel_rfl);intro _ q45 k45;show b13 _ _ _ _ 10 (Za 10 false) _;refine zdU q45 true 0 63 ?_;refine b08 q45 true 1 64 ?_;refine zdU q45 true 3 66 ?_;refine b08 q45 true 4 67 ?_;refine zdU q45 true 5 68 ?_;refine b08 q45 true 6 69 ?_;apply zoc 2 (c2e x4);apply zoc 7 (d2x ins x0 hil hin);refine b2b q45 true 8 71 ?_;refine b2b q45 true 9 72 ?_;apply b0b (by kernel_rfl);apply k45 _;apply n44 _ _ (b0a [3,57,58,59,72] _);apply (zk);apply b0c _ rfl
      ·intro hc6;have hbad:=g1k (n:=n) (ss:=ss) (ws:=ws) (show fl.all (b57 ins)=false by rw [←hR2,hst,hfp];first | (rw [hc6];rfl) | (simp [c19] at hc6⊢;simp_all;done) | (simp_all [c19];done));apply yR [4];apply (zr);exact b0h rfl (by rw [hbad]) (.inl rfl)
      ·intro hc6;have hgf:b57 ins (x0,x1,x2,x3,x4)=true:=by rw [hfp];first | (rw [hc6];rfl) | (simp [c19] at hc6⊢;simp_all;done) | (simp_all [c19];done)
       apply zn [3,57,58,59];apply (yV);apply n37 _ (i+1)
       ·apply b0d [3,57,58,59] [0];rfl
       ·exact ⟨by omega,by rw [←hR2,hst,hgf];rfl⟩
       ·show _ < _;omega
     ·intro hc5;have hF:fl.all (b57 ins)=true:=by rw [←hR2,b8o (by omega)]
      apply zn [3];apply b0e;intros;apply yR [3,75,76,77];apply b0g;intros;apply b05 (fun i=>⟨[(3,.ptr 0 0 0),(75,sQ rQc ws),(76,.int .i64 ws.length),(77,.int .i64 (Zb i))],[.box (kQ fl ins ws) .shal],false,111,0⟩) (fun i=>i≤ws.length∧∀j,j < i→b6j ins ws j=true) (fun i=>ws.length - i) 0
      ·apply b0d [3,75,76,77] [0];rfl
      ·exact ⟨qle _,fun j h=>absurd h (Nat.not_lt_zero _)⟩
      ·rintro i hok52 Q52 n52 e52 r52;obtain ⟨hi3,hR3⟩:=hok52;apply yR [3,75,76,77,78];apply b0e;intros;apply b0c _ rfl
       ·intro hc7;have hlt:i < ws.length:=by omega
        obtain ⟨⟨x0,x1⟩,hx⟩:∃x:TW,ws[i]? =some x:=⟨ws[i]'(by omega),qla (by omega)⟩;have hlx:=hwn _ (qlb hx);simp only [] at hlx;rcases ql8 i with h0 | h0
        ·skip;have hi0:¬((0:Int) < (i:Int)):=by omega
         have hwp:b6j ins ws i=(decide (0≤b3j ins x0) && b3c x1):=by subst h0;exact c5z hx
         apply zn [3,75,76,77];apply b0e;intros;apply b0g;intros;have F:=fq4 (gdm hx) hi0 @decide_false @qmo;apply yR [3,11,12,75,76,77];apply b0e;intro _ n59 _ _;apply b1b (by kernel_rfl);intro _ q60 k60;show b13 _ _ _ _ 28 (Za 28 false) _;refine zdU q60 true 0 82 ?_;refine b08 q60 true 1 83 ?_;refine zdU q60 true 2 84 ?_;refine b08 q60 true 3 85 ?_;apply zoc 4 (b54 ins x0 hil);refine b2b q60 true 5 87 ?_;refine zdU q60 true 6 88 ?_;refine b1n q60 true 7 89 ?_;refine b0p q60 true 8 90 ?_;first
         |apply d3v 9 ((d1q _ hlx))
         |(apply b2w 9 91 6 false rfl rfl (show 91 < 111 by decide) (by kernel_rfl) rfl;(focus first | rfl | (simp only [zV,b01,Nat.reduceEqDiff,reduceIte];done));simp only [zW,b0j,Nat.reduceEqDiff,reduceIte])
         refine b1n q60 true 10 92 ?_;refine b1s q60 true 11 93 ?_;refine zdU q60 true 12 94 ?_;refine b1n q60 true 13 95 ?_;refine b0y q60 true 14 96 ?_;refine b1n q60 true 15 97 ?_;refine b1n q60 true 16 98 ?_;refine b0p q60 true 17 99 ?_;refine b1n q60 true 18 100 ?_;refine b2s q60 true 19 101 ?_;refine b0u q60 true 20 102 ?_;refine b1n q60 true 21 103 ?_;refine b0p q60 true 22 104 ?_;refine b1n q60 true 23 105 ?_;refine b0p q60 true 24 106 ?_;refine b0y q60 true 25 107 ?_;refine b4s q60 true 26 108 ?_;refine b1s q60 true 27 109 ?_;apply b0b (by kernel_rfl);apply k60 _;apply n59 _ _ (b0a [3,75,76,77,109] _);apply (zk);apply b0c _ rfl
         ·intro hc8;have hbw:b6j ins ws i=false:=by
           rw [hwp]
           (try simp at hc8)
           first | (simp;done) | (simp [hc8];done) | (simp;exact hc8) | (simp;intro q;exact hc8 q) | (rcases hc8 with h | h<;>first | (rw [decide_eq_false (show ¬0≤b3j ins x0 by omega)];simp;done) | (rw [decide_eq_false (show ¬0≤b3j ins x0 by omega)];rfl) | (simp [h];done)) | (simp;intros;simp_all;omega) | (simp;intros;simp_all;done) | (rcases hc8 with h | h<;>simp [h];done) | (simp_all;done)
          have hbad:=f0h (n:=n) (ss:=ss) (fl:=fl) hlt hbw;apply yR [4];apply (zr);exact b0h rfl (by rw [hbad]) (.inl rfl)
         ·intro hc8;have hgw:b6j ins ws i=true:=by
           rw [hwp]
           (try simp at hc8)
           first | (simp [hc8];done) | (simp;omega) | (simp_all;done) | (simp_all;omega)
          apply zn [3,75,76,77];apply (yV);apply n52 _ (i+1)
          ·apply b0d [3,75,76,77] [0];rfl
          ·exact ⟨by omega,b7f hR3 hgw⟩
          ·show _ < _;omega
        ·skip;obtain ⟨⟨y0,y1⟩,hy⟩:∃x:TW,ws[i - 1]? =some x:=⟨ws[i - 1]'(by omega),qla (by omega)⟩;have hi0:(0:Int) < i:=by omega
         have hk:((i:Int) - 1).toNat=i - 1:=by omega
         have hwp:=c6g (ins:=ins) h0 hy hx;apply zn [3,75,76,77];apply b0e;intros;apply b0g;intros;have F:=fq6 (gdm hx) hi0 hk (gdm hy) @decide_true @qm0;apply yR [3,11,12,75,76,77];apply b0e;intro _ n67 _ _;apply b1b (by kernel_rfl);intro _ q68 k68;show b13 _ _ _ _ 28 (Za 28 false) _;refine zdU q68 true 0 82 ?_;refine b08 q68 true 1 83 ?_;refine zdU q68 true 2 84 ?_;refine b08 q68 true 3 85 ?_;apply zoc 4 (b54 ins x0 hil);refine b2b q68 true 5 87 ?_;refine zdU q68 true 6 88 ?_;refine b1n q68 true 7 89 ?_;refine b0p q68 true 8 90 ?_;first
         |apply d3v 9 ((d1q _ hlx))
         |(apply b2w 9 91 6 false rfl rfl (show 91 < 111 by decide) (by kernel_rfl) rfl;(focus first | rfl | (simp only [zV,b01,Nat.reduceEqDiff,reduceIte];done));simp only [zW,b0j,Nat.reduceEqDiff,reduceIte])
         refine b1n q68 true 10 92 ?_;refine b1s q68 true 11 93 ?_;refine zdU q68 true 12 94 ?_;refine b1n q68 true 13 95 ?_;refine b0y q68 true 14 96 ?_;refine b1n q68 true 15 97 ?_;refine b1n q68 true 16 98 ?_;refine b0p q68 true 17 99 ?_;refine b1n q68 true 18 100 ?_;refine b2s q68 true 19 101 ?_;refine b0u q68 true 20 102 ?_;refine b1n q68 true 21 103 ?_;refine b0p q68 true 22 104 ?_;refine b1n q68 true 23 105 ?_;refine b0p q68 true 24 106 ?_;refine b0y q68 true 25 107 ?_;refine b4s q68 true 26 108 ?_;refine b1s q68 true 27 109 ?_;apply b0b (by kernel_rfl);apply k68 _;apply n67 _ _ (b0a [3,75,76,77,109] _);apply (zk);apply b0c _ rfl
         ·intro hc8;have hbw:b6j ins ws i=false:=by
           rw [hwp]
           (try simp at hc8)
           first | (simp;done) | (simp [hc8];done) | (simp;exact hc8) | (simp;intro q;exact hc8 q) | (rcases hc8 with h | h<;>first | (rw [decide_eq_false (show ¬0≤b3j ins x0 by omega)];simp;done) | (rw [decide_eq_false (show ¬0≤b3j ins x0 by omega)];rfl) | (simp [h];done)) | (simp;intros;simp_all;omega) | (simp;intros;simp_all;done) | (rcases hc8 with h | h<;>simp [h];done) | (simp_all;done)
          have hbad:=f0h (n:=n) (ss:=ss) (fl:=fl) hlt hbw;apply yR [4];apply (zr);exact b0h rfl (by rw [hbad]) (.inl rfl)
         ·intro hc8;have hgw:b6j ins ws i=true:=by
           rw [hwp]
           (try simp at hc8)
           first | (simp [hc8];done) | (simp;omega) | (simp_all;done) | (simp_all;omega)
          apply zn [3,75,76,77];apply (yV);apply n52 _ (i+1)
          ·apply b0d [3,75,76,77] [0];rfl
          ·exact ⟨by omega,b7f hR3 hgw⟩
          ·show _ < _;omega
       ·intro hc7;apply zn [];apply yR [4];apply (zr);exact b0h rfl (by rw [f4d hh hI hF (by omega) hR3]) (.inl rfl)
end Go.Proofs.YtmbbjhopngejaaaGreat
