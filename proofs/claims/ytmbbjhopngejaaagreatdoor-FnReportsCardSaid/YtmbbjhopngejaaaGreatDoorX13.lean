/- What functions compute. No condition. -/
import Derived.Test.YtmbbjhopngejaaaGreatDoorX12
import Derived.Test.YtmbbjhopngejaaaGreatDoorX11
set_option linter.unusedSimpArgs false
set_option linter.unusedVariables false
set_option linter.defProp false
namespace Go.Proofs.YtmbbjhopngejaaaGreatDoor
open Go Go.Vm
set_option maxHeartbeats 8000000
set_option maxRecDepth 8000 in
theorem b4s (n:Int) (ss:List TS) (fl:List TA) (ins:List TI) (ws:List TW) (hs:ss.length≤1048576) (hl:fl.length≤1048576) (hls:∀t∈fl,t.1.size≤9223372036854775807) (hil:ins.length≤1048576) (hin:∀x∈ins,x.2.2.2.length≤1048576) (his:∀x∈ins,∀s∈x.2.2.2,s.size≤9223372036854775807) (hwl:ws.length≤1048576) (hwn:∀x∈ws,x.2.length≤1048576):Con Tryz.prog 38 [.pv [tQ n ss] 0 0,.pv [kQ fl ins ws] 0 0] [] (.bool (b2o n ss fl ins ws)) []:=by
 refine zcn [.tmp 4] [] Tryz.func38 Tryz.ntmps38 ⟨?_⟩;intro Q0 n0 r0;have T:=Tys.mk (ai Ty.t3 (ai Ty.t4 (ai Ty.t9 (ai Ty.t24 (ai Ty.t26 (ai Ty.t27 (ai Ty.t28 (ai Ty.t29 (ai Ty.t31 (ai Ty.t32 (ai Ty.t35 (ai Ty.t53 (ai Ty.t55 (ai Ty.t77 (ai Ty.t91 Ty.t127)))))))))))))));have F:=Fc.mk True.intro;refine yR [0,1] ⟨?_⟩;refine b0e ?_;intros;refine d2w [0,1,35] (c0n n ss fl hs hl hls) (c0k ins hil hin his) ⟨?_⟩;refine b0a _ rfl ?_ ?_
 ·intro hc0;have hh:c9f n ss fl ins ws=false:=by cases hq:c9f n ss fl ins ws with | false=>rfl | true=>(exfalso;simp [c9f] at hq;(try simp at hc0);simp_all;first | done | omega)
  have hbad:=f8e hh;refine yR [4] ⟨?_⟩;refine zr ⟨?_⟩;exact b0g rfl (by rw [hbad]) (.inl rfl)
 ·intro hc0;have hh:c9f n ss fl ins ws=true:=by simp [c9f];(try simp at hc0);first | (simp_all;done) | (simp_all;omega)
  obtain ⟨hd,hnd⟩:=d0v hh;have hfl12:=hd.hfl;have hn14:=hd.hn;refine zn [0,1] ⟨?_⟩;refine b0e ?_;intros;refine yR [0,1,39,40,41] ⟨?_⟩;refine b0i ?_;intros;refine b08 (fun i=>⟨[(0,.pv [tQ n ss] 0 0),(1,.pv [kQ fl ins ws] 0 0),(39,sQ rQb ins),(40,.int .i64 ins.length),(41,.int .i64 (Nat.cast i))],[],false,136,0⟩) (fun i=>i≤ins.length∧(ins.drop i).all (inP n fl)=ins.all (inP n fl)) (fun i=>ins.length - i) 0 ?_ ?_ ?_
  ·refine b0d [0,1,39,40,41] [] ⟨?_⟩;rfl
  ·exact ⟨qle _,rfl⟩
  ·rintro i hok9 Q9 n9 e9 r9;obtain ⟨hi1,hR⟩:=hok9;refine yR [0,1,39,40,41,42] ⟨?_⟩;refine b0e ?_;intros;refine b0a _ rfl ?_ ?_
   ·intro hc1;have hlt:i < ins.length:=by omega
    obtain ⟨⟨x0,x1,x2,x3⟩,hx⟩:∃x:TI,ins[i]? =some x:=⟨ins[i]'(by omega),qla (by omega)⟩;have hlx:=hin _ (qlb hx);have hnx:=hnd _ (qlb hx);simp only [] at hlx hnx;have hst:=b65 (p:=inP n fl) hx;have hip:inP n fl (x0,x1,x2,x3)=(c2e n x1 && x3.all (fun s=>decide (0≤b3o fl s))):=rfl;have hhb:=b6d (x:=x1) hn14;refine zn [0,1,39,40,41] ⟨?_⟩;refine b0e ?_;intros;refine b0i ?_;intros;have F:=Fc.mk (gdm hx);refine yR [0,1,6,39,40,41] ⟨?_⟩;refine b0e ?_;intros;refine yRc [0,1,6,39,40,41,49] (c6q n ss x1) ⟨?_⟩;refine b0a _ rfl ?_ ?_
    ·intro hc2;have hh0:c2e n x1=false:=by first | (simpa using hc2) | (rw [hhb,decide_eq_false (show ¬x1 < n by (try simp at hc2);omega)];simp)
     have hbad:=f58 (ss:=ss) (ws:=ws) (show ins.all (inP n fl)=false by rw [←hR,hst,hip,hh0];rfl);refine yR [4] ⟨?_⟩;refine zr ⟨?_⟩;exact b0g rfl (by rw [hbad]) (.inl rfl)
    ·intro hc2;have hh1:c2e n x1=true:=by first | (simpa using hc2) | (rw [hhb,decide_eq_true hnx,decide_eq_true (show x1 < n by (try simp at hc2);omega)];rfl)
     refine zn [0,1,6,39,40,41] ⟨?_⟩;refine yR [0,1,39,40,41,51,52,53] ⟨?_⟩;refine b0i ?_;intros;refine b08 (fun j=>⟨[(0,.pv [tQ n ss] 0 0),(1,.pv [kQ fl ins ws] 0 0),(39,sQ rQb ins),(40,.int .i64 ins.length),(41,.int .i64 (Nat.cast i)),(51,.sl (x3.map V.str)),(52,.int .i64 x3.length),(53,.int .i64 (Nat.cast j))],[],false,136,0⟩) (fun j=>j≤x3.length∧(x3.drop j).all (fun s=>decide (0≤b3o fl s))=x3.all (fun s=>decide (0≤b3o fl s))) (fun j=>x3.length - j) 0 ?_ ?_ ?_
     ·refine b0d [0,1,39,40,41,51,52,53] [] ⟨?_⟩;rfl
     ·exact ⟨qle _,rfl⟩
     ·rintro j hok22 Q22 n22 e22 r22;obtain ⟨hj1,hR1⟩:=hok22;refine yR [0,1,39,40,41,51,52,53,54] ⟨?_⟩;refine b0e ?_;intros;refine b0a _ rfl ?_ ?_
      ·intro hc3;have hlj:j < x3.length:=by omega
       obtain ⟨s,hs1⟩:∃s,x3[j]? =some s:=⟨_,qla hlj⟩;have hst1:=b65 (p:=(fun s=>decide (0≤b3o fl s))) hs1;refine zn [0,1,39,40,41,51,52,53] ⟨?_⟩;refine b0e ?_;intros;refine b0i ?_;intros;have F:=fq2 (gdm hx) (gdm hs1);refine yR [0,1,8,39,40,41,51,52,53] ⟨?_⟩;refine yRc [0,1,39,40,41,51,52,53,63] (b3y fl s hl) ⟨?_⟩;refine b0a _ rfl ?_ ?_
       ·intro hc4;have hbad:=f58 (ss:=ss) (ws:=ws) (show ins.all (inP n fl)=false by rw [←hR,hst,hip,show x3.all (fun s=>decide (0≤b3o fl s))=false by rw [←hR1,hst1,decide_eq_false (show ¬0≤b3o fl s by (try simp at hc4);omega)];rfl];simp);refine yR [4] ⟨?_⟩;refine zr ⟨?_⟩;exact b0g rfl (by rw [hbad]) (.inl rfl)
       ·intro hc4;have hfs:0≤b3o fl s:=by (try simp at hc4);omega
        refine zn [0,1,39,40,41,51,52,53] ⟨?_⟩;refine yV ⟨?_⟩;refine n22 _ (j+1) ?_ ?_ ?_
        ·refine b0d [0,1,39,40,41,51,52,53] [] ⟨?_⟩;rfl
        ·exact ⟨by omega,by rw [←hR1,hst1,decide_eq_true hfs];rfl⟩
        ·show _ < _;omega
      ·intro hc3;have hall:x3.all (fun s=>decide (0≤b3o fl s))=true:=by rw [←hR1,b9c (by omega)]
       refine zn [0,1,39,40,41] ⟨?_⟩;refine yV ⟨?_⟩;refine n9 _ (i+1) ?_ ?_ ?_
       ·refine b0d [0,1,39,40,41] [] ⟨?_⟩;rfl
       ·exact ⟨by omega,by rw [←hR,hst,hip,hh1,hall];rfl⟩
       ·show _ < _;omega
   ·intro hc1;have hI:ins.all (inP n fl)=true:=by rw [←hR,b9c (by omega)]
    refine zn [1] ⟨?_⟩;refine b0e ?_;intros;refine yR [1,69,70,71] ⟨?_⟩;refine b0i ?_;intros;refine b08 (fun i=>⟨[(1,.pv [kQ fl ins ws] 0 0),(69,sQ rQa fl),(70,.int .i64 fl.length),(71,.int .i64 (Nat.cast i))],[],false,136,0⟩) (fun i=>i≤fl.length∧(fl.drop i).all (b5h ins)=fl.all (b5h ins)) (fun i=>fl.length - i) 0 ?_ ?_ ?_
    ·refine b0d [1,69,70,71] [] ⟨?_⟩;rfl
    ·exact ⟨qle _,rfl⟩
    ·rintro i hok37 Q37 n37 e37 r37;obtain ⟨hi2,hR2⟩:=hok37;refine yR [1,69,70,71,72] ⟨?_⟩;refine b0e ?_;intros;refine b0a _ rfl ?_ ?_
     ·intro hc5;have hlt:i < fl.length:=by omega
      obtain ⟨⟨x0,x1,x2,x3,x4⟩,hx⟩:∃x:TA,fl[i]? =some x:=⟨fl[i]'(by omega),qla (by omega)⟩;have hst:=b65 (p:=b5h ins) hx;have hfp:b5h ins (x0,x1,x2,x3,x4)= !(b7u (x0,x1,x2,x3,x4) != decide (0≤b4v ins x0)):=rfl;refine zn [1,69,70,71] ⟨?_⟩;refine b0e ?_;intros;refine b0i ?_;intros;have F:=Fc.mk (gdm hx);refine yR [1,10,69,70,71] ⟨?_⟩;refine b0e ?_;intro Q44 n44 e44 r44;refine b1f (by kernel_rfl) ?_;intro K45 q45 k45;show b1r _ _ _ _ 11 (Array.replicate 11 false) _;refine b1d q45 true 0 75 ?_;refine b0t q45 true 2 77 ?_;refine b3f q45 true 3 78 ?_;refine b0h q45 true 4 79 ?_;refine b1d q45 true 5 80 ?_;refine b0h q45 true 6 81 ?_;refine b1d q45 true 7 82 ?_;refine zoc 1 (c4t x0 x1 x2 x3 x4) ⟨?_⟩;refine zoc 8 (b37 ins x0 hil hin) ⟨?_⟩;refine b19 q45 true 9 84 ?_;refine b19 q45 true 10 85 ?_;refine b0b (by kernel_rfl) ?_;refine k45 _ ?_;refine n44 _ _ (b0f [1,69,70,71,85] _) ?_;refine zk ⟨?_⟩;refine b0a _ rfl ?_ ?_
      ·intro hc6;have hbad:=f8u (n:=n) (ss:=ss) (ws:=ws) (show fl.all (b5h ins)=false by rw [←hR2,hst,hfp];first | (rw [hc6];rfl) | (simp [b7u] at hc6⊢;simp_all;done) | (simp_all [b7u];done));refine yR [4] ⟨?_⟩;refine zr ⟨?_⟩;exact b0g rfl (by rw [hbad]) (.inl rfl)
      ·intro hc6;have hgf:b5h ins (x0,x1,x2,x3,x4)=true:=by rw [hfp];first | (rw [hc6];rfl) | (simp [b7u] at hc6⊢;simp_all;done) | (simp_all [b7u];done)
       refine zn [1,69,70,71] ⟨?_⟩;refine yV ⟨?_⟩;refine n37 _ (i+1) ?_ ?_ ?_
       ·refine b0d [1,69,70,71] [] ⟨?_⟩;rfl
       ·exact ⟨by omega,by rw [←hR2,hst,hgf];rfl⟩
       ·show _ < _;omega
     ·intro hc5;have hF:fl.all (b5h ins)=true:=by rw [←hR2,b9c (by omega)]
      refine zn [1] ⟨?_⟩;refine b0e ?_;intros;refine yR [1,90,91,92] ⟨?_⟩;refine b0i ?_;intros;refine b08 (fun i=>⟨[(1,.pv [kQ fl ins ws] 0 0),(90,sQ rQc ws),(91,.int .i64 ws.length),(92,.int .i64 (Nat.cast i))],[],false,136,0⟩) (fun i=>i≤ws.length∧∀j,j < i→b6l ins ws j=true) (fun i=>ws.length - i) 0 ?_ ?_ ?_
      ·refine b0d [1,90,91,92] [] ⟨?_⟩;rfl
      ·exact ⟨qle _,fun j h=>absurd h (Nat.not_lt_zero _)⟩
      ·rintro i hok52 Q52 n52 e52 r52;obtain ⟨hi3,hR3⟩:=hok52;refine yR [1,90,91,92,93] ⟨?_⟩;refine b0e ?_;intros;refine b0a _ rfl ?_ ?_
       ·intro hc7;have hlt:i < ws.length:=by omega
        obtain ⟨⟨x0,x1⟩,hx⟩:∃x:TW,ws[i]? =some x:=⟨ws[i]'(by omega),qla (by omega)⟩;have hlx:=hwn _ (qlb hx);simp only [] at hlx;rcases ql8 i with h0 | h0<;>rcases Bool.eq_false_or_eq_true (c3u x1) with hnd4 | hnd4
        ·skip;have hi0:¬((0:Int) < (i:Int)):=by omega
         have hwp:b6l ins ws i=(decide (0≤b6k ins x0) && b3i x1):=by subst h0;exact c4n hx
         obtain ⟨a,m,hm⟩:∃a m,x1=a::m:=by cases x1 with | nil=>(have:=b6u hnd4;simp at this) | cons a m=>exact ⟨a,m,rfl⟩
         subst hm;have hmx:=d36 a m hlx;have hmz:=d8d hnd4;have hrn:b3i (a::m)= !decide (c17 m a=0):=by rw [b3i,hnd4,hmz];rfl
         refine zn [1,90,91,92] ⟨?_⟩;refine b0e ?_;intros;refine b0i ?_;intros;have F:=fq5 (gdm hx) hi0 @decide_false @qmh hnd4;refine yR [1,11,12,90,91,92] ⟨?_⟩;refine b0e ?_;intro Q59 n59 e59 r59;refine b1f (by kernel_rfl) ?_;intro K60 q60 k60;show b1r _ _ _ _ 38 (Array.replicate 38 false) _;refine b0t q60 true 0 97 ?_;refine b3f q60 true 1 98 ?_;refine b0h q60 true 2 99 ?_;refine b1d q60 true 3 100 ?_;refine b0h q60 true 4 101 ?_;refine b1d q60 true 5 102 ?_;refine zoc 6 (c1z ins x0 hil) ⟨?_⟩;refine b19 q60 true 7 104 ?_;refine b0t q60 true 8 105 ?_;refine b0z q60 true 9 106 ?_;refine b0y q60 true 10 107 ?_;refine b0z q60 true 11 108 ?_;refine b0z q60 true 12 109 ?_;refine b6y q60 true 13 110 ?_;refine b0c q60 true 14 111 ?_;refine b0r q60 true 15 112 ?_;refine b0z q60 true 16 113 ?_;refine b2u q60 true 17 114 ?_;refine b0x q60 true 18 115 ?_;refine b0c q60 true 19 116 ?_;refine b0r q60 true 20 117 ?_;refine b0c q60 true 21 118 ?_;refine b0r q60 true 22 119 ?_;refine b0y q60 true 23 120 ?_;refine b4m q60 true 24 121 ?_;refine b1p q60 true 25 122 ?_;refine b0t q60 true 26 123 ?_;refine b0c q60 true 27 124 ?_;refine b0r q60 true 28 125 ?_;first
         |refine d2r 29 ((c1q _ hlx)) ⟨?_⟩
         |(refine b3c 29 126 26 false rfl rfl (show 126 < 136 by decide) (by kernel_rfl) rfl ?_ ?_;(focus first | rfl | (simp only [zV,b04,Nat.reduceEqDiff,reduceIte];done));simp only [zW,b0k,Nat.reduceEqDiff,reduceIte])
         refine c0b q60 true 30 127 ?_;refine b1p q60 true 31 128 ?_;refine b0t q60 true 32 129 ?_;refine b0c q60 true 33 130 ?_;refine b0r q60 true 34 131 ?_;first
         |refine d2r 35 (hmx) ⟨?_⟩
         |(refine b3c 35 132 32 false rfl rfl (show 132 < 136 by decide) (by kernel_rfl) rfl ?_ ?_;(focus first | rfl | (simp only [zV,b04,Nat.reduceEqDiff,reduceIte];done));simp only [zW,b0k,Nat.reduceEqDiff,reduceIte])
         refine b0y q60 true 36 133 ?_;refine b1p q60 true 37 134 ?_;refine b0b (by kernel_rfl) ?_;refine k60 _ ?_;refine n59 _ _ (b0f [1,90,91,92,134] _) ?_;refine zk ⟨?_⟩;refine b0a _ rfl ?_ ?_
         ·intro hc8;have hbw:b6l ins ws i=false:=by
           rw [hwp];simp only [hrn]
           (try simp at hc8)
           first | (simp;done) | (simp [hc8];done) | (simp;exact hc8) | (simp;intro q;exact hc8 q) | (rcases hc8 with h | h<;>first | (rw [decide_eq_false (show ¬0≤b6k ins x0 by omega)];simp;done) | (rw [decide_eq_false (show ¬0≤b6k ins x0 by omega)];rfl) | (simp [h];done)) | (simp;intros;simp_all;omega) | (simp;intros;simp_all;done) | (rcases hc8 with h | h<;>simp [h];done) | (simp_all;done)
          have hbad:=f0b (n:=n) (ss:=ss) (fl:=fl) hlt hbw;refine yR [4] ⟨?_⟩;refine zr ⟨?_⟩;exact b0g rfl (by rw [hbad]) (.inl rfl)
         ·intro hc8;have hgw:b6l ins ws i=true:=by
           rw [hwp];simp only [hrn]
           (try simp at hc8)
           first | (simp [hc8];done) | (simp;omega) | (simp_all;done) | (simp_all;omega)
          refine zn [1,90,91,92] ⟨?_⟩;refine yV ⟨?_⟩;refine n52 _ (i+1) ?_ ?_ ?_
          ·refine b0d [1,90,91,92] [] ⟨?_⟩;rfl
          ·exact ⟨by omega,b7k hR3 hgw⟩
          ·show _ < _;omega
        ·skip;have hi0:¬((0:Int) < (i:Int)):=by omega
         have hwp:b6l ins ws i=(decide (0≤b6k ins x0) && b3i x1):=by subst h0;exact c4n hx
         have hmx:=True.intro;have hrn:b3i x1=false:=by rw [b3i,hnd4];rfl
         refine zn [1,90,91,92] ⟨?_⟩;refine b0e ?_;intros;refine b0i ?_;intros;have F:=fq8 (gdm hx) hi0 @decide_false @qmh hnd4 @Bool.or_true @Bool.true_or @Bool.not_false;refine yR [1,11,12,90,91,92] ⟨?_⟩;refine b0e ?_;intro Q67 n67 e67 r67;refine b1f (by kernel_rfl) ?_;intro K68 q68 k68;show b1r _ _ _ _ 38 (Array.replicate 38 false) _;refine b0t q68 true 0 97 ?_;refine b3f q68 true 1 98 ?_;refine b0h q68 true 2 99 ?_;refine b1d q68 true 3 100 ?_;refine b0h q68 true 4 101 ?_;refine b1d q68 true 5 102 ?_;refine zoc 6 (c1z ins x0 hil) ⟨?_⟩;refine b19 q68 true 7 104 ?_;refine b0t q68 true 8 105 ?_;refine b0z q68 true 9 106 ?_;refine b0y q68 true 10 107 ?_;refine b0z q68 true 11 108 ?_;refine b0z q68 true 12 109 ?_;refine b6y q68 true 13 110 ?_;refine b0c q68 true 14 111 ?_;refine b0r q68 true 15 112 ?_;refine b0z q68 true 16 113 ?_;refine b2u q68 true 17 114 ?_;refine b0x q68 true 18 115 ?_;refine b0c q68 true 19 116 ?_;refine b0r q68 true 20 117 ?_;refine b0c q68 true 21 118 ?_;refine b0r q68 true 22 119 ?_;refine b0y q68 true 23 120 ?_;refine b4m q68 true 24 121 ?_;refine b1p q68 true 25 122 ?_;refine b0t q68 true 26 123 ?_;refine b0c q68 true 27 124 ?_;refine b0r q68 true 28 125 ?_;first
         |refine d2r 29 ((c1q _ hlx)) ⟨?_⟩
         |(refine b3c 29 126 26 false rfl rfl (show 126 < 136 by decide) (by kernel_rfl) rfl ?_ ?_;(focus first | rfl | (simp only [zV,b04,Nat.reduceEqDiff,reduceIte];done));simp only [zW,b0k,Nat.reduceEqDiff,reduceIte])
         refine c0b q68 true 30 127 ?_;refine b1p q68 true 31 128 ?_;refine b0t q68 true 32 129 ?_;refine b0c q68 true 33 130 ?_;refine b0r q68 true 34 131 ?_;first
         |refine d2r 35 (hmx) ⟨?_⟩
         |(refine b3c 35 132 32 false rfl rfl (show 132 < 136 by decide) (by kernel_rfl) rfl ?_ ?_;(focus first | rfl | (simp only [zV,b04,Nat.reduceEqDiff,reduceIte];done));simp only [zW,b0k,Nat.reduceEqDiff,reduceIte])
         refine b0y q68 true 36 133 ?_;refine b1p q68 true 37 134 ?_;refine b0b (by kernel_rfl) ?_;refine k68 _ ?_;refine n67 _ _ (b0f [1,90,91,92,134] _) ?_;refine zk ⟨?_⟩;refine b18 _ rfl ?_ ?_
         ·intro hc8;try simp only [zC,reduceCtorEq] at hc8
          have hbw:b6l ins ws i=false:=by
           rw [hwp];simp only [hrn]
           (try simp at hc8)
           first | (simp;done) | (simp [hc8];done) | (simp;exact hc8) | (simp;intro q;exact hc8 q) | (rcases hc8 with h | h<;>first | (rw [decide_eq_false (show ¬0≤b6k ins x0 by omega)];simp;done) | (rw [decide_eq_false (show ¬0≤b6k ins x0 by omega)];rfl) | (simp [h];done)) | (simp;intros;simp_all;omega) | (simp;intros;simp_all;done) | (rcases hc8 with h | h<;>simp [h];done) | (simp_all;done)
          have hbad:=f0b (n:=n) (ss:=ss) (fl:=fl) hlt hbw;refine yR [4] ⟨?_⟩;refine zr ⟨?_⟩;exact b0g rfl (by rw [hbad]) (.inl rfl)
         ·intro hc8;exfalso;first | (cases hc8;done) | (simp at hc8;done)
        ·skip;obtain ⟨⟨y0,y1⟩,hy⟩:∃x:TW,ws[i - 1]? =some x:=⟨ws[i - 1]'(by omega),qla (by omega)⟩;have hi0:(0:Int) < i:=by omega
         have hk:((i:Int) - 1).toNat=i - 1:=by omega
         have hwp:=c5k (ins:=ins) h0 hy hx;obtain ⟨a,m,hm⟩:∃a m,x1=a::m:=by cases x1 with | nil=>(have:=b6u hnd4;simp at this) | cons a m=>exact ⟨a,m,rfl⟩
         subst hm;have hmx:=d36 a m hlx;have hmz:=d8d hnd4;have hrn:b3i (a::m)= !decide (c17 m a=0):=by rw [b3i,hnd4,hmz];rfl
         refine zn [1,90,91,92] ⟨?_⟩;refine b0e ?_;intros;refine b0i ?_;intros;have F:=fq7 (gdm hx) hi0 hk (gdm hy) @decide_true @qmm hnd4;refine yR [1,11,12,90,91,92] ⟨?_⟩;refine b0e ?_;intro Q74 n74 e74 r74;refine b1f (by kernel_rfl) ?_;intro K75 q75 k75;show b1r _ _ _ _ 38 (Array.replicate 38 false) _;refine b0t q75 true 0 97 ?_;refine b3f q75 true 1 98 ?_;refine b0h q75 true 2 99 ?_;refine b1d q75 true 3 100 ?_;refine b0h q75 true 4 101 ?_;refine b1d q75 true 5 102 ?_;refine zoc 6 (c1z ins x0 hil) ⟨?_⟩;refine b19 q75 true 7 104 ?_;refine b0t q75 true 8 105 ?_;refine b0z q75 true 9 106 ?_;refine b0y q75 true 10 107 ?_;refine b0z q75 true 11 108 ?_;refine b0z q75 true 12 109 ?_;refine b6y q75 true 13 110 ?_;refine b0c q75 true 14 111 ?_;refine b0r q75 true 15 112 ?_;refine b0z q75 true 16 113 ?_;refine b2u q75 true 17 114 ?_;refine b0x q75 true 18 115 ?_;refine b0c q75 true 19 116 ?_;refine b0r q75 true 20 117 ?_;refine b0c q75 true 21 118 ?_;refine b0r q75 true 22 119 ?_;refine b0y q75 true 23 120 ?_;refine b4m q75 true 24 121 ?_;refine b1p q75 true 25 122 ?_;refine b0t q75 true 26 123 ?_;refine b0c q75 true 27 124 ?_;refine b0r q75 true 28 125 ?_;first
         |refine d2r 29 ((c1q _ hlx)) ⟨?_⟩
         |(refine b3c 29 126 26 false rfl rfl (show 126 < 136 by decide) (by kernel_rfl) rfl ?_ ?_;(focus first | rfl | (simp only [zV,b04,Nat.reduceEqDiff,reduceIte];done));simp only [zW,b0k,Nat.reduceEqDiff,reduceIte])
         refine c0b q75 true 30 127 ?_;refine b1p q75 true 31 128 ?_;refine b0t q75 true 32 129 ?_;refine b0c q75 true 33 130 ?_;refine b0r q75 true 34 131 ?_;first
         |refine d2r 35 (hmx) ⟨?_⟩
         |(refine b3c 35 132 32 false rfl rfl (show 132 < 136 by decide) (by kernel_rfl) rfl ?_ ?_;(focus first | rfl | (simp only [zV,b04,Nat.reduceEqDiff,reduceIte];done));simp only [zW,b0k,Nat.reduceEqDiff,reduceIte])
         refine b0y q75 true 36 133 ?_;refine b1p q75 true 37 134 ?_;refine b0b (by kernel_rfl) ?_;refine k75 _ ?_;refine n74 _ _ (b0f [1,90,91,92,134] _) ?_;refine zk ⟨?_⟩;refine b0a _ rfl ?_ ?_
         ·intro hc8;have hbw:b6l ins ws i=false:=by
           rw [hwp];simp only [hrn]
           (try simp at hc8)
           first | (simp;done) | (simp [hc8];done) | (simp;exact hc8) | (simp;intro q;exact hc8 q) | (rcases hc8 with h | h<;>first | (rw [decide_eq_false (show ¬0≤b6k ins x0 by omega)];simp;done) | (rw [decide_eq_false (show ¬0≤b6k ins x0 by omega)];rfl) | (simp [h];done)) | (simp;intros;simp_all;omega) | (simp;intros;simp_all;done) | (rcases hc8 with h | h<;>simp [h];done) | (simp_all;done)
          have hbad:=f0b (n:=n) (ss:=ss) (fl:=fl) hlt hbw;refine yR [4] ⟨?_⟩;refine zr ⟨?_⟩;exact b0g rfl (by rw [hbad]) (.inl rfl)
         ·intro hc8;have hgw:b6l ins ws i=true:=by
           rw [hwp];simp only [hrn]
           (try simp at hc8)
           first | (simp [hc8];done) | (simp;omega) | (simp_all;done) | (simp_all;omega)
          refine zn [1,90,91,92] ⟨?_⟩;refine yV ⟨?_⟩;refine n52 _ (i+1) ?_ ?_ ?_
          ·refine b0d [1,90,91,92] [] ⟨?_⟩;rfl
          ·exact ⟨by omega,b7k hR3 hgw⟩
          ·show _ < _;omega
        ·skip;obtain ⟨⟨y0,y1⟩,hy⟩:∃x:TW,ws[i - 1]? =some x:=⟨ws[i - 1]'(by omega),qla (by omega)⟩;have hi0:(0:Int) < i:=by omega
         have hk:((i:Int) - 1).toNat=i - 1:=by omega
         have hwp:=c5k (ins:=ins) h0 hy hx;have hmx:=True.intro;have hrn:b3i x1=false:=by rw [b3i,hnd4];rfl
         refine zn [1,90,91,92] ⟨?_⟩;refine b0e ?_;intros;refine b0i ?_;intros;have F:=f8h (gdm hx) hi0 hk (gdm hy) @decide_true @qmm hnd4 @Bool.or_true @Bool.true_or @Bool.not_false;refine yR [1,11,12,90,91,92] ⟨?_⟩;refine b0e ?_;intro Q82 n82 e82 r82;refine b1f (by kernel_rfl) ?_;intro K83 q83 k83;show b1r _ _ _ _ 38 (Array.replicate 38 false) _;refine b0t q83 true 0 97 ?_;refine b3f q83 true 1 98 ?_;refine b0h q83 true 2 99 ?_;refine b1d q83 true 3 100 ?_;refine b0h q83 true 4 101 ?_;refine b1d q83 true 5 102 ?_;refine zoc 6 (c1z ins x0 hil) ⟨?_⟩;refine b19 q83 true 7 104 ?_;refine b0t q83 true 8 105 ?_;refine b0z q83 true 9 106 ?_;refine b0y q83 true 10 107 ?_;refine b0z q83 true 11 108 ?_;refine b0z q83 true 12 109 ?_;refine b6y q83 true 13 110 ?_;refine b0c q83 true 14 111 ?_;refine b0r q83 true 15 112 ?_;refine b0z q83 true 16 113 ?_;refine b2u q83 true 17 114 ?_;refine b0x q83 true 18 115 ?_;refine b0c q83 true 19 116 ?_;refine b0r q83 true 20 117 ?_;refine b0c q83 true 21 118 ?_;refine b0r q83 true 22 119 ?_;refine b0y q83 true 23 120 ?_;refine b4m q83 true 24 121 ?_;refine b1p q83 true 25 122 ?_;refine b0t q83 true 26 123 ?_;refine b0c q83 true 27 124 ?_;refine b0r q83 true 28 125 ?_;first
         |refine d2r 29 ((c1q _ hlx)) ⟨?_⟩
         |(refine b3c 29 126 26 false rfl rfl (show 126 < 136 by decide) (by kernel_rfl) rfl ?_ ?_;(focus first | rfl | (simp only [zV,b04,Nat.reduceEqDiff,reduceIte];done));simp only [zW,b0k,Nat.reduceEqDiff,reduceIte])
         refine c0b q83 true 30 127 ?_;refine b1p q83 true 31 128 ?_;refine b0t q83 true 32 129 ?_;refine b0c q83 true 33 130 ?_;refine b0r q83 true 34 131 ?_;first
         |refine d2r 35 (hmx) ⟨?_⟩
         |(refine b3c 35 132 32 false rfl rfl (show 132 < 136 by decide) (by kernel_rfl) rfl ?_ ?_;(focus first | rfl | (simp only [zV,b04,Nat.reduceEqDiff,reduceIte];done));simp only [zW,b0k,Nat.reduceEqDiff,reduceIte])
         refine b0y q83 true 36 133 ?_;refine b1p q83 true 37 134 ?_;refine b0b (by kernel_rfl) ?_;refine k83 _ ?_;refine n82 _ _ (b0f [1,90,91,92,134] _) ?_;refine zk ⟨?_⟩;refine b18 _ rfl ?_ ?_
         ·intro hc8;try simp only [zC,reduceCtorEq] at hc8
          have hbw:b6l ins ws i=false:=by
           rw [hwp];simp only [hrn]
           (try simp at hc8)
           first | (simp;done) | (simp [hc8];done) | (simp;exact hc8) | (simp;intro q;exact hc8 q) | (rcases hc8 with h | h<;>first | (rw [decide_eq_false (show ¬0≤b6k ins x0 by omega)];simp;done) | (rw [decide_eq_false (show ¬0≤b6k ins x0 by omega)];rfl) | (simp [h];done)) | (simp;intros;simp_all;omega) | (simp;intros;simp_all;done) | (rcases hc8 with h | h<;>simp [h];done) | (simp_all;done)
          have hbad:=f0b (n:=n) (ss:=ss) (fl:=fl) hlt hbw;refine yR [4] ⟨?_⟩;refine zr ⟨?_⟩;exact b0g rfl (by rw [hbad]) (.inl rfl)
         ·intro hc8;exfalso;first | (cases hc8;done) | (simp at hc8;done)
       ·intro hc7;refine zn [] ⟨?_⟩;refine yR [4] ⟨?_⟩;refine zr ⟨?_⟩;exact b0g rfl (by rw [f3f hh hI hF (by omega) hR3]) (.inl rfl)
theorem b63 (n:Int) (ss:List TS) (fl:List TA) (ins:List TI) (ws:List TW) (hs:ss.length≤1048576) (hl:fl.length≤1048576) (hls:∀t∈fl,t.1.size≤9223372036854775807) (hil:ins.length≤1048576) (hin:∀x∈ins,x.2.2.2.length≤1048576) (his:∀x∈ins,∀s∈x.2.2.2,s.size≤9223372036854775807) (hwl:ws.length≤1048576) (hwn:∀x∈ws,x.2.length≤1048576):Con Tryz.prog 11 [tQ n ss,kQ fl ins ws] [] (.bool (b2o n ss fl ins ws)) []:=by
 refine zcn [.tmp 4] [] Tryz.func11 Tryz.ntmps11 ⟨?_⟩;intro Q0 n0 r0;have T:=Tys.mk (ai Ty.t3 (ai Ty.t4 (ai Ty.t9 (ai Ty.t24 (ai Ty.t26 (ai Ty.t27 (ai Ty.t28 (ai Ty.t29 (ai Ty.t31 (ai Ty.t32 (ai Ty.t35 (ai Ty.t53 (ai Ty.t55 (ai Ty.t77 (ai Ty.t79 (ai Ty.t91 Ty.t127))))))))))))))));have F:=Fc.mk True.intro;refine yR [2,3] ⟨?_⟩;refine yRc [4] (b4s n ss fl ins ws hs hl hls hil hin his hwl hwn) ⟨?_⟩;refine zr ⟨?_⟩;exact b0g rfl rfl (.inl rfl)
end Go.Proofs.YtmbbjhopngejaaaGreatDoor
