/- What functions compute. No condition. -/
import Derived.Test.YtmbbjhopngejaaaGreatDoorX12
import Derived.Test.YtmbbjhopngejaaaGreatDoorX11
set_option linter.unusedSimpArgs false
set_option linter.unusedVariables false
set_option linter.defProp false
namespace Go.Proofs.YtmbbjhopngejaaaGreatDoor
open Go Go.Vm
set_option maxHeartbeats 8000000
set_option maxRecDepth 8000 in
theorem b4c (n:Int) (ss:List TS) (fl:List TA) (ins:List TI) (ws:List TW) (hs:ss.length≤1048576) (hl:fl.length≤1048576) (hls:∀t∈fl,t.1.size≤9223372036854775807) (hil:ins.length≤1048576) (hin:∀x∈ins,x.2.2.2.length≤1048576) (his:∀x∈ins,∀s∈x.2.2.2,s.size≤9223372036854775807) (hwl:ws.length≤1048576) (hwn:∀x∈ws,x.2.length≤1048576):Con Tryz.prog 44 [tQ n ss,kQ fl ins ws] [] (.bool (b2o n ss fl ins ws)) []:=by
 refine zcn [.tmp 4] [] Tryz.func44 Tryz.ntmps44 ⟨?_⟩;intro Q0 n0 r0;have T:=Tys.mk (ai Ty.t3 (ai Ty.t4 (ai Ty.t9 (ai Ty.t24 (ai Ty.t26 (ai Ty.t27 (ai Ty.t28 (ai Ty.t29 (ai Ty.t31 (ai Ty.t32 (ai Ty.t35 (ai Ty.t53 (ai Ty.t55 (ai Ty.t91 Ty.t127))))))))))))));have F:=Fc.mk True.intro;refine yR [2,3] ⟨?_⟩;refine b0e ?_;intros;refine d2w [2,3,29] (d8z n ss fl hs hl hls) (b9s ins hil hin his) ⟨?_⟩;refine b0a _ rfl ?_ ?_
 ·intro hc0;have hh:c9f n ss fl ins ws=false:=by cases hq:c9f n ss fl ins ws with | false=>rfl | true=>(exfalso;simp [c9f] at hq;(try simp at hc0);simp_all;first | done | omega)
  have hbad:=f8e hh;refine yR [4] ⟨?_⟩;refine zr ⟨?_⟩;exact b0g rfl (by rw [hbad]) (.inl rfl)
 ·intro hc0;have hh:c9f n ss fl ins ws=true:=by simp [c9f];(try simp at hc0);first | (simp_all;done) | (simp_all;omega)
  obtain ⟨hd,hnd⟩:=d0v hh;have hfl12:=hd.hfl;have hn14:=hd.hn;refine zn [2,3] ⟨?_⟩;refine b0e ?_;intros;refine yR [2,3,31,32,33] ⟨?_⟩;refine b0i ?_;intros;refine b08 (fun i=>⟨[(2,.ptr 0 0 0),(3,.ptr 1 0 0),(31,sQ rQb ins),(32,.int .i64 ins.length),(33,.int .i64 (Nat.cast i))],[.box (tQ n ss) .shal,.box (kQ fl ins ws) .shal],false,111,0⟩) (fun i=>i≤ins.length∧(ins.drop i).all (inP n fl)=ins.all (inP n fl)) (fun i=>ins.length - i) 0 ?_ ?_ ?_
  ·refine b0d [2,3,31,32,33] [0,1] ⟨?_⟩;rfl
  ·exact ⟨qle _,rfl⟩
  ·rintro i hok9 Q9 n9 e9 r9;obtain ⟨hi1,hR⟩:=hok9;refine yR [2,3,31,32,33,34] ⟨?_⟩;refine b0e ?_;intros;refine b0a _ rfl ?_ ?_
   ·intro hc1;have hlt:i < ins.length:=by omega
    obtain ⟨⟨x0,x1,x2,x3⟩,hx⟩:∃x:TI,ins[i]? =some x:=⟨ins[i]'(by omega),qla (by omega)⟩;have hlx:=hin _ (qlb hx);have hnx:=hnd _ (qlb hx);simp only [] at hlx hnx;have hst:=b65 (p:=inP n fl) hx;have hip:inP n fl (x0,x1,x2,x3)=(c2e n x1 && x3.all (fun s=>decide (0≤b3o fl s))):=rfl;have hhb:=b6d (x:=x1) hn14;refine zn [2,3,31,32,33] ⟨?_⟩;refine b0e ?_;intros;refine b0i ?_;intros;have F:=Fc.mk (gdm hx);refine yR [2,3,6,31,32,33] ⟨?_⟩;refine b0e ?_;intros;refine yR [2,3,6,31,32,33,41] ⟨?_⟩;refine b0a _ rfl ?_ ?_
    ·intro hc2;have hh0:c2e n x1=false:=by first | (simpa using hc2) | (rw [hhb,decide_eq_false (show ¬x1 < n by (try simp at hc2);omega)];simp)
     have hbad:=f58 (ss:=ss) (ws:=ws) (show ins.all (inP n fl)=false by rw [←hR,hst,hip,hh0];rfl);refine yR [4] ⟨?_⟩;refine zr ⟨?_⟩;exact b0g rfl (by rw [hbad]) (.inl rfl)
    ·intro hc2;have hh1:c2e n x1=true:=by first | (simpa using hc2) | (rw [hhb,decide_eq_true hnx,decide_eq_true (show x1 < n by (try simp at hc2);omega)];rfl)
     refine zn [2,3,6,31,32,33] ⟨?_⟩;refine yR [2,3,31,32,33,43,44,45] ⟨?_⟩;refine b0i ?_;intros;refine b08 (fun j=>⟨[(2,.ptr 0 0 0),(3,.ptr 1 0 0),(31,sQ rQb ins),(32,.int .i64 ins.length),(33,.int .i64 (Nat.cast i)),(43,.sl (x3.map V.str)),(44,.int .i64 x3.length),(45,.int .i64 (Nat.cast j))],[.box (tQ n ss) .shal,.box (kQ fl ins ws) .shal],false,111,0⟩) (fun j=>j≤x3.length∧(x3.drop j).all (fun s=>decide (0≤b3o fl s))=x3.all (fun s=>decide (0≤b3o fl s))) (fun j=>x3.length - j) 0 ?_ ?_ ?_
     ·refine b0d [2,3,31,32,33,43,44,45] [0,1] ⟨?_⟩;rfl
     ·exact ⟨qle _,rfl⟩
     ·rintro j hok22 Q22 n22 e22 r22;obtain ⟨hj1,hR1⟩:=hok22;refine yR [2,3,31,32,33,43,44,45,46] ⟨?_⟩;refine b0e ?_;intros;refine b0a _ rfl ?_ ?_
      ·intro hc3;have hlj:j < x3.length:=by omega
       obtain ⟨s,hs1⟩:∃s,x3[j]? =some s:=⟨_,qla hlj⟩;have hst1:=b65 (p:=(fun s=>decide (0≤b3o fl s))) hs1;refine zn [2,3,31,32,33,43,44,45] ⟨?_⟩;refine b0e ?_;intros;refine b0i ?_;intros;have F:=fq2 (gdm hx) (gdm hs1);refine yR [2,3,8,31,32,33,43,44,45] ⟨?_⟩;refine yRc [2,3,31,32,33,43,44,45,53] (b5e fl s hl) ⟨?_⟩;refine b0a _ rfl ?_ ?_
       ·intro hc4;have hbad:=f58 (ss:=ss) (ws:=ws) (show ins.all (inP n fl)=false by rw [←hR,hst,hip,show x3.all (fun s=>decide (0≤b3o fl s))=false by rw [←hR1,hst1,decide_eq_false (show ¬0≤b3o fl s by (try simp at hc4);omega)];rfl];simp);refine yR [4] ⟨?_⟩;refine zr ⟨?_⟩;exact b0g rfl (by rw [hbad]) (.inl rfl)
       ·intro hc4;have hfs:0≤b3o fl s:=by (try simp at hc4);omega
        refine zn [2,3,31,32,33,43,44,45] ⟨?_⟩;refine yV ⟨?_⟩;refine n22 _ (j+1) ?_ ?_ ?_
        ·refine b0d [2,3,31,32,33,43,44,45] [0,1] ⟨?_⟩;rfl
        ·exact ⟨by omega,by rw [←hR1,hst1,decide_eq_true hfs];rfl⟩
        ·show _ < _;omega
      ·intro hc3;have hall:x3.all (fun s=>decide (0≤b3o fl s))=true:=by rw [←hR1,b9c (by omega)]
       refine zn [2,3,31,32,33] ⟨?_⟩;refine yV ⟨?_⟩;refine n9 _ (i+1) ?_ ?_ ?_
       ·refine b0d [2,3,31,32,33] [0,1] ⟨?_⟩;rfl
       ·exact ⟨by omega,by rw [←hR,hst,hip,hh1,hall];rfl⟩
       ·show _ < _;omega
   ·intro hc1;have hI:ins.all (inP n fl)=true:=by rw [←hR,b9c (by omega)]
    refine zn [3] ⟨?_⟩;refine b0e ?_;intros;refine yR [3,57,58,59] ⟨?_⟩;refine b0i ?_;intros;refine b08 (fun i=>⟨[(3,.ptr 0 0 0),(57,sQ rQa fl),(58,.int .i64 fl.length),(59,.int .i64 (Nat.cast i))],[.box (kQ fl ins ws) .shal],false,111,0⟩) (fun i=>i≤fl.length∧(fl.drop i).all (b5h ins)=fl.all (b5h ins)) (fun i=>fl.length - i) 0 ?_ ?_ ?_
    ·refine b0d [3,57,58,59] [1] ⟨?_⟩;rfl
    ·exact ⟨qle _,rfl⟩
    ·rintro i hok37 Q37 n37 e37 r37;obtain ⟨hi2,hR2⟩:=hok37;refine yR [3,57,58,59,60] ⟨?_⟩;refine b0e ?_;intros;refine b0a _ rfl ?_ ?_
     ·intro hc5;have hlt:i < fl.length:=by omega
      obtain ⟨⟨x0,x1,x2,x3,x4⟩,hx⟩:∃x:TA,fl[i]? =some x:=⟨fl[i]'(by omega),qla (by omega)⟩;have hst:=b65 (p:=b5h ins) hx;have hfp:b5h ins (x0,x1,x2,x3,x4)= !(b7u (x0,x1,x2,x3,x4) != decide (0≤b4v ins x0)):=rfl;refine zn [3,57,58,59] ⟨?_⟩;refine b0e ?_;intros;refine b0i ?_;intros;have F:=Fc.mk (gdm hx);refine yR [3,10,57,58,59] ⟨?_⟩;refine b0e ?_;intro Q44 n44 e44 r44;refine b1f (by kernel_rfl) ?_;intro K45 q45 k45;show b1r _ _ _ _ 10 (Array.replicate 10 false) _;refine b0h q45 true 0 63 ?_;refine b1d q45 true 1 64 ?_;refine b0h q45 true 3 66 ?_;refine b1d q45 true 4 67 ?_;refine b0h q45 true 5 68 ?_;refine b1d q45 true 6 69 ?_;refine zoc 2 (c13 x4) ⟨?_⟩;refine zoc 7 (c34 ins x0 hil hin) ⟨?_⟩;refine b19 q45 true 8 71 ?_;refine b19 q45 true 9 72 ?_;refine b0b (by kernel_rfl) ?_;refine k45 _ ?_;refine n44 _ _ (b0f [3,57,58,59,72] _) ?_;refine zk ⟨?_⟩;refine b0a _ rfl ?_ ?_
      ·intro hc6;have hbad:=f8u (n:=n) (ss:=ss) (ws:=ws) (show fl.all (b5h ins)=false by rw [←hR2,hst,hfp];first | (rw [hc6];rfl) | (simp [b7u] at hc6⊢;simp_all;done) | (simp_all [b7u];done));refine yR [4] ⟨?_⟩;refine zr ⟨?_⟩;exact b0g rfl (by rw [hbad]) (.inl rfl)
      ·intro hc6;have hgf:b5h ins (x0,x1,x2,x3,x4)=true:=by rw [hfp];first | (rw [hc6];rfl) | (simp [b7u] at hc6⊢;simp_all;done) | (simp_all [b7u];done)
       refine zn [3,57,58,59] ⟨?_⟩;refine yV ⟨?_⟩;refine n37 _ (i+1) ?_ ?_ ?_
       ·refine b0d [3,57,58,59] [0] ⟨?_⟩;rfl
       ·exact ⟨by omega,by rw [←hR2,hst,hgf];rfl⟩
       ·show _ < _;omega
     ·intro hc5;have hF:fl.all (b5h ins)=true:=by rw [←hR2,b9c (by omega)]
      refine zn [3] ⟨?_⟩;refine b0e ?_;intros;refine yR [3,75,76,77] ⟨?_⟩;refine b0i ?_;intros;refine b08 (fun i=>⟨[(3,.ptr 0 0 0),(75,sQ rQc ws),(76,.int .i64 ws.length),(77,.int .i64 (Nat.cast i))],[.box (kQ fl ins ws) .shal],false,111,0⟩) (fun i=>i≤ws.length∧∀j,j < i→b6l ins ws j=true) (fun i=>ws.length - i) 0 ?_ ?_ ?_
      ·refine b0d [3,75,76,77] [0] ⟨?_⟩;rfl
      ·exact ⟨qle _,fun j h=>absurd h (Nat.not_lt_zero _)⟩
      ·rintro i hok52 Q52 n52 e52 r52;obtain ⟨hi3,hR3⟩:=hok52;refine yR [3,75,76,77,78] ⟨?_⟩;refine b0e ?_;intros;refine b0a _ rfl ?_ ?_
       ·intro hc7;have hlt:i < ws.length:=by omega
        obtain ⟨⟨x0,x1⟩,hx⟩:∃x:TW,ws[i]? =some x:=⟨ws[i]'(by omega),qla (by omega)⟩;have hlx:=hwn _ (qlb hx);simp only [] at hlx;rcases ql8 i with h0 | h0
        ·skip;have hi0:¬((0:Int) < (i:Int)):=by omega
         have hwp:b6l ins ws i=(decide (0≤b6k ins x0) && b3i x1):=by subst h0;exact c4n hx
         refine zn [3,75,76,77] ⟨?_⟩;refine b0e ?_;intros;refine b0i ?_;intros;have F:=fq4 (gdm hx) hi0 @decide_false @qmh;refine yR [3,11,12,75,76,77] ⟨?_⟩;refine b0e ?_;intro Q59 n59 e59 r59;refine b1f (by kernel_rfl) ?_;intro K60 q60 k60;show b1r _ _ _ _ 28 (Array.replicate 28 false) _;refine b0h q60 true 0 82 ?_;refine b1d q60 true 1 83 ?_;refine b0h q60 true 2 84 ?_;refine b1d q60 true 3 85 ?_;refine zoc 4 (d0l ins x0 hil) ⟨?_⟩;refine b19 q60 true 5 87 ?_;refine b0t q60 true 6 88 ?_;refine b0c q60 true 7 89 ?_;refine b0r q60 true 8 90 ?_;first
         |refine d2r 9 ((c9y _ hlx)) ⟨?_⟩
         |(refine b3c 9 91 6 false rfl rfl (show 91 < 111 by decide) (by kernel_rfl) rfl ?_ ?_;(focus first | rfl | (simp only [zV,b04,Nat.reduceEqDiff,reduceIte];done));simp only [zW,b0k,Nat.reduceEqDiff,reduceIte])
         refine c0b q60 true 10 92 ?_;refine b1p q60 true 11 93 ?_;refine b0t q60 true 12 94 ?_;refine b0z q60 true 13 95 ?_;refine b0y q60 true 14 96 ?_;refine b0z q60 true 15 97 ?_;refine b0c q60 true 16 98 ?_;refine b0r q60 true 17 99 ?_;refine b0z q60 true 18 100 ?_;refine b2u q60 true 19 101 ?_;refine b0x q60 true 20 102 ?_;refine b0c q60 true 21 103 ?_;refine b0r q60 true 22 104 ?_;refine b0c q60 true 23 105 ?_;refine b0r q60 true 24 106 ?_;refine b0y q60 true 25 107 ?_;refine b4m q60 true 26 108 ?_;refine b1p q60 true 27 109 ?_;refine b0b (by kernel_rfl) ?_;refine k60 _ ?_;refine n59 _ _ (b0f [3,75,76,77,109] _) ?_;refine zk ⟨?_⟩;refine b0a _ rfl ?_ ?_
         ·intro hc8;have hbw:b6l ins ws i=false:=by
           rw [hwp]
           (try simp at hc8)
           first | (simp;done) | (simp [hc8];done) | (simp;exact hc8) | (simp;intro q;exact hc8 q) | (rcases hc8 with h | h<;>first | (rw [decide_eq_false (show ¬0≤b6k ins x0 by omega)];simp;done) | (rw [decide_eq_false (show ¬0≤b6k ins x0 by omega)];rfl) | (simp [h];done)) | (simp;intros;simp_all;omega) | (simp;intros;simp_all;done) | (rcases hc8 with h | h<;>simp [h];done) | (simp_all;done)
          have hbad:=f0b (n:=n) (ss:=ss) (fl:=fl) hlt hbw;refine yR [4] ⟨?_⟩;refine zr ⟨?_⟩;exact b0g rfl (by rw [hbad]) (.inl rfl)
         ·intro hc8;have hgw:b6l ins ws i=true:=by
           rw [hwp]
           (try simp at hc8)
           first | (simp [hc8];done) | (simp;omega) | (simp_all;done) | (simp_all;omega)
          refine zn [3,75,76,77] ⟨?_⟩;refine yV ⟨?_⟩;refine n52 _ (i+1) ?_ ?_ ?_
          ·refine b0d [3,75,76,77] [0] ⟨?_⟩;rfl
          ·exact ⟨by omega,b7k hR3 hgw⟩
          ·show _ < _;omega
        ·skip;obtain ⟨⟨y0,y1⟩,hy⟩:∃x:TW,ws[i - 1]? =some x:=⟨ws[i - 1]'(by omega),qla (by omega)⟩;have hi0:(0:Int) < i:=by omega
         have hk:((i:Int) - 1).toNat=i - 1:=by omega
         have hwp:=c5k (ins:=ins) h0 hy hx;refine zn [3,75,76,77] ⟨?_⟩;refine b0e ?_;intros;refine b0i ?_;intros;have F:=fq6 (gdm hx) hi0 hk (gdm hy) @decide_true @qmm;refine yR [3,11,12,75,76,77] ⟨?_⟩;refine b0e ?_;intro Q67 n67 e67 r67;refine b1f (by kernel_rfl) ?_;intro K68 q68 k68;show b1r _ _ _ _ 28 (Array.replicate 28 false) _;refine b0h q68 true 0 82 ?_;refine b1d q68 true 1 83 ?_;refine b0h q68 true 2 84 ?_;refine b1d q68 true 3 85 ?_;refine zoc 4 (d0l ins x0 hil) ⟨?_⟩;refine b19 q68 true 5 87 ?_;refine b0t q68 true 6 88 ?_;refine b0c q68 true 7 89 ?_;refine b0r q68 true 8 90 ?_;first
         |refine d2r 9 ((c9y _ hlx)) ⟨?_⟩
         |(refine b3c 9 91 6 false rfl rfl (show 91 < 111 by decide) (by kernel_rfl) rfl ?_ ?_;(focus first | rfl | (simp only [zV,b04,Nat.reduceEqDiff,reduceIte];done));simp only [zW,b0k,Nat.reduceEqDiff,reduceIte])
         refine c0b q68 true 10 92 ?_;refine b1p q68 true 11 93 ?_;refine b0t q68 true 12 94 ?_;refine b0z q68 true 13 95 ?_;refine b0y q68 true 14 96 ?_;refine b0z q68 true 15 97 ?_;refine b0c q68 true 16 98 ?_;refine b0r q68 true 17 99 ?_;refine b0z q68 true 18 100 ?_;refine b2u q68 true 19 101 ?_;refine b0x q68 true 20 102 ?_;refine b0c q68 true 21 103 ?_;refine b0r q68 true 22 104 ?_;refine b0c q68 true 23 105 ?_;refine b0r q68 true 24 106 ?_;refine b0y q68 true 25 107 ?_;refine b4m q68 true 26 108 ?_;refine b1p q68 true 27 109 ?_;refine b0b (by kernel_rfl) ?_;refine k68 _ ?_;refine n67 _ _ (b0f [3,75,76,77,109] _) ?_;refine zk ⟨?_⟩;refine b0a _ rfl ?_ ?_
         ·intro hc8;have hbw:b6l ins ws i=false:=by
           rw [hwp]
           (try simp at hc8)
           first | (simp;done) | (simp [hc8];done) | (simp;exact hc8) | (simp;intro q;exact hc8 q) | (rcases hc8 with h | h<;>first | (rw [decide_eq_false (show ¬0≤b6k ins x0 by omega)];simp;done) | (rw [decide_eq_false (show ¬0≤b6k ins x0 by omega)];rfl) | (simp [h];done)) | (simp;intros;simp_all;omega) | (simp;intros;simp_all;done) | (rcases hc8 with h | h<;>simp [h];done) | (simp_all;done)
          have hbad:=f0b (n:=n) (ss:=ss) (fl:=fl) hlt hbw;refine yR [4] ⟨?_⟩;refine zr ⟨?_⟩;exact b0g rfl (by rw [hbad]) (.inl rfl)
         ·intro hc8;have hgw:b6l ins ws i=true:=by
           rw [hwp]
           (try simp at hc8)
           first | (simp [hc8];done) | (simp;omega) | (simp_all;done) | (simp_all;omega)
          refine zn [3,75,76,77] ⟨?_⟩;refine yV ⟨?_⟩;refine n52 _ (i+1) ?_ ?_ ?_
          ·refine b0d [3,75,76,77] [0] ⟨?_⟩;rfl
          ·exact ⟨by omega,b7k hR3 hgw⟩
          ·show _ < _;omega
       ·intro hc7;refine zn [] ⟨?_⟩;refine yR [4] ⟨?_⟩;refine zr ⟨?_⟩;exact b0g rfl (by rw [f3f hh hI hF (by omega) hR3]) (.inl rfl)
def b3j {α:Type} (b:Bool) (l:List α):List α:=bif b then l else []
theorem b2r {α:Type} (l:List α):b3j true l=l:=rfl
theorem b2s {α:Type} (l:List α):b3j false l=[]:=rfl
theorem c78 {α:Type} {p:α→Bool} {l:List α} (h:0≤b3b p 0 l):∃(k:Nat) (x:α),l[k]? =some x∧p x=true∧b3b p 0 l=(k:Int):=by
  obtain ⟨k,_,h2,_,x,h4,h5⟩:=c1w (p:=p) (l:=l) (i:=0) (by omega);exact ⟨k,x,h4,h5,by rw [h2,Nat.zero_add]⟩
theorem c1x {fl:List TA} {s:ByteArray} (h:0≤b3o fl s):∃(k:Nat) (x:TA),fl[k]? =some x∧x.1=s∧b3o fl s=(k:Int):=by
  rcases b8h fl s with q | ⟨k,x,h1,h2,h3⟩
  · omega
  · exact ⟨k,x,h2,h3,h1⟩
theorem f4h {ins:List TI} {n:Int} (h:0≤b6k ins n):∃(k:Nat) (x:TI),ins[k]? =some x∧(x.1=n∧x.2.2.1=false)∧b6k ins n=(k:Int):=by
  obtain ⟨k,x,h1,h2,h3⟩:=c78 h;simp only [Bool.and_eq_true,decide_eq_true_eq,Bool.not_eq_true'] at h2;exact ⟨k,x,h1,h2,h3⟩
theorem b64 {ins:List TI} {s:ByteArray} (h:0≤b4v ins s):∃(k:Nat) (x:TI),ins[k]? =some x∧inS s x.2.2.2=true∧b4v ins s=(k:Int):=c78 h
structure CtlFacts (n:Int) (ss:List TS) (fl:List TA) (ins:List TI) (ws:List TW):Prop where
  ds:DsFacts n ss fl
  town:b9g n ss=true
  ins8:b8d ins=true
  node:∀x∈ins,0≤x.2.1∧x.2.1 < n
  names:∀x∈ins,∀s∈x.2.2.2,0≤b3o fl s
  busy:∀a∈fl,b7u a=decide (0≤b4v ins a.1)
  ws8:ws.length≤8
  want:∀w∈ws,0≤b6k ins w.1∧b3i w.2=true
theorem b4f {n:Int} {ss:List TS} {fl:List TA} {ins:List TI} {ws:List TW} (h:b2o n ss fl ins ws=true):CtlFacts n ss fl ins ws:=by
  simp only [b2o,c9f,Bool.and_eq_true,List.all_eq_true,decide_eq_true_eq,Bool.not_eq_true',decide_eq_false_iff_not,List.mem_range] at h;obtain ⟨⟨⟨⟨⟨h1,h2⟩,h3⟩,h4⟩,h5⟩,h6⟩:=h;have hd:=d71 h1;refine ⟨hd,?_,h2,fun x hx=> ?_,fun x hx s hs=> ?_,fun a ha=> ?_,by omega,fun w hw=> ?_⟩
  · simp only [dsB,Bool.and_eq_true] at h1;exact h1.1.1
  · have:=h4 x hx
    rw [inP,qld,b6d hd.hn,qld,decide_eq_true_eq,decide_eq_true_eq] at this;exact this.1
  · have:=h4 x hx
    rw [inP,qld,qlf] at this;simpa using this.2 s hs
  · have:=h5 a ha
    rw [b5h] at this;simpa using this
  · obtain ⟨i,hi,rfl⟩:=List.getElem_of_mem hw
    have:=h6 i hi;rw [b6l,qla hi] at this;simp only [Bool.and_eq_true,decide_eq_true_eq] at this;exact ⟨this.1.1,this.1.2⟩
theorem b6f {n:Int} {ss:List TS} {fl:List TA} {ins:List TI} {ws:List TW} (h:b2o n ss fl ins ws=true):b9g n ss=true:=(b4f h).town
theorem c84 {n:Int} {ss:List TS} {fl:List TA} {ins:List TI} {ws:List TW} (h:CtlFacts n ss fl ins ws):∀w∈ws,w.2.length=4∧∀x∈w.2,0≤x∧x≤6:=by
  intro w hw;have:=(h.want w hw).2;rw [b3i,qld] at this;exact b6u this.1
theorem f1v (n:Int) (ss:List TS) (fl:List TA):b2o n ss fl [] []=(dsB n ss fl && !fl.any b7u):=by
  have h1:c9f n ss fl [] []=dsB n ss fl:=by simp [c9f,b8d]
  have h2:(fl.all (b5h []))= !fl.any b7u:=by
    rw [List.not_any_eq_all_not]
    congr 1
    funext a
    simp [b5h,b4v,b3b]
  rw [b2o,h1,h2];simp
def b58 (fl:List TA) (i:Nat):List ByteArray:=((fl.take i).filter b2k).map fun a=>a.1
theorem d7h {fl:List TA} {i:Nat} {x:TA} (h:fl[i]? =some x) (hp:b2k x=true):b58 fl (i+1)=b58 fl i++[x.1]:=by
  rw [b58,ql2,h,Option.toList,List.filter_append];simp [hp,b58]
theorem f1n {fl:List TA} {i:Nat} {x:TA} (h:fl[i]? =some x) (hp:b2k x=false):b58 fl (i+1)=b58 fl i:=by
  rw [b58,ql2,h,Option.toList,List.filter_append];simp [hp,b58]
theorem d1c (fl:List TA) (i:Nat):(b58 fl i).length≤i:=by
  rw [b58,qmj];exact ql6 (List.length_filter_le ..) (by rw [qlr];omega)
def stA (fl:List TA) (s:ByteArray):Int:=match fl[(b3o fl s).toNat]? with | some a=>a.2.2.2.2 | none=>0
theorem c98 {fl:List TA} {s:ByteArray} {k:Nat} {x:TA} (h:b3o fl s=(k:Int)) (hx:fl[k]? =some x):stA fl s=x.2.2.2.2:=by
  rw [stA,h,qli,hx]
theorem b5f {α β:Type} {f:α→β} {l:List α} {i:Nat} {x:α} (h:l[i]? =some x):(l.take (i+1)).map f=(l.take i).map f++[f x]:=by
  rw [ql2,h,Option.toList];simp only [aQ,fQ,List.map_append];try rfl
def c72:List Int→List Int→List Int
  | a::xs,b::ys=>(a+b)::c72 xs ys
  | xs,[]=>xs
  | [],_=>[]
theorem d14:∀l:List Int,c72 l []=l
  | []=>rfl
  | _::_=>rfl
theorem c6w:∀a b:List Int,(c72 a b).length=a.length
  | [],[]=>rfl
  | [],_::_=>rfl
  | _::_,[]=>rfl
  | a::xs,b::ys=>by rw [c72,qme,qme,c6w xs ys]
theorem c7q:∀{acc l:List Int} {k:Nat} {a b:Int},acc[k]? =some a→l[k]? =some b→(c72 acc (l.take k))[k]? =some a∧(c72 acc (l.take k)).set k (a+b)=c72 acc (l.take (k+1))
  | [],_,_,_,_,h,_=>by simp at h
  | _::_,[],_,_,_,_,h=>by simp at h
  | x::acc,y::l,0,a,b,h,k=>by
    simp at h k;subst h k;refine ⟨by simp [c72],?_⟩;simp [c72,d14]
  | x::acc,y::l,k+1,a,b,h,q=>by
    obtain ⟨h1,h2⟩:=c7q (acc:=acc) (l:=l) (k:=k) (a:=a) (b:=b) (by simpa using h) (by simpa using q);refine ⟨by simpa [c72] using h1,?_⟩;rw [List.take_succ_cons,c72,List.set_cons_succ,h2,List.take_succ_cons,c72]
theorem c93:∀{acc l:List Int} {A B:Int},0≤B→(∀x∈acc,0≤x∧x≤A)→(∀x∈l,0≤x∧x≤B)→∀x∈c72 acc l,0≤x∧x≤A+B
  | [],[],_,_,_,_,_,x,hx=>by cases hx
  | [],_::_,_,_,_,_,_,x,hx=>by cases hx
  | a::acc,[],A,B,hB,h1,_,x,hx=>by
    have:=h1 x hx;omega
  | a ::acc,b::l,A,B,hB,h1,h2,x,hx=>by
    rcases qlt.1 hx with e | e
    · have q1:=h1 a (qlh ..)
      have q2:=h2 b (qlh ..);subst e;omega
    · exact c93 hB (fun y hy=>h1 y (qll _ hy)) (fun y hy=>h2 y (qll _ hy)) x e
def b7l (ws:List TW) (i:Nat):List Int:=(ws.take i).foldl (fun acc w=>c72 acc w.2) [0,0,0,0]
theorem c1p {ws:List TW} {i:Nat} {w:TW} (h:ws[i]? =some w):b7l ws (i+1)=c72 (b7l ws i) w.2:=by
  rw [b7l,ql2,h,Option.toList,List.foldl_append];rfl
theorem c05 (ws:List TW):∀i,(b7l ws i).length=4
  | 0=>rfl
  | i+1=>by
    cases h:ws[i]? with
    | none=>rw [b7l,ql2,h];simp only [Option.toList,List.append_nil];exact c05 ws i
    | some w=>rw [c1p h,c6w,c05 ws i]
theorem c0c {ws:List TW} (hw:∀w∈ws,w.2.length=4∧∀x∈w.2,0≤x∧x≤6):∀i,∀x∈b7l ws i,0≤x∧x≤6 * (i:Int)
  | 0,x,hx=>by
    have:b7l ws 0=[0,0,0,0]:=rfl;rw [this] at hx;simp at hx;omega
  | i + 1,x,hx=>by
    cases h:ws[i]? with
    | none=>
      have e:b7l ws (i+1)=b7l ws i:=by rw [b7l,ql2,h];simp only [Option.toList,List.append_nil];rfl
      rw [e] at hx;have:=c0c hw i x hx;omega
    | some w=>
      rw [c1p h] at hx;have:=c93 (by omega) (c0c hw i) (hw w (qlb h)).2 x hx;omega
def b9t (fl:List TA) (s:ByteArray):Bool:=decide (0≤b3o fl s) && decide (stA fl s=2)
def d5e (fl:List TA) (ins:List TI) (s:ByteArray):List TA:=match fl[(b3o fl s).toNat]?,ins[(b4v ins s).toNat]? with
  | some a,some x=>fl.set (b3o fl s).toNat (a.1,a.2.1,x.2.1,a.2.2.2.1,3)
  | _,_=>fl
theorem d17 {fl:List TA} {ins:List TI} {s:ByteArray} {k m:Nat} {a:TA} {x:TI} (h1:b3o fl s=(k:Int)) (h2:fl[k]? =some a) (h3:b4v ins s=(m:Int)) (h4:ins[m]? =some x):d5e fl ins s=fl.set k (a.1,a.2.1,x.2.1,a.2.2.2.1,3):=by
  rw [d5e,h1,h3,qli,qli,h2,h4]
theorem d8a {n:Int} {ss:List TS} {fl:List TA} {ins:List TI} {ws:List TW} (h:CtlFacts n ss fl ins ws) {s:ByteArray} {k:Nat} {a:TA} (h1:fl[k]? =some a) (h2:a.1=s) (h3:a.2.2.2.2=2):0≤b4v ins s:=by
  have:=h.busy a (qlb h1);rw [b7u,h3,h2] at this;simpa using this.symm
end Go.Proofs.YtmbbjhopngejaaaGreatDoor
