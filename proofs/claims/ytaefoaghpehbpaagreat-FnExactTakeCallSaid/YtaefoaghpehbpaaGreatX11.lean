/- What functions compute. No condition. -/
import Derived.Test.YtaefoaghpehbpaaGreatUz
import Derived.Test.YtaefoaghpehbpaaGreatUty
import Derived.Test.YtaefoaghpehbpaaGreatUmG
import Derived.Test.YtaefoaghpehbpaaGreatX10
import Derived.Test.YtaefoaghpehbpaaGreatX7
import Derived.Test.YtaefoaghpehbpaaGreatX4
import Derived.Test.YtaefoaghpehbpaaGreatX9
import Derived.Test.YtaefoaghpehbpaaGreatX8
import Derived.Test.YtaefoaghpehbpaaGreatX1
set_option linter.unusedSimpArgs false
set_option linter.unusedVariables false
set_option linter.defProp false
namespace Go.Proofs.YtaefoaghpehbpaaGreat
open Go Go.Vm
set_option maxHeartbeats 8000000
set_option maxRecDepth 8000 in
theorem d1o (n:Int) (ss:List TS) (fl:List TA) (ins:List TI) (ws:List TW) (hs:ss.length≤1048576) (hl:fl.length≤1048576) (hls:∀t∈fl,t.1.size≤9223372036854775807) (hil:ins.length≤1048576) (hin:∀x∈ins,x.2.2.2.length≤1048576) (his:∀x∈ins,∀s∈x.2.2.2,s.size≤9223372036854775807) (hwl:ws.length≤1048576) (hwn:∀x∈ws,x.2.length≤1048576):Con Tryz.prog 65 [.pv [.agg [.int .i64 n,.sl (ss.map (fun t:TS=>V.agg [V.int .i64 t.1,V.int .i64 t.2.1,V.int .i64 t.2.2]))]] 0 0,.pv [.agg [.sl (fl.map (fun t:TA=>V.agg [V.str t.1,V.int .i64 t.2.1,V.int .i64 t.2.2.1,V.int .i64 t.2.2.2.1,V.int .i64 t.2.2.2.2])),.sl (ins.map (fun t:TI=>V.agg [V.int .i64 t.1,V.int .i64 t.2.1,V.bool t.2.2.1,V.sl (t.2.2.2.map V.str)])),.sl (ws.map (fun t:TW=>V.agg [V.int .i64 t.1,V.sl (t.2.map (V.int .i64))]))]] 0 0] [] (.bool (c2h n ss fl ins ws)) []:=by
 refine b05 [.tmp 4] [] Tryz.func65 rfl rfl rfl (by simp [Tryz.ntmps65]) ?_
 intro Q0 n0 r0
 simp only [Tryz.ntmps65,b0l,Nat.reduceAdd]
 have T:=Tys.mk (ai Ty.t3 (ai Ty.t4 (ai Ty.t9 (ai Ty.t32 (ai Ty.t33 (ai Ty.t34 (ai Ty.t36 (ai Ty.t39 (ai Ty.t41 (ai Ty.t51 (ai Ty.t75 (ai Ty.t96 (ai Ty.t99 (ai Ty.t102 (ai Ty.t108 Ty.t169)))))))))))))))
 have F:=Fc.mk True.intro
 refine yR [0,1] ⟨?_⟩;refine b0c ?_;intros;refine f4g [0,1,35] (c5w n ss fl hs hl hls) (c5s ins hil hin his) ⟨?_⟩;refine b0d _ rfl ?_ ?_
 ·intro hc0
  have hh:d1y n ss fl ins ws=false:=by cases hq:d1y n ss fl ins ws with | false=>rfl | true=>(exfalso;simp [d1y] at hq;(try simp at hc0);simp_all;first | done | omega)
  have hbad:=f7d hh
  refine yR [4] ⟨?_⟩;refine zr ⟨?_⟩
  exact b0a rfl (by rw [hbad]) (.inl rfl)
 ·intro hc0
  have hh:d1y n ss fl ins ws=true:=by simp [d1y];(try simp at hc0);first | (simp_all;done) | (simp_all;omega)
  obtain ⟨hd,hnd⟩:=c9x hh
  have hfl12:=hd.hfl
  have hn14:=hd.hn
  refine zn [0,1] ⟨?_⟩;refine b0c ?_;intros;refine yR [0,1,39,40,41] ⟨?_⟩;refine b0g ?_;intros;refine b08 (fun i=>⟨[(0,.pv [.agg [.int .i64 n,.sl (ss.map (fun t:TS=>V.agg [V.int .i64 t.1,V.int .i64 t.2.1,V.int .i64 t.2.2]))]] 0 0),(1,.pv [.agg [.sl (fl.map (fun t:TA=>V.agg [V.str t.1,V.int .i64 t.2.1,V.int .i64 t.2.2.1,V.int .i64 t.2.2.2.1,V.int .i64 t.2.2.2.2])),.sl (ins.map (fun t:TI=>V.agg [V.int .i64 t.1,V.int .i64 t.2.1,V.bool t.2.2.1,V.sl (t.2.2.2.map V.str)])),.sl (ws.map (fun t:TW=>V.agg [V.int .i64 t.1,V.sl (t.2.map (V.int .i64))]))]] 0 0),(39,.sl (ins.map (fun t:TI=>V.agg [V.int .i64 t.1,V.int .i64 t.2.1,V.bool t.2.2.1,V.sl (t.2.2.2.map V.str)]))),(40,.int .i64 ins.length),(41,.int .i64 (Nat.cast i))],[],false,136,0⟩) (fun i=>i≤ins.length∧(ins.drop i).all (inP n fl)=ins.all (inP n fl)) (fun i=>ins.length - i) 0 ?_ ?_ ?_
  ·refine b0b [0,1,39,40,41] [] ⟨?_⟩
   rfl
  ·exact ⟨Nat.zero_le _,rfl⟩
  ·rintro i hok9 Q9 n9 e9 r9
   obtain ⟨hi1,hR⟩:=hok9
   refine yR [0,1,39,40,41,42] ⟨?_⟩;refine b0c ?_;intros;refine b0d _ rfl ?_ ?_
   ·intro hc1
    have hlt:i < ins.length:=by omega
    obtain ⟨⟨x0,x1,x2,x3⟩,hx⟩:∃x:TI,ins[i]? =some x:=⟨ins[i]'(by omega),List.getElem?_eq_getElem (by omega)⟩
    have hlx:=hin _ (List.mem_of_getElem? hx)
    have hnx:=hnd _ (List.mem_of_getElem? hx)
    simp only [] at hlx hnx
    have hst:=b5m (p:=inP n fl) hx
    have hip:inP n fl (x0,x1,x2,x3)=(c0p n x1 && x3.all (fun s=>decide (0≤b5a fl s))):=rfl
    have hhb:=b5r (x:=x1) hn14
    refine zn [0,1,39,40,41] ⟨?_⟩;refine b0c ?_;intros;refine b0g ?_;intros
    have F:=Fc.mk (gdm hx)
    refine yR [0,1,6,39,40,41] ⟨?_⟩;refine b0c ?_;intros;refine yRc [0,1,6,39,40,41,49] (c3n n ss x1) ⟨?_⟩;refine b0d _ rfl ?_ ?_
    ·intro hc2
     have hh0:c0p n x1=false:=by first | (simpa using hc2) | (rw [hhb,decide_eq_false (show ¬x1 < n by (try simp at hc2);omega)];simp)
     have hbad:=f3v (ss:=ss) (ws:=ws) (show ins.all (inP n fl)=false by rw [←hR,hst,hip,hh0];rfl)
     refine yR [4] ⟨?_⟩;refine zr ⟨?_⟩
     exact b0a rfl (by rw [hbad]) (.inl rfl)
    ·intro hc2
     have hh1:c0p n x1=true:=by first | (simpa using hc2) | (rw [hhb,decide_eq_true hnx,decide_eq_true (show x1 < n by (try simp at hc2);omega)];rfl)
     refine zn [0,1,6,39,40,41] ⟨?_⟩;refine yR [0,1,39,40,41,51,52,53] ⟨?_⟩;refine b0g ?_;intros;refine b08 (fun j=>⟨[(0,.pv [.agg [.int .i64 n,.sl (ss.map (fun t:TS=>V.agg [V.int .i64 t.1,V.int .i64 t.2.1,V.int .i64 t.2.2]))]] 0 0),(1,.pv [.agg [.sl (fl.map (fun t:TA=>V.agg [V.str t.1,V.int .i64 t.2.1,V.int .i64 t.2.2.1,V.int .i64 t.2.2.2.1,V.int .i64 t.2.2.2.2])),.sl (ins.map (fun t:TI=>V.agg [V.int .i64 t.1,V.int .i64 t.2.1,V.bool t.2.2.1,V.sl (t.2.2.2.map V.str)])),.sl (ws.map (fun t:TW=>V.agg [V.int .i64 t.1,V.sl (t.2.map (V.int .i64))]))]] 0 0),(39,.sl (ins.map (fun t:TI=>V.agg [V.int .i64 t.1,V.int .i64 t.2.1,V.bool t.2.2.1,V.sl (t.2.2.2.map V.str)]))),(40,.int .i64 ins.length),(41,.int .i64 (Nat.cast i)),(51,.sl (x3.map V.str)),(52,.int .i64 x3.length),(53,.int .i64 (Nat.cast j))],[],false,136,0⟩) (fun j=>j≤x3.length∧(x3.drop j).all (fun s=>decide (0≤b5a fl s))=x3.all (fun s=>decide (0≤b5a fl s))) (fun j=>x3.length - j) 0 ?_ ?_ ?_
     ·refine b0b [0,1,39,40,41,51,52,53] [] ⟨?_⟩
      rfl
     ·exact ⟨Nat.zero_le _,rfl⟩
     ·rintro j hok22 Q22 n22 e22 r22
      obtain ⟨hj1,hR1⟩:=hok22
      refine yR [0,1,39,40,41,51,52,53,54] ⟨?_⟩;refine b0c ?_;intros;refine b0d _ rfl ?_ ?_
      ·intro hc3
       have hlj:j < x3.length:=by omega
       obtain ⟨s,hs1⟩:∃s,x3[j]? =some s:=⟨_,List.getElem?_eq_getElem hlj⟩
       have hst1:=b5m (p:=(fun s=>decide (0≤b5a fl s))) hs1
       refine zn [0,1,39,40,41,51,52,53] ⟨?_⟩;refine b0c ?_;intros;refine b0g ?_;intros
       have F:=Fc.mk (ai (gdm hx) (gdm hs1))
       refine yR [0,1,8,39,40,41,51,52,53] ⟨?_⟩;refine yRc [0,1,39,40,41,51,52,53,63] (c4a fl s hl) ⟨?_⟩;refine b0d _ rfl ?_ ?_
       ·intro hc4
        have hbad:=f3v (ss:=ss) (ws:=ws) (show ins.all (inP n fl)=false by rw [←hR,hst,hip,show x3.all (fun s=>decide (0≤b5a fl s))=false by rw [←hR1,hst1,decide_eq_false (show ¬0≤b5a fl s by (try simp at hc4);omega)];rfl];simp)
        refine yR [4] ⟨?_⟩;refine zr ⟨?_⟩
        exact b0a rfl (by rw [hbad]) (.inl rfl)
       ·intro hc4
        have hfs:0≤b5a fl s:=by (try simp at hc4);omega
        refine zn [0,1,39,40,41,51,52,53] ⟨?_⟩;refine yV ⟨?_⟩;refine n22 _ (j+1) ?_ ?_ ?_
        ·refine b0b [0,1,39,40,41,51,52,53] [] ⟨?_⟩
         rfl
        ·exact ⟨by omega,by rw [←hR1,hst1,decide_eq_true hfs];rfl⟩
        ·show _ < _;omega
      ·intro hc3
       have hall:x3.all (fun s=>decide (0≤b5a fl s))=true:=by rw [←hR1,b7k (by omega)]
       refine zn [0,1,39,40,41] ⟨?_⟩;refine yV ⟨?_⟩;refine n9 _ (i+1) ?_ ?_ ?_
       ·refine b0b [0,1,39,40,41] [] ⟨?_⟩
        rfl
       ·exact ⟨by omega,by rw [←hR,hst,hip,hh1,hall];rfl⟩
       ·show _ < _;omega
   ·intro hc1
    have hI:ins.all (inP n fl)=true:=by rw [←hR,b7k (by omega)]
    refine zn [1] ⟨?_⟩;refine b0c ?_;intros;refine yR [1,69,70,71] ⟨?_⟩;refine b0g ?_;intros;refine b08 (fun i=>⟨[(1,.pv [.agg [.sl (fl.map (fun t:TA=>V.agg [V.str t.1,V.int .i64 t.2.1,V.int .i64 t.2.2.1,V.int .i64 t.2.2.2.1,V.int .i64 t.2.2.2.2])),.sl (ins.map (fun t:TI=>V.agg [V.int .i64 t.1,V.int .i64 t.2.1,V.bool t.2.2.1,V.sl (t.2.2.2.map V.str)])),.sl (ws.map (fun t:TW=>V.agg [V.int .i64 t.1,V.sl (t.2.map (V.int .i64))]))]] 0 0),(69,.sl (fl.map (fun t:TA=>V.agg [V.str t.1,V.int .i64 t.2.1,V.int .i64 t.2.2.1,V.int .i64 t.2.2.2.1,V.int .i64 t.2.2.2.2]))),(70,.int .i64 fl.length),(71,.int .i64 (Nat.cast i))],[],false,136,0⟩) (fun i=>i≤fl.length∧(fl.drop i).all (b5d ins)=fl.all (b5d ins)) (fun i=>fl.length - i) 0 ?_ ?_ ?_
    ·refine b0b [1,69,70,71] [] ⟨?_⟩
     rfl
    ·exact ⟨Nat.zero_le _,rfl⟩
    ·rintro i hok37 Q37 n37 e37 r37
     obtain ⟨hi2,hR2⟩:=hok37
     refine yR [1,69,70,71,72] ⟨?_⟩;refine b0c ?_;intros;refine b0d _ rfl ?_ ?_
     ·intro hc5
      have hlt:i < fl.length:=by omega
      obtain ⟨⟨x0,x1,x2,x3,x4⟩,hx⟩:∃x:TA,fl[i]? =some x:=⟨fl[i]'(by omega),List.getElem?_eq_getElem (by omega)⟩
      have hst:=b5m (p:=b5d ins) hx
      have hfp:b5d ins (x0,x1,x2,x3,x4)= !(c3o (x0,x1,x2,x3,x4) != decide (0≤c74 ins x0)):=rfl
      refine zn [1,69,70,71] ⟨?_⟩;refine b0c ?_;intros;refine b0g ?_;intros
      have F:=Fc.mk (gdm hx)
      refine yR [1,10,69,70,71] ⟨?_⟩;refine b0c ?_;intro Q44 n44 e44 r44;refine b1p (by kernel_rfl) ?_;intro K45 q45 k45
      show b14 _ _ _ _ 11 (Array.replicate 11 false) _
      refine b1h q45 true 0 75 ?_;refine b0o q45 true 2 77 ?_;refine b37 q45 true 3 78 ?_;refine b0p q45 true 4 79 ?_;refine b1h q45 true 5 80 ?_;refine b0p q45 true 6 81 ?_;refine b1h q45 true 7 82 ?_;refine zoc 1 (d9b x0 x1 x2 x3 x4) ⟨?_⟩;refine zoc 8 (b7r ins x0 hil hin) ⟨?_⟩;refine b2a q45 true 9 84 ?_;refine b2a q45 true 10 85 ?_;refine b0j (by kernel_rfl) ?_;refine k45 _ ?_;refine n44 _ _ (b0f [1,69,70,71,85] _) ?_;refine zk ⟨?_⟩;refine b0d _ rfl ?_ ?_
      ·intro hc6
       have hbad:=f62 (n:=n) (ss:=ss) (ws:=ws) (show fl.all (b5d ins)=false by rw [←hR2,hst,hfp];first | (rw [hc6];rfl) | (simp [c3o] at hc6⊢;simp_all;done) | (simp_all [c3o];done))
       refine yR [4] ⟨?_⟩;refine zr ⟨?_⟩
       exact b0a rfl (by rw [hbad]) (.inl rfl)
      ·intro hc6
       have hgf:b5d ins (x0,x1,x2,x3,x4)=true:=by rw [hfp];first | (rw [hc6];rfl) | (simp [c3o] at hc6⊢;simp_all;done) | (simp_all [c3o];done)
       refine zn [1,69,70,71] ⟨?_⟩;refine yV ⟨?_⟩;refine n37 _ (i+1) ?_ ?_ ?_
       ·refine b0b [1,69,70,71] [] ⟨?_⟩
        rfl
       ·exact ⟨by omega,by rw [←hR2,hst,hgf];rfl⟩
       ·show _ < _;omega
     ·intro hc5
      have hF:fl.all (b5d ins)=true:=by rw [←hR2,b7k (by omega)]
      refine zn [1] ⟨?_⟩;refine b0c ?_;intros;refine yR [1,90,91,92] ⟨?_⟩;refine b0g ?_;intros;refine b08 (fun i=>⟨[(1,.pv [.agg [.sl (fl.map (fun t:TA=>V.agg [V.str t.1,V.int .i64 t.2.1,V.int .i64 t.2.2.1,V.int .i64 t.2.2.2.1,V.int .i64 t.2.2.2.2])),.sl (ins.map (fun t:TI=>V.agg [V.int .i64 t.1,V.int .i64 t.2.1,V.bool t.2.2.1,V.sl (t.2.2.2.map V.str)])),.sl (ws.map (fun t:TW=>V.agg [V.int .i64 t.1,V.sl (t.2.map (V.int .i64))]))]] 0 0),(90,.sl (ws.map (fun t:TW=>V.agg [V.int .i64 t.1,V.sl (t.2.map (V.int .i64))]))),(91,.int .i64 ws.length),(92,.int .i64 (Nat.cast i))],[],false,136,0⟩) (fun i=>i≤ws.length∧∀j,j < i→b5w ins ws j=true) (fun i=>ws.length - i) 0 ?_ ?_ ?_
      ·refine b0b [1,90,91,92] [] ⟨?_⟩
       rfl
      ·exact ⟨Nat.zero_le _,fun j h=>absurd h (Nat.not_lt_zero _)⟩
      ·rintro i hok52 Q52 n52 e52 r52
       obtain ⟨hi3,hR3⟩:=hok52
       refine yR [1,90,91,92,93] ⟨?_⟩;refine b0c ?_;intros;refine b0d _ rfl ?_ ?_
       ·intro hc7
        have hlt:i < ws.length:=by omega
        obtain ⟨⟨x0,x1⟩,hx⟩:∃x:TW,ws[i]? =some x:=⟨ws[i]'(by omega),List.getElem?_eq_getElem (by omega)⟩
        have hlx:=hwn _ (List.mem_of_getElem? hx)
        simp only [] at hlx
        rcases Nat.eq_zero_or_pos i with h0 | h0<;>rcases Bool.eq_false_or_eq_true (c2f x1) with hnd4 | hnd4
        ·skip
         have hi0:¬((0:Int) < (i:Int)):=by omega
         have hwp:b5w ins ws i=(decide (0≤b5y ins x0) && b3b x1):=by subst h0;exact c4y hx
         obtain ⟨a,m,hm⟩:∃a m,x1=a::m:=by cases x1 with | nil=>(have:=b7n hnd4;simp at this) | cons a m=>exact ⟨a,m,rfl⟩
         subst hm
         have hmx:=c7o a m hlx
         have hmz:=d01 hnd4
         have hrn:b3b (a::m)= !decide (b8q m a=0):=by rw [b3b,hnd4,hmz];rfl
         refine zn [1,90,91,92] ⟨?_⟩;refine b0c ?_;intros;refine b0g ?_;intros
         have F:=Fc.mk (ai (gdm hx) (ai hi0 (ai @decide_false (ai @Bool.and_false hnd4))))
         refine yR [1,11,12,90,91,92] ⟨?_⟩;refine b0c ?_;intro Q59 n59 e59 r59;refine b1p (by kernel_rfl) ?_;intro K60 q60 k60
         show b14 _ _ _ _ 38 (Array.replicate 38 false) _
         refine b0o q60 true 0 97 ?_;refine b37 q60 true 1 98 ?_;refine b0p q60 true 2 99 ?_;refine b1h q60 true 3 100 ?_;refine b0p q60 true 4 101 ?_;refine b1h q60 true 5 102 ?_;refine zoc 6 (c1e ins x0 hil) ⟨?_⟩;refine b2a q60 true 7 104 ?_;refine b0o q60 true 8 105 ?_;refine b0y q60 true 9 106 ?_;refine b0z q60 true 10 107 ?_;refine b0y q60 true 11 108 ?_;refine b0y q60 true 12 109 ?_;refine b6c q60 true 13 110 ?_;refine b0e q60 true 14 111 ?_;refine b0q q60 true 15 112 ?_;refine b0y q60 true 16 113 ?_;refine b2e q60 true 17 114 ?_;refine b0x q60 true 18 115 ?_;refine b0e q60 true 19 116 ?_;refine b0q q60 true 20 117 ?_;refine b0e q60 true 21 118 ?_;refine b0q q60 true 22 119 ?_;refine b0z q60 true 23 120 ?_;refine b38 q60 true 24 121 ?_;refine b1w q60 true 25 122 ?_;refine b0o q60 true 26 123 ?_;refine b0e q60 true 27 124 ?_;refine b0q q60 true 28 125 ?_
         first
         |refine d60 29 ((b8z _ hlx)) ⟨?_⟩
         |(refine b2u 29 126 26 false rfl rfl (show 126 < 136 by decide) (by kernel_rfl) rfl ?_ ?_;(focus first | rfl | (simp only [zV,b1o,Nat.reduceEqDiff,reduceIte];done));simp only [zW,b0m,Nat.reduceEqDiff,reduceIte])
         refine c0n q60 true 30 127 ?_;refine b1w q60 true 31 128 ?_;refine b0o q60 true 32 129 ?_;refine b0e q60 true 33 130 ?_;refine b0q q60 true 34 131 ?_
         first
         |refine d60 35 (hmx) ⟨?_⟩
         |(refine b2u 35 132 32 false rfl rfl (show 132 < 136 by decide) (by kernel_rfl) rfl ?_ ?_;(focus first | rfl | (simp only [zV,b1o,Nat.reduceEqDiff,reduceIte];done));simp only [zW,b0m,Nat.reduceEqDiff,reduceIte])
         refine b0z q60 true 36 133 ?_;refine b1w q60 true 37 134 ?_;refine b0j (by kernel_rfl) ?_;refine k60 _ ?_;refine n59 _ _ (b0f [1,90,91,92,134] _) ?_;refine zk ⟨?_⟩;refine b0d _ rfl ?_ ?_
         ·intro hc8
          have hbw:b5w ins ws i=false:=by
           rw [hwp]
           simp only [hrn]
           (try simp at hc8)
           first | (simp;done) | (simp [hc8];done) | (simp;exact hc8) | (simp;intro q;exact hc8 q) | (rcases hc8 with h | h<;>first | (rw [decide_eq_false (show ¬0≤b5y ins x0 by omega)];simp;done) | (rw [decide_eq_false (show ¬0≤b5y ins x0 by omega)];rfl) | (simp [h];done)) | (simp;intros;simp_all;omega) | (simp;intros;simp_all;done) | (rcases hc8 with h | h<;>simp [h];done) | (simp_all;done)
          have hbad:=d8x (n:=n) (ss:=ss) (fl:=fl) hlt hbw
          refine yR [4] ⟨?_⟩;refine zr ⟨?_⟩
          exact b0a rfl (by rw [hbad]) (.inl rfl)
         ·intro hc8
          have hgw:b5w ins ws i=true:=by
           rw [hwp]
           simp only [hrn]
           (try simp at hc8)
           first | (simp [hc8];done) | (simp;omega) | (simp_all;done) | (simp_all;omega)
          refine zn [1,90,91,92] ⟨?_⟩;refine yV ⟨?_⟩;refine n52 _ (i+1) ?_ ?_ ?_
          ·refine b0b [1,90,91,92] [] ⟨?_⟩
           rfl
          ·exact ⟨by omega,b6p hR3 hgw⟩
          ·show _ < _;omega
        ·skip
         have hi0:¬((0:Int) < (i:Int)):=by omega
         have hwp:b5w ins ws i=(decide (0≤b5y ins x0) && b3b x1):=by subst h0;exact c4y hx
         have hmx:=True.intro
         have hrn:b3b x1=false:=by rw [b3b,hnd4];rfl
         refine zn [1,90,91,92] ⟨?_⟩;refine b0c ?_;intros;refine b0g ?_;intros
         have F:=Fc.mk (ai (gdm hx) (ai hi0 (ai @decide_false (ai @Bool.and_false (ai hnd4 (ai @Bool.or_true (ai @Bool.true_or @Bool.not_false)))))))
         refine yR [1,11,12,90,91,92] ⟨?_⟩;refine b0c ?_;intro Q67 n67 e67 r67;refine b1p (by kernel_rfl) ?_;intro K68 q68 k68
         show b14 _ _ _ _ 38 (Array.replicate 38 false) _
         refine b0o q68 true 0 97 ?_;refine b37 q68 true 1 98 ?_;refine b0p q68 true 2 99 ?_;refine b1h q68 true 3 100 ?_;refine b0p q68 true 4 101 ?_;refine b1h q68 true 5 102 ?_;refine zoc 6 (c1e ins x0 hil) ⟨?_⟩;refine b2a q68 true 7 104 ?_;refine b0o q68 true 8 105 ?_;refine b0y q68 true 9 106 ?_;refine b0z q68 true 10 107 ?_;refine b0y q68 true 11 108 ?_;refine b0y q68 true 12 109 ?_;refine b6c q68 true 13 110 ?_;refine b0e q68 true 14 111 ?_;refine b0q q68 true 15 112 ?_;refine b0y q68 true 16 113 ?_;refine b2e q68 true 17 114 ?_;refine b0x q68 true 18 115 ?_;refine b0e q68 true 19 116 ?_;refine b0q q68 true 20 117 ?_;refine b0e q68 true 21 118 ?_;refine b0q q68 true 22 119 ?_;refine b0z q68 true 23 120 ?_;refine b38 q68 true 24 121 ?_;refine b1w q68 true 25 122 ?_;refine b0o q68 true 26 123 ?_;refine b0e q68 true 27 124 ?_;refine b0q q68 true 28 125 ?_
         first
         |refine d60 29 ((b8z _ hlx)) ⟨?_⟩
         |(refine b2u 29 126 26 false rfl rfl (show 126 < 136 by decide) (by kernel_rfl) rfl ?_ ?_;(focus first | rfl | (simp only [zV,b1o,Nat.reduceEqDiff,reduceIte];done));simp only [zW,b0m,Nat.reduceEqDiff,reduceIte])
         refine c0n q68 true 30 127 ?_;refine b1w q68 true 31 128 ?_;refine b0o q68 true 32 129 ?_;refine b0e q68 true 33 130 ?_;refine b0q q68 true 34 131 ?_
         first
         |refine d60 35 (hmx) ⟨?_⟩
         |(refine b2u 35 132 32 false rfl rfl (show 132 < 136 by decide) (by kernel_rfl) rfl ?_ ?_;(focus first | rfl | (simp only [zV,b1o,Nat.reduceEqDiff,reduceIte];done));simp only [zW,b0m,Nat.reduceEqDiff,reduceIte])
         refine b0z q68 true 36 133 ?_;refine b1w q68 true 37 134 ?_;refine b0j (by kernel_rfl) ?_;refine k68 _ ?_;refine n67 _ _ (b0f [1,90,91,92,134] _) ?_;refine zk ⟨?_⟩;refine b1z _ rfl ?_ ?_
         ·intro hc8
          try simp only [zC,reduceCtorEq] at hc8
          have hbw:b5w ins ws i=false:=by
           rw [hwp]
           simp only [hrn]
           (try simp at hc8)
           first | (simp;done) | (simp [hc8];done) | (simp;exact hc8) | (simp;intro q;exact hc8 q) | (rcases hc8 with h | h<;>first | (rw [decide_eq_false (show ¬0≤b5y ins x0 by omega)];simp;done) | (rw [decide_eq_false (show ¬0≤b5y ins x0 by omega)];rfl) | (simp [h];done)) | (simp;intros;simp_all;omega) | (simp;intros;simp_all;done) | (rcases hc8 with h | h<;>simp [h];done) | (simp_all;done)
          have hbad:=d8x (n:=n) (ss:=ss) (fl:=fl) hlt hbw
          refine yR [4] ⟨?_⟩;refine zr ⟨?_⟩
          exact b0a rfl (by rw [hbad]) (.inl rfl)
         ·intro hc8
          exfalso;first | (cases hc8;done) | (simp at hc8;done)
        ·skip
         obtain ⟨⟨y0,y1⟩,hy⟩:∃x:TW,ws[i - 1]? =some x:=⟨ws[i - 1]'(by omega),List.getElem?_eq_getElem (by omega)⟩
         have hi0:(0:Int) < i:=by omega
         have hk:((i:Int) - 1).toNat=i - 1:=by omega
         have hwp:=c4j (ins:=ins) h0 hy hx
         obtain ⟨a,m,hm⟩:∃a m,x1=a::m:=by cases x1 with | nil=>(have:=b7n hnd4;simp at this) | cons a m=>exact ⟨a,m,rfl⟩
         subst hm
         have hmx:=c7o a m hlx
         have hmz:=d01 hnd4
         have hrn:b3b (a::m)= !decide (b8q m a=0):=by rw [b3b,hnd4,hmz];rfl
         refine zn [1,90,91,92] ⟨?_⟩;refine b0c ?_;intros;refine b0g ?_;intros
         have F:=Fc.mk (ai (gdm hx) (ai hi0 (ai hk (ai (gdm hy) (ai @decide_true (ai @Bool.and_true hnd4))))))
         refine yR [1,11,12,90,91,92] ⟨?_⟩;refine b0c ?_;intro Q74 n74 e74 r74;refine b1p (by kernel_rfl) ?_;intro K75 q75 k75
         show b14 _ _ _ _ 38 (Array.replicate 38 false) _
         refine b0o q75 true 0 97 ?_;refine b37 q75 true 1 98 ?_;refine b0p q75 true 2 99 ?_;refine b1h q75 true 3 100 ?_;refine b0p q75 true 4 101 ?_;refine b1h q75 true 5 102 ?_;refine zoc 6 (c1e ins x0 hil) ⟨?_⟩;refine b2a q75 true 7 104 ?_;refine b0o q75 true 8 105 ?_;refine b0y q75 true 9 106 ?_;refine b0z q75 true 10 107 ?_;refine b0y q75 true 11 108 ?_;refine b0y q75 true 12 109 ?_;refine b6c q75 true 13 110 ?_;refine b0e q75 true 14 111 ?_;refine b0q q75 true 15 112 ?_;refine b0y q75 true 16 113 ?_;refine b2e q75 true 17 114 ?_;refine b0x q75 true 18 115 ?_;refine b0e q75 true 19 116 ?_;refine b0q q75 true 20 117 ?_;refine b0e q75 true 21 118 ?_;refine b0q q75 true 22 119 ?_;refine b0z q75 true 23 120 ?_;refine b38 q75 true 24 121 ?_;refine b1w q75 true 25 122 ?_;refine b0o q75 true 26 123 ?_;refine b0e q75 true 27 124 ?_;refine b0q q75 true 28 125 ?_
         first
         |refine d60 29 ((b8z _ hlx)) ⟨?_⟩
         |(refine b2u 29 126 26 false rfl rfl (show 126 < 136 by decide) (by kernel_rfl) rfl ?_ ?_;(focus first | rfl | (simp only [zV,b1o,Nat.reduceEqDiff,reduceIte];done));simp only [zW,b0m,Nat.reduceEqDiff,reduceIte])
         refine c0n q75 true 30 127 ?_;refine b1w q75 true 31 128 ?_;refine b0o q75 true 32 129 ?_;refine b0e q75 true 33 130 ?_;refine b0q q75 true 34 131 ?_
         first
         |refine d60 35 (hmx) ⟨?_⟩
         |(refine b2u 35 132 32 false rfl rfl (show 132 < 136 by decide) (by kernel_rfl) rfl ?_ ?_;(focus first | rfl | (simp only [zV,b1o,Nat.reduceEqDiff,reduceIte];done));simp only [zW,b0m,Nat.reduceEqDiff,reduceIte])
         refine b0z q75 true 36 133 ?_;refine b1w q75 true 37 134 ?_;refine b0j (by kernel_rfl) ?_;refine k75 _ ?_;refine n74 _ _ (b0f [1,90,91,92,134] _) ?_;refine zk ⟨?_⟩;refine b0d _ rfl ?_ ?_
         ·intro hc8
          have hbw:b5w ins ws i=false:=by
           rw [hwp]
           simp only [hrn]
           (try simp at hc8)
           first | (simp;done) | (simp [hc8];done) | (simp;exact hc8) | (simp;intro q;exact hc8 q) | (rcases hc8 with h | h<;>first | (rw [decide_eq_false (show ¬0≤b5y ins x0 by omega)];simp;done) | (rw [decide_eq_false (show ¬0≤b5y ins x0 by omega)];rfl) | (simp [h];done)) | (simp;intros;simp_all;omega) | (simp;intros;simp_all;done) | (rcases hc8 with h | h<;>simp [h];done) | (simp_all;done)
          have hbad:=d8x (n:=n) (ss:=ss) (fl:=fl) hlt hbw
          refine yR [4] ⟨?_⟩;refine zr ⟨?_⟩
          exact b0a rfl (by rw [hbad]) (.inl rfl)
         ·intro hc8
          have hgw:b5w ins ws i=true:=by
           rw [hwp]
           simp only [hrn]
           (try simp at hc8)
           first | (simp [hc8];done) | (simp;omega) | (simp_all;done) | (simp_all;omega)
          refine zn [1,90,91,92] ⟨?_⟩;refine yV ⟨?_⟩;refine n52 _ (i+1) ?_ ?_ ?_
          ·refine b0b [1,90,91,92] [] ⟨?_⟩
           rfl
          ·exact ⟨by omega,b6p hR3 hgw⟩
          ·show _ < _;omega
        ·skip
         obtain ⟨⟨y0,y1⟩,hy⟩:∃x:TW,ws[i - 1]? =some x:=⟨ws[i - 1]'(by omega),List.getElem?_eq_getElem (by omega)⟩
         have hi0:(0:Int) < i:=by omega
         have hk:((i:Int) - 1).toNat=i - 1:=by omega
         have hwp:=c4j (ins:=ins) h0 hy hx
         have hmx:=True.intro
         have hrn:b3b x1=false:=by rw [b3b,hnd4];rfl
         refine zn [1,90,91,92] ⟨?_⟩;refine b0c ?_;intros;refine b0g ?_;intros
         have F:=Fc.mk (ai (gdm hx) (ai hi0 (ai hk (ai (gdm hy) (ai @decide_true (ai @Bool.and_true (ai hnd4 (ai @Bool.or_true (ai @Bool.true_or @Bool.not_false)))))))))
         refine yR [1,11,12,90,91,92] ⟨?_⟩;refine b0c ?_;intro Q82 n82 e82 r82;refine b1p (by kernel_rfl) ?_;intro K83 q83 k83
         show b14 _ _ _ _ 38 (Array.replicate 38 false) _
         refine b0o q83 true 0 97 ?_;refine b37 q83 true 1 98 ?_;refine b0p q83 true 2 99 ?_;refine b1h q83 true 3 100 ?_;refine b0p q83 true 4 101 ?_;refine b1h q83 true 5 102 ?_;refine zoc 6 (c1e ins x0 hil) ⟨?_⟩;refine b2a q83 true 7 104 ?_;refine b0o q83 true 8 105 ?_;refine b0y q83 true 9 106 ?_;refine b0z q83 true 10 107 ?_;refine b0y q83 true 11 108 ?_;refine b0y q83 true 12 109 ?_;refine b6c q83 true 13 110 ?_;refine b0e q83 true 14 111 ?_;refine b0q q83 true 15 112 ?_;refine b0y q83 true 16 113 ?_;refine b2e q83 true 17 114 ?_;refine b0x q83 true 18 115 ?_;refine b0e q83 true 19 116 ?_;refine b0q q83 true 20 117 ?_;refine b0e q83 true 21 118 ?_;refine b0q q83 true 22 119 ?_;refine b0z q83 true 23 120 ?_;refine b38 q83 true 24 121 ?_;refine b1w q83 true 25 122 ?_;refine b0o q83 true 26 123 ?_;refine b0e q83 true 27 124 ?_;refine b0q q83 true 28 125 ?_
         first
         |refine d60 29 ((b8z _ hlx)) ⟨?_⟩
         |(refine b2u 29 126 26 false rfl rfl (show 126 < 136 by decide) (by kernel_rfl) rfl ?_ ?_;(focus first | rfl | (simp only [zV,b1o,Nat.reduceEqDiff,reduceIte];done));simp only [zW,b0m,Nat.reduceEqDiff,reduceIte])
         refine c0n q83 true 30 127 ?_;refine b1w q83 true 31 128 ?_;refine b0o q83 true 32 129 ?_;refine b0e q83 true 33 130 ?_;refine b0q q83 true 34 131 ?_
         first
         |refine d60 35 (hmx) ⟨?_⟩
         |(refine b2u 35 132 32 false rfl rfl (show 132 < 136 by decide) (by kernel_rfl) rfl ?_ ?_;(focus first | rfl | (simp only [zV,b1o,Nat.reduceEqDiff,reduceIte];done));simp only [zW,b0m,Nat.reduceEqDiff,reduceIte])
         refine b0z q83 true 36 133 ?_;refine b1w q83 true 37 134 ?_;refine b0j (by kernel_rfl) ?_;refine k83 _ ?_;refine n82 _ _ (b0f [1,90,91,92,134] _) ?_;refine zk ⟨?_⟩;refine b1z _ rfl ?_ ?_
         ·intro hc8
          try simp only [zC,reduceCtorEq] at hc8
          have hbw:b5w ins ws i=false:=by
           rw [hwp]
           simp only [hrn]
           (try simp at hc8)
           first | (simp;done) | (simp [hc8];done) | (simp;exact hc8) | (simp;intro q;exact hc8 q) | (rcases hc8 with h | h<;>first | (rw [decide_eq_false (show ¬0≤b5y ins x0 by omega)];simp;done) | (rw [decide_eq_false (show ¬0≤b5y ins x0 by omega)];rfl) | (simp [h];done)) | (simp;intros;simp_all;omega) | (simp;intros;simp_all;done) | (rcases hc8 with h | h<;>simp [h];done) | (simp_all;done)
          have hbad:=d8x (n:=n) (ss:=ss) (fl:=fl) hlt hbw
          refine yR [4] ⟨?_⟩;refine zr ⟨?_⟩
          exact b0a rfl (by rw [hbad]) (.inl rfl)
         ·intro hc8
          exfalso;first | (cases hc8;done) | (simp at hc8;done)
       ·intro hc7
        refine zn [] ⟨?_⟩;refine yR [4] ⟨?_⟩;refine zr ⟨?_⟩
        exact b0a rfl (by rw [f2p hh hI hF (by omega) hR3]) (.inl rfl)
set_option maxRecDepth 8000 in
theorem c4x (n:Int) (ss:List TS) (fl:List TA) (ins:List TI) (ws:List TW) (hs:ss.length≤1048576) (hl:fl.length≤1048576) (hls:∀t∈fl,t.1.size≤9223372036854775807) (hil:ins.length≤1048576) (hin:∀x∈ins,x.2.2.2.length≤1048576) (his:∀x∈ins,∀s∈x.2.2.2,s.size≤9223372036854775807) (hwl:ws.length≤1048576) (hwn:∀x∈ws,x.2.length≤1048576):Con Tryz.prog 54 [.agg [.int .i64 n,.sl (ss.map (fun t:TS=>V.agg [V.int .i64 t.1,V.int .i64 t.2.1,V.int .i64 t.2.2]))],.agg [.sl (fl.map (fun t:TA=>V.agg [V.str t.1,V.int .i64 t.2.1,V.int .i64 t.2.2.1,V.int .i64 t.2.2.2.1,V.int .i64 t.2.2.2.2])),.sl (ins.map (fun t:TI=>V.agg [V.int .i64 t.1,V.int .i64 t.2.1,V.bool t.2.2.1,V.sl (t.2.2.2.map V.str)])),.sl (ws.map (fun t:TW=>V.agg [V.int .i64 t.1,V.sl (t.2.map (V.int .i64))]))]] [] (.bool (c2h n ss fl ins ws)) []:=by
 refine b05 [.tmp 4] [] Tryz.func54 rfl rfl rfl (by simp [Tryz.ntmps54]) ?_
 intro Q0 n0 r0
 simp only [Tryz.ntmps54,b0l,Nat.reduceAdd]
 have T:=Tys.mk (ai Ty.t3 (ai Ty.t4 (ai Ty.t9 (ai Ty.t32 (ai Ty.t33 (ai Ty.t34 (ai Ty.t36 (ai Ty.t39 (ai Ty.t41 (ai Ty.t51 (ai Ty.t75 (ai Ty.t96 (ai Ty.t99 (ai Ty.t102 Ty.t169))))))))))))))
 have F:=Fc.mk True.intro
 refine yR [2,3] ⟨?_⟩;refine b0c ?_;intros;refine f4g [2,3,29] (d9d n ss fl hs hl hls) (c06 ins hil hin his) ⟨?_⟩;refine b0d _ rfl ?_ ?_
 ·intro hc0
  have hh:d1y n ss fl ins ws=false:=by cases hq:d1y n ss fl ins ws with | false=>rfl | true=>(exfalso;simp [d1y] at hq;(try simp at hc0);simp_all;first | done | omega)
  have hbad:=f7d hh
  refine yR [4] ⟨?_⟩;refine zr ⟨?_⟩
  exact b0a rfl (by rw [hbad]) (.inl rfl)
 ·intro hc0
  have hh:d1y n ss fl ins ws=true:=by simp [d1y];(try simp at hc0);first | (simp_all;done) | (simp_all;omega)
  obtain ⟨hd,hnd⟩:=c9x hh
  have hfl12:=hd.hfl
  have hn14:=hd.hn
  refine zn [2,3] ⟨?_⟩;refine b0c ?_;intros;refine yR [2,3,31,32,33] ⟨?_⟩;refine b0g ?_;intros;refine b08 (fun i=>⟨[(2,.ptr 0 0 0),(3,.ptr 1 0 0),(31,.sl (ins.map (fun t:TI=>V.agg [V.int .i64 t.1,V.int .i64 t.2.1,V.bool t.2.2.1,V.sl (t.2.2.2.map V.str)]))),(32,.int .i64 ins.length),(33,.int .i64 (Nat.cast i))],[.box (.agg [.int .i64 n,.sl (ss.map (fun t:TS=>V.agg [V.int .i64 t.1,V.int .i64 t.2.1,V.int .i64 t.2.2]))]) .shal,.box (.agg [.sl (fl.map (fun t:TA=>V.agg [V.str t.1,V.int .i64 t.2.1,V.int .i64 t.2.2.1,V.int .i64 t.2.2.2.1,V.int .i64 t.2.2.2.2])),.sl (ins.map (fun t:TI=>V.agg [V.int .i64 t.1,V.int .i64 t.2.1,V.bool t.2.2.1,V.sl (t.2.2.2.map V.str)])),.sl (ws.map (fun t:TW=>V.agg [V.int .i64 t.1,V.sl (t.2.map (V.int .i64))]))]) .shal],false,111,0⟩) (fun i=>i≤ins.length∧(ins.drop i).all (inP n fl)=ins.all (inP n fl)) (fun i=>ins.length - i) 0 ?_ ?_ ?_
  ·refine b0b [2,3,31,32,33] [0,1] ⟨?_⟩
   rfl
  ·exact ⟨Nat.zero_le _,rfl⟩
  ·rintro i hok9 Q9 n9 e9 r9
   obtain ⟨hi1,hR⟩:=hok9
   refine yR [2,3,31,32,33,34] ⟨?_⟩;refine b0c ?_;intros;refine b0d _ rfl ?_ ?_
   ·intro hc1
    have hlt:i < ins.length:=by omega
    obtain ⟨⟨x0,x1,x2,x3⟩,hx⟩:∃x:TI,ins[i]? =some x:=⟨ins[i]'(by omega),List.getElem?_eq_getElem (by omega)⟩
    have hlx:=hin _ (List.mem_of_getElem? hx)
    have hnx:=hnd _ (List.mem_of_getElem? hx)
    simp only [] at hlx hnx
    have hst:=b5m (p:=inP n fl) hx
    have hip:inP n fl (x0,x1,x2,x3)=(c0p n x1 && x3.all (fun s=>decide (0≤b5a fl s))):=rfl
    have hhb:=b5r (x:=x1) hn14
    refine zn [2,3,31,32,33] ⟨?_⟩;refine b0c ?_;intros;refine b0g ?_;intros
    have F:=Fc.mk (gdm hx)
    refine yR [2,3,6,31,32,33] ⟨?_⟩;refine b0c ?_;intros;refine yR [2,3,6,31,32,33,41] ⟨?_⟩;refine b0d _ rfl ?_ ?_
    ·intro hc2
     have hh0:c0p n x1=false:=by first | (simpa using hc2) | (rw [hhb,decide_eq_false (show ¬x1 < n by (try simp at hc2);omega)];simp)
     have hbad:=f3v (ss:=ss) (ws:=ws) (show ins.all (inP n fl)=false by rw [←hR,hst,hip,hh0];rfl)
     refine yR [4] ⟨?_⟩;refine zr ⟨?_⟩
     exact b0a rfl (by rw [hbad]) (.inl rfl)
    ·intro hc2
     have hh1:c0p n x1=true:=by first | (simpa using hc2) | (rw [hhb,decide_eq_true hnx,decide_eq_true (show x1 < n by (try simp at hc2);omega)];rfl)
     refine zn [2,3,6,31,32,33] ⟨?_⟩;refine yR [2,3,31,32,33,43,44,45] ⟨?_⟩;refine b0g ?_;intros;refine b08 (fun j=>⟨[(2,.ptr 0 0 0),(3,.ptr 1 0 0),(31,.sl (ins.map (fun t:TI=>V.agg [V.int .i64 t.1,V.int .i64 t.2.1,V.bool t.2.2.1,V.sl (t.2.2.2.map V.str)]))),(32,.int .i64 ins.length),(33,.int .i64 (Nat.cast i)),(43,.sl (x3.map V.str)),(44,.int .i64 x3.length),(45,.int .i64 (Nat.cast j))],[.box (.agg [.int .i64 n,.sl (ss.map (fun t:TS=>V.agg [V.int .i64 t.1,V.int .i64 t.2.1,V.int .i64 t.2.2]))]) .shal,.box (.agg [.sl (fl.map (fun t:TA=>V.agg [V.str t.1,V.int .i64 t.2.1,V.int .i64 t.2.2.1,V.int .i64 t.2.2.2.1,V.int .i64 t.2.2.2.2])),.sl (ins.map (fun t:TI=>V.agg [V.int .i64 t.1,V.int .i64 t.2.1,V.bool t.2.2.1,V.sl (t.2.2.2.map V.str)])),.sl (ws.map (fun t:TW=>V.agg [V.int .i64 t.1,V.sl (t.2.map (V.int .i64))]))]) .shal],false,111,0⟩) (fun j=>j≤x3.length∧(x3.drop j).all (fun s=>decide (0≤b5a fl s))=x3.all (fun s=>decide (0≤b5a fl s))) (fun j=>x3.length - j) 0 ?_ ?_ ?_
     ·refine b0b [2,3,31,32,33,43,44,45] [0,1] ⟨?_⟩
      rfl
     ·exact ⟨Nat.zero_le _,rfl⟩
     ·rintro j hok22 Q22 n22 e22 r22
      obtain ⟨hj1,hR1⟩:=hok22
      refine yR [2,3,31,32,33,43,44,45,46] ⟨?_⟩;refine b0c ?_;intros;refine b0d _ rfl ?_ ?_
      ·intro hc3
       have hlj:j < x3.length:=by omega
       obtain ⟨s,hs1⟩:∃s,x3[j]? =some s:=⟨_,List.getElem?_eq_getElem hlj⟩
       have hst1:=b5m (p:=(fun s=>decide (0≤b5a fl s))) hs1
       refine zn [2,3,31,32,33,43,44,45] ⟨?_⟩;refine b0c ?_;intros;refine b0g ?_;intros
       have F:=Fc.mk (ai (gdm hx) (gdm hs1))
       refine yR [2,3,8,31,32,33,43,44,45] ⟨?_⟩;refine yRc [2,3,31,32,33,43,44,45,53] (d9v fl s hl) ⟨?_⟩;refine b0d _ rfl ?_ ?_
       ·intro hc4
        have hbad:=f3v (ss:=ss) (ws:=ws) (show ins.all (inP n fl)=false by rw [←hR,hst,hip,show x3.all (fun s=>decide (0≤b5a fl s))=false by rw [←hR1,hst1,decide_eq_false (show ¬0≤b5a fl s by (try simp at hc4);omega)];rfl];simp)
        refine yR [4] ⟨?_⟩;refine zr ⟨?_⟩
        exact b0a rfl (by rw [hbad]) (.inl rfl)
       ·intro hc4
        have hfs:0≤b5a fl s:=by (try simp at hc4);omega
        refine zn [2,3,31,32,33,43,44,45] ⟨?_⟩;refine yV ⟨?_⟩;refine n22 _ (j+1) ?_ ?_ ?_
        ·refine b0b [2,3,31,32,33,43,44,45] [0,1] ⟨?_⟩
         rfl
        ·exact ⟨by omega,by rw [←hR1,hst1,decide_eq_true hfs];rfl⟩
        ·show _ < _;omega
      ·intro hc3
       have hall:x3.all (fun s=>decide (0≤b5a fl s))=true:=by rw [←hR1,b7k (by omega)]
       refine zn [2,3,31,32,33] ⟨?_⟩;refine yV ⟨?_⟩;refine n9 _ (i+1) ?_ ?_ ?_
       ·refine b0b [2,3,31,32,33] [0,1] ⟨?_⟩
        rfl
       ·exact ⟨by omega,by rw [←hR,hst,hip,hh1,hall];rfl⟩
       ·show _ < _;omega
   ·intro hc1
    have hI:ins.all (inP n fl)=true:=by rw [←hR,b7k (by omega)]
    refine zn [3] ⟨?_⟩;refine b0c ?_;intros;refine yR [3,57,58,59] ⟨?_⟩;refine b0g ?_;intros;refine b08 (fun i=>⟨[(3,.ptr 0 0 0),(57,.sl (fl.map (fun t:TA=>V.agg [V.str t.1,V.int .i64 t.2.1,V.int .i64 t.2.2.1,V.int .i64 t.2.2.2.1,V.int .i64 t.2.2.2.2]))),(58,.int .i64 fl.length),(59,.int .i64 (Nat.cast i))],[.box (.agg [.sl (fl.map (fun t:TA=>V.agg [V.str t.1,V.int .i64 t.2.1,V.int .i64 t.2.2.1,V.int .i64 t.2.2.2.1,V.int .i64 t.2.2.2.2])),.sl (ins.map (fun t:TI=>V.agg [V.int .i64 t.1,V.int .i64 t.2.1,V.bool t.2.2.1,V.sl (t.2.2.2.map V.str)])),.sl (ws.map (fun t:TW=>V.agg [V.int .i64 t.1,V.sl (t.2.map (V.int .i64))]))]) .shal],false,111,0⟩) (fun i=>i≤fl.length∧(fl.drop i).all (b5d ins)=fl.all (b5d ins)) (fun i=>fl.length - i) 0 ?_ ?_ ?_
    ·refine b0b [3,57,58,59] [1] ⟨?_⟩
     rfl
    ·exact ⟨Nat.zero_le _,rfl⟩
    ·rintro i hok37 Q37 n37 e37 r37
     obtain ⟨hi2,hR2⟩:=hok37
     refine yR [3,57,58,59,60] ⟨?_⟩;refine b0c ?_;intros;refine b0d _ rfl ?_ ?_
     ·intro hc5
      have hlt:i < fl.length:=by omega
      obtain ⟨⟨x0,x1,x2,x3,x4⟩,hx⟩:∃x:TA,fl[i]? =some x:=⟨fl[i]'(by omega),List.getElem?_eq_getElem (by omega)⟩
      have hst:=b5m (p:=b5d ins) hx
      have hfp:b5d ins (x0,x1,x2,x3,x4)= !(c3o (x0,x1,x2,x3,x4) != decide (0≤c74 ins x0)):=rfl
      refine zn [3,57,58,59] ⟨?_⟩;refine b0c ?_;intros;refine b0g ?_;intros
      have F:=Fc.mk (gdm hx)
      refine yR [3,10,57,58,59] ⟨?_⟩;refine b0c ?_;intro Q44 n44 e44 r44;refine b1p (by kernel_rfl) ?_;intro K45 q45 k45
      show b14 _ _ _ _ 10 (Array.replicate 10 false) _
      refine b0p q45 true 0 63 ?_;refine b1h q45 true 1 64 ?_;refine b0p q45 true 3 66 ?_;refine b1h q45 true 4 67 ?_;refine b0p q45 true 5 68 ?_;refine b1h q45 true 6 69 ?_;refine zoc 2 (d9i x4) ⟨?_⟩;refine zoc 7 (f3l ins x0 hil hin) ⟨?_⟩;refine b2a q45 true 8 71 ?_;refine b2a q45 true 9 72 ?_;refine b0j (by kernel_rfl) ?_;refine k45 _ ?_;refine n44 _ _ (b0f [3,57,58,59,72] _) ?_;refine zk ⟨?_⟩;refine b0d _ rfl ?_ ?_
      ·intro hc6
       have hbad:=f62 (n:=n) (ss:=ss) (ws:=ws) (show fl.all (b5d ins)=false by rw [←hR2,hst,hfp];first | (rw [hc6];rfl) | (simp [c3o] at hc6⊢;simp_all;done) | (simp_all [c3o];done))
       refine yR [4] ⟨?_⟩;refine zr ⟨?_⟩
       exact b0a rfl (by rw [hbad]) (.inl rfl)
      ·intro hc6
       have hgf:b5d ins (x0,x1,x2,x3,x4)=true:=by rw [hfp];first | (rw [hc6];rfl) | (simp [c3o] at hc6⊢;simp_all;done) | (simp_all [c3o];done)
       refine zn [3,57,58,59] ⟨?_⟩;refine yV ⟨?_⟩;refine n37 _ (i+1) ?_ ?_ ?_
       ·refine b0b [3,57,58,59] [0] ⟨?_⟩
        rfl
       ·exact ⟨by omega,by rw [←hR2,hst,hgf];rfl⟩
       ·show _ < _;omega
     ·intro hc5
      have hF:fl.all (b5d ins)=true:=by rw [←hR2,b7k (by omega)]
      refine zn [3] ⟨?_⟩;refine b0c ?_;intros;refine yR [3,75,76,77] ⟨?_⟩;refine b0g ?_;intros;refine b08 (fun i=>⟨[(3,.ptr 0 0 0),(75,.sl (ws.map (fun t:TW=>V.agg [V.int .i64 t.1,V.sl (t.2.map (V.int .i64))]))),(76,.int .i64 ws.length),(77,.int .i64 (Nat.cast i))],[.box (.agg [.sl (fl.map (fun t:TA=>V.agg [V.str t.1,V.int .i64 t.2.1,V.int .i64 t.2.2.1,V.int .i64 t.2.2.2.1,V.int .i64 t.2.2.2.2])),.sl (ins.map (fun t:TI=>V.agg [V.int .i64 t.1,V.int .i64 t.2.1,V.bool t.2.2.1,V.sl (t.2.2.2.map V.str)])),.sl (ws.map (fun t:TW=>V.agg [V.int .i64 t.1,V.sl (t.2.map (V.int .i64))]))]) .shal],false,111,0⟩) (fun i=>i≤ws.length∧∀j,j < i→b5w ins ws j=true) (fun i=>ws.length - i) 0 ?_ ?_ ?_
      ·refine b0b [3,75,76,77] [0] ⟨?_⟩
       rfl
      ·exact ⟨Nat.zero_le _,fun j h=>absurd h (Nat.not_lt_zero _)⟩
      ·rintro i hok52 Q52 n52 e52 r52
       obtain ⟨hi3,hR3⟩:=hok52
       refine yR [3,75,76,77,78] ⟨?_⟩;refine b0c ?_;intros;refine b0d _ rfl ?_ ?_
       ·intro hc7
        have hlt:i < ws.length:=by omega
        obtain ⟨⟨x0,x1⟩,hx⟩:∃x:TW,ws[i]? =some x:=⟨ws[i]'(by omega),List.getElem?_eq_getElem (by omega)⟩
        have hlx:=hwn _ (List.mem_of_getElem? hx)
        simp only [] at hlx
        rcases Nat.eq_zero_or_pos i with h0 | h0
        ·skip
         have hi0:¬((0:Int) < (i:Int)):=by omega
         have hwp:b5w ins ws i=(decide (0≤b5y ins x0) && b3b x1):=by subst h0;exact c4y hx
         refine zn [3,75,76,77] ⟨?_⟩;refine b0c ?_;intros;refine b0g ?_;intros
         have F:=Fc.mk (ai (gdm hx) (ai hi0 (ai @decide_false @Bool.and_false)))
         refine yR [3,11,12,75,76,77] ⟨?_⟩;refine b0c ?_;intro Q59 n59 e59 r59;refine b1p (by kernel_rfl) ?_;intro K60 q60 k60
         show b14 _ _ _ _ 28 (Array.replicate 28 false) _
         refine b0p q60 true 0 82 ?_;refine b1h q60 true 1 83 ?_;refine b0p q60 true 2 84 ?_;refine b1h q60 true 3 85 ?_;refine zoc 4 (c9u ins x0 hil) ⟨?_⟩;refine b2a q60 true 5 87 ?_;refine b0o q60 true 6 88 ?_;refine b0e q60 true 7 89 ?_;refine b0q q60 true 8 90 ?_
         first
         |refine d60 9 ((c9h _ hlx)) ⟨?_⟩
         |(refine b2u 9 91 6 false rfl rfl (show 91 < 111 by decide) (by kernel_rfl) rfl ?_ ?_;(focus first | rfl | (simp only [zV,b1o,Nat.reduceEqDiff,reduceIte];done));simp only [zW,b0m,Nat.reduceEqDiff,reduceIte])
         refine c0n q60 true 10 92 ?_;refine b1w q60 true 11 93 ?_;refine b0o q60 true 12 94 ?_;refine b0y q60 true 13 95 ?_;refine b0z q60 true 14 96 ?_;refine b0y q60 true 15 97 ?_;refine b0e q60 true 16 98 ?_;refine b0q q60 true 17 99 ?_;refine b0y q60 true 18 100 ?_;refine b2e q60 true 19 101 ?_;refine b0x q60 true 20 102 ?_;refine b0e q60 true 21 103 ?_;refine b0q q60 true 22 104 ?_;refine b0e q60 true 23 105 ?_;refine b0q q60 true 24 106 ?_;refine b0z q60 true 25 107 ?_;refine b38 q60 true 26 108 ?_;refine b1w q60 true 27 109 ?_;refine b0j (by kernel_rfl) ?_;refine k60 _ ?_;refine n59 _ _ (b0f [3,75,76,77,109] _) ?_;refine zk ⟨?_⟩;refine b0d _ rfl ?_ ?_
         ·intro hc8
          have hbw:b5w ins ws i=false:=by
           rw [hwp]
           (try simp at hc8)
           first | (simp;done) | (simp [hc8];done) | (simp;exact hc8) | (simp;intro q;exact hc8 q) | (rcases hc8 with h | h<;>first | (rw [decide_eq_false (show ¬0≤b5y ins x0 by omega)];simp;done) | (rw [decide_eq_false (show ¬0≤b5y ins x0 by omega)];rfl) | (simp [h];done)) | (simp;intros;simp_all;omega) | (simp;intros;simp_all;done) | (rcases hc8 with h | h<;>simp [h];done) | (simp_all;done)
          have hbad:=d8x (n:=n) (ss:=ss) (fl:=fl) hlt hbw
          refine yR [4] ⟨?_⟩;refine zr ⟨?_⟩
          exact b0a rfl (by rw [hbad]) (.inl rfl)
         ·intro hc8
          have hgw:b5w ins ws i=true:=by
           rw [hwp]
           (try simp at hc8)
           first | (simp [hc8];done) | (simp;omega) | (simp_all;done) | (simp_all;omega)
          refine zn [3,75,76,77] ⟨?_⟩;refine yV ⟨?_⟩;refine n52 _ (i+1) ?_ ?_ ?_
          ·refine b0b [3,75,76,77] [0] ⟨?_⟩
           rfl
          ·exact ⟨by omega,b6p hR3 hgw⟩
          ·show _ < _;omega
        ·skip
         obtain ⟨⟨y0,y1⟩,hy⟩:∃x:TW,ws[i - 1]? =some x:=⟨ws[i - 1]'(by omega),List.getElem?_eq_getElem (by omega)⟩
         have hi0:(0:Int) < i:=by omega
         have hk:((i:Int) - 1).toNat=i - 1:=by omega
         have hwp:=c4j (ins:=ins) h0 hy hx
         refine zn [3,75,76,77] ⟨?_⟩;refine b0c ?_;intros;refine b0g ?_;intros
         have F:=Fc.mk (ai (gdm hx) (ai hi0 (ai hk (ai (gdm hy) (ai @decide_true @Bool.and_true)))))
         refine yR [3,11,12,75,76,77] ⟨?_⟩;refine b0c ?_;intro Q67 n67 e67 r67;refine b1p (by kernel_rfl) ?_;intro K68 q68 k68
         show b14 _ _ _ _ 28 (Array.replicate 28 false) _
         refine b0p q68 true 0 82 ?_;refine b1h q68 true 1 83 ?_;refine b0p q68 true 2 84 ?_;refine b1h q68 true 3 85 ?_;refine zoc 4 (c9u ins x0 hil) ⟨?_⟩;refine b2a q68 true 5 87 ?_;refine b0o q68 true 6 88 ?_;refine b0e q68 true 7 89 ?_;refine b0q q68 true 8 90 ?_
         first
         |refine d60 9 ((c9h _ hlx)) ⟨?_⟩
         |(refine b2u 9 91 6 false rfl rfl (show 91 < 111 by decide) (by kernel_rfl) rfl ?_ ?_;(focus first | rfl | (simp only [zV,b1o,Nat.reduceEqDiff,reduceIte];done));simp only [zW,b0m,Nat.reduceEqDiff,reduceIte])
         refine c0n q68 true 10 92 ?_;refine b1w q68 true 11 93 ?_;refine b0o q68 true 12 94 ?_;refine b0y q68 true 13 95 ?_;refine b0z q68 true 14 96 ?_;refine b0y q68 true 15 97 ?_;refine b0e q68 true 16 98 ?_;refine b0q q68 true 17 99 ?_;refine b0y q68 true 18 100 ?_;refine b2e q68 true 19 101 ?_;refine b0x q68 true 20 102 ?_;refine b0e q68 true 21 103 ?_;refine b0q q68 true 22 104 ?_;refine b0e q68 true 23 105 ?_;refine b0q q68 true 24 106 ?_;refine b0z q68 true 25 107 ?_;refine b38 q68 true 26 108 ?_;refine b1w q68 true 27 109 ?_;refine b0j (by kernel_rfl) ?_;refine k68 _ ?_;refine n67 _ _ (b0f [3,75,76,77,109] _) ?_;refine zk ⟨?_⟩;refine b0d _ rfl ?_ ?_
         ·intro hc8
          have hbw:b5w ins ws i=false:=by
           rw [hwp]
           (try simp at hc8)
           first | (simp;done) | (simp [hc8];done) | (simp;exact hc8) | (simp;intro q;exact hc8 q) | (rcases hc8 with h | h<;>first | (rw [decide_eq_false (show ¬0≤b5y ins x0 by omega)];simp;done) | (rw [decide_eq_false (show ¬0≤b5y ins x0 by omega)];rfl) | (simp [h];done)) | (simp;intros;simp_all;omega) | (simp;intros;simp_all;done) | (rcases hc8 with h | h<;>simp [h];done) | (simp_all;done)
          have hbad:=d8x (n:=n) (ss:=ss) (fl:=fl) hlt hbw
          refine yR [4] ⟨?_⟩;refine zr ⟨?_⟩
          exact b0a rfl (by rw [hbad]) (.inl rfl)
         ·intro hc8
          have hgw:b5w ins ws i=true:=by
           rw [hwp]
           (try simp at hc8)
           first | (simp [hc8];done) | (simp;omega) | (simp_all;done) | (simp_all;omega)
          refine zn [3,75,76,77] ⟨?_⟩;refine yV ⟨?_⟩;refine n52 _ (i+1) ?_ ?_ ?_
          ·refine b0b [3,75,76,77] [0] ⟨?_⟩
           rfl
          ·exact ⟨by omega,b6p hR3 hgw⟩
          ·show _ < _;omega
       ·intro hc7
        refine zn [] ⟨?_⟩;refine yR [4] ⟨?_⟩;refine zr ⟨?_⟩
        exact b0a rfl (by rw [f2p hh hI hF (by omega) hR3]) (.inl rfl)
end Go.Proofs.YtaefoaghpehbpaaGreat
