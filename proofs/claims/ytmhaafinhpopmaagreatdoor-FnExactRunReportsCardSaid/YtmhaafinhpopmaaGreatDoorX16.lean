/- What functions compute. No condition. -/
import Derived.Test.YtmhaafinhpopmaaGreatDoorX15
import Derived.Test.YtmhaafinhpopmaaGreatDoorX14
set_option linter.unusedSimpArgs false
set_option linter.unusedVariables false
set_option linter.defProp false
namespace Go.Proofs.YtmhaafinhpopmaaGreatDoor
open Go Go.Vm
set_option maxHeartbeats 8000000
set_option maxRecDepth 8000 in
theorem isControl_con (n:Int) (ss:List TS) (fl:List TA) (ins:List TI) (ws:List TW) (hs:ss.length≤1048576) (hl:fl.length≤1048576) (hls:∀t∈fl,t.1.size≤9223372036854775807) (hil:ins.length≤1048576) (hin:∀x∈ins,x.2.2.2.length≤1048576) (his:∀x∈ins,∀s∈x.2.2.2,s.size≤9223372036854775807) (hwl:ws.length≤1048576) (hwn:∀x∈ws,x.2.length≤1048576):Con Tryz.prog 87 [.pv [.agg [.int .i64 n,.sl (ss.map (fun t:TS=>V.agg [V.int .i64 t.1,V.int .i64 t.2.1,V.int .i64 t.2.2]))]] 0 0,.pv [.agg [.sl (fl.map (fun t:TA=>V.agg [V.str t.1,V.int .i64 t.2.1,V.int .i64 t.2.2.1,V.int .i64 t.2.2.2.1,V.int .i64 t.2.2.2.2])),.sl (ins.map (fun t:TI=>V.agg [V.int .i64 t.1,V.int .i64 t.2.1,V.bool t.2.2.1,V.sl (t.2.2.2.map V.str)])),.sl (ws.map (fun t:TW=>V.agg [V.int .i64 t.1,V.sl (t.2.map (V.int .i64))]))]] 0 0] [] (.bool (ctlB n ss fl ins ws)) []:=by
 refine v_con [.tmp 4] [] Tryz.func87 rfl rfl rfl (by simp [Tryz.ntmps87]) ?_;intro Q0 n0 r0;simp only [Tryz.ntmps87,envFrom,Nat.reduceAdd];have T:=Tys.mk (ai Ty.t3 (ai Ty.t4 (ai Ty.t9 (ai Ty.t35 (ai Ty.t59 (ai Ty.t63 (ai Ty.t64 (ai Ty.t65 (ai Ty.t67 (ai Ty.t70 (ai Ty.t72 (ai Ty.t120 (ai Ty.t154 (ai Ty.t156 (ai Ty.t158 Ty.t164)))))))))))))));have F:=Fc.mk True.intro;refine yR [0,1] ⟨?_⟩;refine v_seq ?_;intros;refine yRcg [0,1,35] (dispatchFits_con n ss fl hs hl hls) (areIncidents_con ins hil hin his) ⟨?_⟩;refine v_condS _ rfl ?_ ?_
 ·intro hc0;have hh:ctlH n ss fl ins ws=false:=by cases hq:ctlH n ss fl ins ws with | false=>rfl | true=>(exfalso;simp [ctlH] at hq;(try simp at hc0);simp_all;first | done | omega)
  have hbad:=ctl_h hh;refine yR [4] ⟨?_⟩;refine zr ⟨?_⟩;exact ret_pure rfl (by rw [hbad]) (.inl rfl)
 ·intro hc0;have hh:ctlH n ss fl ins ws=true:=by simp [ctlH];(try simp at hc0);first | (simp_all;done) | (simp_all;omega)
  obtain ⟨hd,hnd⟩:=ctlh_facts hh;have hfl12:=hd.hfl;have hn14:=hd.hn;refine zn [0,1] ⟨?_⟩;refine v_seq ?_;intros;refine yR [0,1,39,40,41] ⟨?_⟩;refine v_block ?_;intros;refine v_loop (fun i=>⟨[(0,.pv [.agg [.int .i64 n,.sl (ss.map (fun t:TS=>V.agg [V.int .i64 t.1,V.int .i64 t.2.1,V.int .i64 t.2.2]))]] 0 0),(1,.pv [.agg [.sl (fl.map (fun t:TA=>V.agg [V.str t.1,V.int .i64 t.2.1,V.int .i64 t.2.2.1,V.int .i64 t.2.2.2.1,V.int .i64 t.2.2.2.2])),.sl (ins.map (fun t:TI=>V.agg [V.int .i64 t.1,V.int .i64 t.2.1,V.bool t.2.2.1,V.sl (t.2.2.2.map V.str)])),.sl (ws.map (fun t:TW=>V.agg [V.int .i64 t.1,V.sl (t.2.map (V.int .i64))]))]] 0 0),(39,.sl (ins.map (fun t:TI=>V.agg [V.int .i64 t.1,V.int .i64 t.2.1,V.bool t.2.2.1,V.sl (t.2.2.2.map V.str)]))),(40,.int .i64 ins.length),(41,.int .i64 (Nat.cast i))],[],false,136,0⟩) (fun i=>i≤ins.length∧(ins.drop i).all (inP n fl)=ins.all (inP n fl)) (fun i=>ins.length - i) 0 ?_ ?_ ?_
  ·refine weak_bothS [0,1,39,40,41] [] ⟨?_⟩;rfl
  ·exact ⟨qld _,rfl⟩
  ·rintro i hok9 Q9 n9 e9 r9;obtain ⟨hi1,hR⟩:=hok9;refine yR [0,1,39,40,41,42] ⟨?_⟩;refine v_seq ?_;intros;refine v_condS _ rfl ?_ ?_
   ·intro hc1;have hlt:i < ins.length:=by omega
    obtain ⟨⟨x0,x1,x2,x3⟩,hx⟩:∃x:TI,ins[i]? =some x:=⟨ins[i]'(by omega),qla (by omega)⟩;have hlx:=hin _ (qlb hx);have hnx:=hnd _ (qlb hx);simp only [] at hlx hnx;have hst:=all_step (p:=inP n fl) hx;have hip:inP n fl (x0,x1,x2,x3)=(hasB n x1 && x3.all (fun s=>decide (0≤findA fl s))):=rfl;have hhb:=has_facts (x:=x1) hn14;refine zn [0,1,39,40,41] ⟨?_⟩;refine v_seq ?_;intros;refine v_block ?_;intros;have F:=Fc.mk (gdm hx);refine yR [0,1,6,39,40,41] ⟨?_⟩;refine v_seq ?_;intros;refine yRc [0,1,6,39,40,41,49] (tHas_con n ss x1) ⟨?_⟩;refine v_condS _ rfl ?_ ?_
    ·intro hc2;have hh0:hasB n x1=false:=by first | (simpa using hc2) | (rw [hhb,decide_eq_false (show ¬x1 < n by (try simp at hc2);omega)];simp)
     have hbad:=ctl_i (ss:=ss) (ws:=ws) (show ins.all (inP n fl)=false by rw [←hR,hst,hip,hh0];rfl);refine yR [4] ⟨?_⟩;refine zr ⟨?_⟩;exact ret_pure rfl (by rw [hbad]) (.inl rfl)
    ·intro hc2;have hh1:hasB n x1=true:=by first | (simpa using hc2) | (rw [hhb,decide_eq_true hnx,decide_eq_true (show x1 < n by (try simp at hc2);omega)];rfl)
     refine zn [0,1,6,39,40,41] ⟨?_⟩;refine yR [0,1,39,40,41,51,52,53] ⟨?_⟩;refine v_block ?_;intros;refine v_loop (fun j=>⟨[(0,.pv [.agg [.int .i64 n,.sl (ss.map (fun t:TS=>V.agg [V.int .i64 t.1,V.int .i64 t.2.1,V.int .i64 t.2.2]))]] 0 0),(1,.pv [.agg [.sl (fl.map (fun t:TA=>V.agg [V.str t.1,V.int .i64 t.2.1,V.int .i64 t.2.2.1,V.int .i64 t.2.2.2.1,V.int .i64 t.2.2.2.2])),.sl (ins.map (fun t:TI=>V.agg [V.int .i64 t.1,V.int .i64 t.2.1,V.bool t.2.2.1,V.sl (t.2.2.2.map V.str)])),.sl (ws.map (fun t:TW=>V.agg [V.int .i64 t.1,V.sl (t.2.map (V.int .i64))]))]] 0 0),(39,.sl (ins.map (fun t:TI=>V.agg [V.int .i64 t.1,V.int .i64 t.2.1,V.bool t.2.2.1,V.sl (t.2.2.2.map V.str)]))),(40,.int .i64 ins.length),(41,.int .i64 (Nat.cast i)),(51,.sl (x3.map V.str)),(52,.int .i64 x3.length),(53,.int .i64 (Nat.cast j))],[],false,136,0⟩) (fun j=>j≤x3.length∧(x3.drop j).all (fun s=>decide (0≤findA fl s))=x3.all (fun s=>decide (0≤findA fl s))) (fun j=>x3.length - j) 0 ?_ ?_ ?_
     ·refine weak_bothS [0,1,39,40,41,51,52,53] [] ⟨?_⟩;rfl
     ·exact ⟨qld _,rfl⟩
     ·rintro j hok22 Q22 n22 e22 r22;obtain ⟨hj1,hR1⟩:=hok22;refine yR [0,1,39,40,41,51,52,53,54] ⟨?_⟩;refine v_seq ?_;intros;refine v_condS _ rfl ?_ ?_
      ·intro hc3;have hlj:j < x3.length:=by omega
       obtain ⟨s,hs1⟩:∃s,x3[j]? =some s:=⟨_,qla hlj⟩;have hst1:=all_step (p:=(fun s=>decide (0≤findA fl s))) hs1;refine zn [0,1,39,40,41,51,52,53] ⟨?_⟩;refine v_seq ?_;intros;refine v_block ?_;intros;have F:=Fc.mk (ai (gdm hx) (gdm hs1));refine yR [0,1,8,39,40,41,51,52,53] ⟨?_⟩;refine yRc [0,1,39,40,41,51,52,53,63] (findAppliance_con fl s hl) ⟨?_⟩;refine v_condS _ rfl ?_ ?_
       ·intro hc4;have hbad:=ctl_i (ss:=ss) (ws:=ws) (show ins.all (inP n fl)=false by rw [←hR,hst,hip,show x3.all (fun s=>decide (0≤findA fl s))=false by rw [←hR1,hst1,decide_eq_false (show ¬0≤findA fl s by (try simp at hc4);omega)];rfl];simp);refine yR [4] ⟨?_⟩;refine zr ⟨?_⟩;exact ret_pure rfl (by rw [hbad]) (.inl rfl)
       ·intro hc4;have hfs:0≤findA fl s:=by (try simp at hc4);omega
        refine zn [0,1,39,40,41,51,52,53] ⟨?_⟩;refine yV ⟨?_⟩;refine n22 _ (j+1) ?_ ?_ ?_
        ·refine weak_bothS [0,1,39,40,41,51,52,53] [] ⟨?_⟩;rfl
        ·exact ⟨by omega,by rw [←hR1,hst1,decide_eq_true hfs];rfl⟩
        ·show _ < _;omega
      ·intro hc3;have hall:x3.all (fun s=>decide (0≤findA fl s))=true:=by rw [←hR1,all_end (by omega)]
       refine zn [0,1,39,40,41] ⟨?_⟩;refine yV ⟨?_⟩;refine n9 _ (i+1) ?_ ?_ ?_
       ·refine weak_bothS [0,1,39,40,41] [] ⟨?_⟩;rfl
       ·exact ⟨by omega,by rw [←hR,hst,hip,hh1,hall];rfl⟩
       ·show _ < _;omega
   ·intro hc1;have hI:ins.all (inP n fl)=true:=by rw [←hR,all_end (by omega)]
    refine zn [1] ⟨?_⟩;refine v_seq ?_;intros;refine yR [1,69,70,71] ⟨?_⟩;refine v_block ?_;intros;refine v_loop (fun i=>⟨[(1,.pv [.agg [.sl (fl.map (fun t:TA=>V.agg [V.str t.1,V.int .i64 t.2.1,V.int .i64 t.2.2.1,V.int .i64 t.2.2.2.1,V.int .i64 t.2.2.2.2])),.sl (ins.map (fun t:TI=>V.agg [V.int .i64 t.1,V.int .i64 t.2.1,V.bool t.2.2.1,V.sl (t.2.2.2.map V.str)])),.sl (ws.map (fun t:TW=>V.agg [V.int .i64 t.1,V.sl (t.2.map (V.int .i64))]))]] 0 0),(69,.sl (fl.map (fun t:TA=>V.agg [V.str t.1,V.int .i64 t.2.1,V.int .i64 t.2.2.1,V.int .i64 t.2.2.2.1,V.int .i64 t.2.2.2.2]))),(70,.int .i64 fl.length),(71,.int .i64 (Nat.cast i))],[],false,136,0⟩) (fun i=>i≤fl.length∧(fl.drop i).all (fleetP ins)=fl.all (fleetP ins)) (fun i=>fl.length - i) 0 ?_ ?_ ?_
    ·refine weak_bothS [1,69,70,71] [] ⟨?_⟩;rfl
    ·exact ⟨qld _,rfl⟩
    ·rintro i hok37 Q37 n37 e37 r37;obtain ⟨hi2,hR2⟩:=hok37;refine yR [1,69,70,71,72] ⟨?_⟩;refine v_seq ?_;intros;refine v_condS _ rfl ?_ ?_
     ·intro hc5;have hlt:i < fl.length:=by omega
      obtain ⟨⟨x0,x1,x2,x3,x4⟩,hx⟩:∃x:TA,fl[i]? =some x:=⟨fl[i]'(by omega),qla (by omega)⟩;have hst:=all_step (p:=fleetP ins) hx;have hfp:fleetP ins (x0,x1,x2,x3,x4)= !(busyA (x0,x1,x2,x3,x4) != decide (0≤commF ins x0)):=rfl;refine zn [1,69,70,71] ⟨?_⟩;refine v_seq ?_;intros;refine v_block ?_;intros;have F:=Fc.mk (gdm hx);refine yR [1,10,69,70,71] ⟨?_⟩;refine v_seq ?_;intro Q44 n44 e44 r44;refine v_draw (by kernel_rfl) ?_;intro K45 q45 k45;show aAny _ _ _ _ 11 (Array.replicate 11 false) _;refine zdLoad q45 true 0 75 ?_;refine zdMove q45 true 2 77 ?_;refine zdNilCheck q45 true 3 78 ?_;refine zdFieldAddr q45 true 4 79 ?_;refine zdLoad q45 true 5 80 ?_;refine zdFieldAddr q45 true 6 81 ?_;refine zdLoad q45 true 7 82 ?_;refine zoc 1 (isBusy_con x0 x1 x2 x3 x4) ⟨?_⟩;refine zoc 8 (committedAt_con ins x0 hil hin) ⟨?_⟩;refine zdBinOp q45 true 9 84 ?_;refine zdBinOp q45 true 10 85 ?_;refine aAny_done (by kernel_rfl) ?_;refine k45 _ ?_;refine n44 _ _ (weak_keep [1,69,70,71,85] _) ?_;refine zk ⟨?_⟩;refine v_condS _ rfl ?_ ?_
      ·intro hc6;have hbad:=ctl_f (n:=n) (ss:=ss) (ws:=ws) (show fl.all (fleetP ins)=false by rw [←hR2,hst,hfp];first | (rw [hc6];rfl) | (simp [busyA] at hc6⊢;simp_all;done) | (simp_all [busyA];done));refine yR [4] ⟨?_⟩;refine zr ⟨?_⟩;exact ret_pure rfl (by rw [hbad]) (.inl rfl)
      ·intro hc6;have hgf:fleetP ins (x0,x1,x2,x3,x4)=true:=by rw [hfp];first | (rw [hc6];rfl) | (simp [busyA] at hc6⊢;simp_all;done) | (simp_all [busyA];done)
       refine zn [1,69,70,71] ⟨?_⟩;refine yV ⟨?_⟩;refine n37 _ (i+1) ?_ ?_ ?_
       ·refine weak_bothS [1,69,70,71] [] ⟨?_⟩;rfl
       ·exact ⟨by omega,by rw [←hR2,hst,hgf];rfl⟩
       ·show _ < _;omega
     ·intro hc5;have hF:fl.all (fleetP ins)=true:=by rw [←hR2,all_end (by omega)]
      refine zn [1] ⟨?_⟩;refine v_seq ?_;intros;refine yR [1,90,91,92] ⟨?_⟩;refine v_block ?_;intros;refine v_loop (fun i=>⟨[(1,.pv [.agg [.sl (fl.map (fun t:TA=>V.agg [V.str t.1,V.int .i64 t.2.1,V.int .i64 t.2.2.1,V.int .i64 t.2.2.2.1,V.int .i64 t.2.2.2.2])),.sl (ins.map (fun t:TI=>V.agg [V.int .i64 t.1,V.int .i64 t.2.1,V.bool t.2.2.1,V.sl (t.2.2.2.map V.str)])),.sl (ws.map (fun t:TW=>V.agg [V.int .i64 t.1,V.sl (t.2.map (V.int .i64))]))]] 0 0),(90,.sl (ws.map (fun t:TW=>V.agg [V.int .i64 t.1,V.sl (t.2.map (V.int .i64))]))),(91,.int .i64 ws.length),(92,.int .i64 (Nat.cast i))],[],false,136,0⟩) (fun i=>i≤ws.length∧∀j,j < i→wantP ins ws j=true) (fun i=>ws.length - i) 0 ?_ ?_ ?_
      ·refine weak_bothS [1,90,91,92] [] ⟨?_⟩;rfl
      ·exact ⟨qld _,fun j h=>absurd h (Nat.not_lt_zero _)⟩
      ·rintro i hok52 Q52 n52 e52 r52;obtain ⟨hi3,hR3⟩:=hok52;refine yR [1,90,91,92,93] ⟨?_⟩;refine v_seq ?_;intros;refine v_condS _ rfl ?_ ?_
       ·intro hc7;have hlt:i < ws.length:=by omega
        obtain ⟨⟨x0,x1⟩,hx⟩:∃x:TW,ws[i]? =some x:=⟨ws[i]'(by omega),qla (by omega)⟩;have hlx:=hwn _ (qlb hx);simp only [] at hlx;rcases ql8 i with h0 | h0<;>rcases Bool.eq_false_or_eq_true (need4 x1) with hnd4 | hnd4
        ·skip;have hi0:¬((0:Int) < (i:Int)):=by omega
         have hwp:wantP ins ws i=(decide (0≤openF ins x0) && realNeed x1):=by subst h0;exact wantP_zero hx
         obtain ⟨a,m,hm⟩:∃a m,x1=a::m:=by cases x1 with | nil=>(have:=need4_facts hnd4;simp at this) | cons a m=>exact ⟨a,m,rfl⟩
         subst hm;have hmx:=slMax_con a m hlx;have hmz:=max_zero hnd4;have hrn:realNeed (a::m)= !decide (mostL m a=0):=by rw [realNeed,hnd4,hmz];rfl
         refine zn [1,90,91,92] ⟨?_⟩;refine v_seq ?_;intros;refine v_block ?_;intros;have F:=Fc.mk (ai (gdm hx) (ai hi0 (ai @decide_false (ai @qma hnd4))));refine yR [1,11,12,90,91,92] ⟨?_⟩;refine v_seq ?_;intro Q59 n59 e59 r59;refine v_draw (by kernel_rfl) ?_;intro K60 q60 k60;show aAny _ _ _ _ 38 (Array.replicate 38 false) _;refine zdMove q60 true 0 97 ?_;refine zdNilCheck q60 true 1 98 ?_;refine zdFieldAddr q60 true 2 99 ?_;refine zdLoad q60 true 3 100 ?_;refine zdFieldAddr q60 true 4 101 ?_;refine zdLoad q60 true 5 102 ?_;refine zoc 6 (openAt_con ins x0 hil) ⟨?_⟩;refine zdBinOp q60 true 7 104 ?_;refine zdMove q60 true 8 105 ?_;refine zdgMove q60 true 9 106 ?_;refine zdgBinOp q60 true 10 107 ?_;refine zdgMove q60 true 11 108 ?_;refine zdgMove q60 true 12 109 ?_;refine zdgNilCheck q60 true 13 110 ?_;refine zdgFieldAddr q60 true 14 111 ?_;refine zdgLoad q60 true 15 112 ?_;refine zdgMove q60 true 16 113 ?_;refine zdgBinOpW q60 true 17 114 ?_;refine zdgIndexAddr q60 true 18 115 ?_;refine zdgFieldAddr q60 true 19 116 ?_;refine zdgLoad q60 true 20 117 ?_;refine zdgFieldAddr q60 true 21 118 ?_;refine zdgLoad q60 true 22 119 ?_;refine zdgBinOp q60 true 23 120 ?_;refine zdgPick q60 true 24 121 ?_;refine zdPick q60 true 25 122 ?_;refine zdMove q60 true 26 123 ?_;refine zdgFieldAddr q60 true 27 124 ?_;refine zdgLoad q60 true 28 125 ?_;first
         |refine zogc 29 ((isNeed_con _ hlx)) ⟨?_⟩
         |(refine aAny_pass 29 126 26 false rfl rfl (show 126 < 136 by decide) (by kernel_rfl) rfl ?_ ?_;(focus first | rfl | (simp only [zV,guardV,Nat.reduceEqDiff,reduceIte];done));simp only [zW,set_some,Nat.reduceEqDiff,reduceIte])
         refine zdgUnOp q60 true 30 127 ?_;refine zdPick q60 true 31 128 ?_;refine zdMove q60 true 32 129 ?_;refine zdgFieldAddr q60 true 33 130 ?_;refine zdgLoad q60 true 34 131 ?_;first
         |refine zogc 35 (hmx) ⟨?_⟩
         |(refine aAny_pass 35 132 32 false rfl rfl (show 132 < 136 by decide) (by kernel_rfl) rfl ?_ ?_;(focus first | rfl | (simp only [zV,guardV,Nat.reduceEqDiff,reduceIte];done));simp only [zW,set_some,Nat.reduceEqDiff,reduceIte])
         refine zdgBinOp q60 true 36 133 ?_;refine zdPick q60 true 37 134 ?_;refine aAny_done (by kernel_rfl) ?_;refine k60 _ ?_;refine n59 _ _ (weak_keep [1,90,91,92,134] _) ?_;refine zk ⟨?_⟩;refine v_condS _ rfl ?_ ?_
         ·intro hc8;have hbw:wantP ins ws i=false:=by
           rw [hwp];simp only [hrn]
           (try simp at hc8)
           first | (simp;done) | (simp [hc8];done) | (simp;exact hc8) | (simp;intro q;exact hc8 q) | (rcases hc8 with h | h<;>first | (rw [decide_eq_false (show ¬0≤openF ins x0 by omega)];simp;done) | (rw [decide_eq_false (show ¬0≤openF ins x0 by omega)];rfl) | (simp [h];done)) | (simp;intros;simp_all;omega) | (simp;intros;simp_all;done) | (rcases hc8 with h | h<;>simp [h];done) | (simp_all;done)
          have hbad:=ctl_w (n:=n) (ss:=ss) (fl:=fl) hlt hbw;refine yR [4] ⟨?_⟩;refine zr ⟨?_⟩;exact ret_pure rfl (by rw [hbad]) (.inl rfl)
         ·intro hc8;have hgw:wantP ins ws i=true:=by
           rw [hwp];simp only [hrn]
           (try simp at hc8)
           first | (simp [hc8];done) | (simp;omega) | (simp_all;done) | (simp_all;omega)
          refine zn [1,90,91,92] ⟨?_⟩;refine yV ⟨?_⟩;refine n52 _ (i+1) ?_ ?_ ?_
          ·refine weak_bothS [1,90,91,92] [] ⟨?_⟩;rfl
          ·exact ⟨by omega,upto_step hR3 hgw⟩
          ·show _ < _;omega
        ·skip;have hi0:¬((0:Int) < (i:Int)):=by omega
         have hwp:wantP ins ws i=(decide (0≤openF ins x0) && realNeed x1):=by subst h0;exact wantP_zero hx
         have hmx:=True.intro;have hrn:realNeed x1=false:=by rw [realNeed,hnd4];rfl
         refine zn [1,90,91,92] ⟨?_⟩;refine v_seq ?_;intros;refine v_block ?_;intros;have F:=Fc.mk (ai (gdm hx) (ai hi0 (ai @decide_false (ai @qma (ai hnd4 (ai @Bool.or_true (ai @Bool.true_or @Bool.not_false)))))));refine yR [1,11,12,90,91,92] ⟨?_⟩;refine v_seq ?_;intro Q67 n67 e67 r67;refine v_draw (by kernel_rfl) ?_;intro K68 q68 k68;show aAny _ _ _ _ 38 (Array.replicate 38 false) _;refine zdMove q68 true 0 97 ?_;refine zdNilCheck q68 true 1 98 ?_;refine zdFieldAddr q68 true 2 99 ?_;refine zdLoad q68 true 3 100 ?_;refine zdFieldAddr q68 true 4 101 ?_;refine zdLoad q68 true 5 102 ?_;refine zoc 6 (openAt_con ins x0 hil) ⟨?_⟩;refine zdBinOp q68 true 7 104 ?_;refine zdMove q68 true 8 105 ?_;refine zdgMove q68 true 9 106 ?_;refine zdgBinOp q68 true 10 107 ?_;refine zdgMove q68 true 11 108 ?_;refine zdgMove q68 true 12 109 ?_;refine zdgNilCheck q68 true 13 110 ?_;refine zdgFieldAddr q68 true 14 111 ?_;refine zdgLoad q68 true 15 112 ?_;refine zdgMove q68 true 16 113 ?_;refine zdgBinOpW q68 true 17 114 ?_;refine zdgIndexAddr q68 true 18 115 ?_;refine zdgFieldAddr q68 true 19 116 ?_;refine zdgLoad q68 true 20 117 ?_;refine zdgFieldAddr q68 true 21 118 ?_;refine zdgLoad q68 true 22 119 ?_;refine zdgBinOp q68 true 23 120 ?_;refine zdgPick q68 true 24 121 ?_;refine zdPick q68 true 25 122 ?_;refine zdMove q68 true 26 123 ?_;refine zdgFieldAddr q68 true 27 124 ?_;refine zdgLoad q68 true 28 125 ?_;first
         |refine zogc 29 ((isNeed_con _ hlx)) ⟨?_⟩
         |(refine aAny_pass 29 126 26 false rfl rfl (show 126 < 136 by decide) (by kernel_rfl) rfl ?_ ?_;(focus first | rfl | (simp only [zV,guardV,Nat.reduceEqDiff,reduceIte];done));simp only [zW,set_some,Nat.reduceEqDiff,reduceIte])
         refine zdgUnOp q68 true 30 127 ?_;refine zdPick q68 true 31 128 ?_;refine zdMove q68 true 32 129 ?_;refine zdgFieldAddr q68 true 33 130 ?_;refine zdgLoad q68 true 34 131 ?_;first
         |refine zogc 35 (hmx) ⟨?_⟩
         |(refine aAny_pass 35 132 32 false rfl rfl (show 132 < 136 by decide) (by kernel_rfl) rfl ?_ ?_;(focus first | rfl | (simp only [zV,guardV,Nat.reduceEqDiff,reduceIte];done));simp only [zW,set_some,Nat.reduceEqDiff,reduceIte])
         refine zdgBinOp q68 true 36 133 ?_;refine zdPick q68 true 37 134 ?_;refine aAny_done (by kernel_rfl) ?_;refine k68 _ ?_;refine n67 _ _ (weak_keep [1,90,91,92,134] _) ?_;refine zk ⟨?_⟩;refine v_cond _ rfl ?_ ?_
         ·intro hc8;try simp only [zC,reduceCtorEq] at hc8
          have hbw:wantP ins ws i=false:=by
           rw [hwp];simp only [hrn]
           (try simp at hc8)
           first | (simp;done) | (simp [hc8];done) | (simp;exact hc8) | (simp;intro q;exact hc8 q) | (rcases hc8 with h | h<;>first | (rw [decide_eq_false (show ¬0≤openF ins x0 by omega)];simp;done) | (rw [decide_eq_false (show ¬0≤openF ins x0 by omega)];rfl) | (simp [h];done)) | (simp;intros;simp_all;omega) | (simp;intros;simp_all;done) | (rcases hc8 with h | h<;>simp [h];done) | (simp_all;done)
          have hbad:=ctl_w (n:=n) (ss:=ss) (fl:=fl) hlt hbw;refine yR [4] ⟨?_⟩;refine zr ⟨?_⟩;exact ret_pure rfl (by rw [hbad]) (.inl rfl)
         ·intro hc8;exfalso;first | (cases hc8;done) | (simp at hc8;done)
        ·skip;obtain ⟨⟨y0,y1⟩,hy⟩:∃x:TW,ws[i - 1]? =some x:=⟨ws[i - 1]'(by omega),qla (by omega)⟩;have hi0:(0:Int) < i:=by omega
         have hk:((i:Int) - 1).toNat=i - 1:=by omega
         have hwp:=wantP_succ (ins:=ins) h0 hy hx;obtain ⟨a,m,hm⟩:∃a m,x1=a::m:=by cases x1 with | nil=>(have:=need4_facts hnd4;simp at this) | cons a m=>exact ⟨a,m,rfl⟩
         subst hm;have hmx:=slMax_con a m hlx;have hmz:=max_zero hnd4;have hrn:realNeed (a::m)= !decide (mostL m a=0):=by rw [realNeed,hnd4,hmz];rfl
         refine zn [1,90,91,92] ⟨?_⟩;refine v_seq ?_;intros;refine v_block ?_;intros;have F:=Fc.mk (ai (gdm hx) (ai hi0 (ai hk (ai (gdm hy) (ai @decide_true (ai @qmb hnd4))))));refine yR [1,11,12,90,91,92] ⟨?_⟩;refine v_seq ?_;intro Q74 n74 e74 r74;refine v_draw (by kernel_rfl) ?_;intro K75 q75 k75;show aAny _ _ _ _ 38 (Array.replicate 38 false) _;refine zdMove q75 true 0 97 ?_;refine zdNilCheck q75 true 1 98 ?_;refine zdFieldAddr q75 true 2 99 ?_;refine zdLoad q75 true 3 100 ?_;refine zdFieldAddr q75 true 4 101 ?_;refine zdLoad q75 true 5 102 ?_;refine zoc 6 (openAt_con ins x0 hil) ⟨?_⟩;refine zdBinOp q75 true 7 104 ?_;refine zdMove q75 true 8 105 ?_;refine zdgMove q75 true 9 106 ?_;refine zdgBinOp q75 true 10 107 ?_;refine zdgMove q75 true 11 108 ?_;refine zdgMove q75 true 12 109 ?_;refine zdgNilCheck q75 true 13 110 ?_;refine zdgFieldAddr q75 true 14 111 ?_;refine zdgLoad q75 true 15 112 ?_;refine zdgMove q75 true 16 113 ?_;refine zdgBinOpW q75 true 17 114 ?_;refine zdgIndexAddr q75 true 18 115 ?_;refine zdgFieldAddr q75 true 19 116 ?_;refine zdgLoad q75 true 20 117 ?_;refine zdgFieldAddr q75 true 21 118 ?_;refine zdgLoad q75 true 22 119 ?_;refine zdgBinOp q75 true 23 120 ?_;refine zdgPick q75 true 24 121 ?_;refine zdPick q75 true 25 122 ?_;refine zdMove q75 true 26 123 ?_;refine zdgFieldAddr q75 true 27 124 ?_;refine zdgLoad q75 true 28 125 ?_;first
         |refine zogc 29 ((isNeed_con _ hlx)) ⟨?_⟩
         |(refine aAny_pass 29 126 26 false rfl rfl (show 126 < 136 by decide) (by kernel_rfl) rfl ?_ ?_;(focus first | rfl | (simp only [zV,guardV,Nat.reduceEqDiff,reduceIte];done));simp only [zW,set_some,Nat.reduceEqDiff,reduceIte])
         refine zdgUnOp q75 true 30 127 ?_;refine zdPick q75 true 31 128 ?_;refine zdMove q75 true 32 129 ?_;refine zdgFieldAddr q75 true 33 130 ?_;refine zdgLoad q75 true 34 131 ?_;first
         |refine zogc 35 (hmx) ⟨?_⟩
         |(refine aAny_pass 35 132 32 false rfl rfl (show 132 < 136 by decide) (by kernel_rfl) rfl ?_ ?_;(focus first | rfl | (simp only [zV,guardV,Nat.reduceEqDiff,reduceIte];done));simp only [zW,set_some,Nat.reduceEqDiff,reduceIte])
         refine zdgBinOp q75 true 36 133 ?_;refine zdPick q75 true 37 134 ?_;refine aAny_done (by kernel_rfl) ?_;refine k75 _ ?_;refine n74 _ _ (weak_keep [1,90,91,92,134] _) ?_;refine zk ⟨?_⟩;refine v_condS _ rfl ?_ ?_
         ·intro hc8;have hbw:wantP ins ws i=false:=by
           rw [hwp];simp only [hrn]
           (try simp at hc8)
           first | (simp;done) | (simp [hc8];done) | (simp;exact hc8) | (simp;intro q;exact hc8 q) | (rcases hc8 with h | h<;>first | (rw [decide_eq_false (show ¬0≤openF ins x0 by omega)];simp;done) | (rw [decide_eq_false (show ¬0≤openF ins x0 by omega)];rfl) | (simp [h];done)) | (simp;intros;simp_all;omega) | (simp;intros;simp_all;done) | (rcases hc8 with h | h<;>simp [h];done) | (simp_all;done)
          have hbad:=ctl_w (n:=n) (ss:=ss) (fl:=fl) hlt hbw;refine yR [4] ⟨?_⟩;refine zr ⟨?_⟩;exact ret_pure rfl (by rw [hbad]) (.inl rfl)
         ·intro hc8;have hgw:wantP ins ws i=true:=by
           rw [hwp];simp only [hrn]
           (try simp at hc8)
           first | (simp [hc8];done) | (simp;omega) | (simp_all;done) | (simp_all;omega)
          refine zn [1,90,91,92] ⟨?_⟩;refine yV ⟨?_⟩;refine n52 _ (i+1) ?_ ?_ ?_
          ·refine weak_bothS [1,90,91,92] [] ⟨?_⟩;rfl
          ·exact ⟨by omega,upto_step hR3 hgw⟩
          ·show _ < _;omega
        ·skip;obtain ⟨⟨y0,y1⟩,hy⟩:∃x:TW,ws[i - 1]? =some x:=⟨ws[i - 1]'(by omega),qla (by omega)⟩;have hi0:(0:Int) < i:=by omega
         have hk:((i:Int) - 1).toNat=i - 1:=by omega
         have hwp:=wantP_succ (ins:=ins) h0 hy hx;have hmx:=True.intro;have hrn:realNeed x1=false:=by rw [realNeed,hnd4];rfl
         refine zn [1,90,91,92] ⟨?_⟩;refine v_seq ?_;intros;refine v_block ?_;intros;have F:=Fc.mk (ai (gdm hx) (ai hi0 (ai hk (ai (gdm hy) (ai @decide_true (ai @qmb (ai hnd4 (ai @Bool.or_true (ai @Bool.true_or @Bool.not_false)))))))));refine yR [1,11,12,90,91,92] ⟨?_⟩;refine v_seq ?_;intro Q82 n82 e82 r82;refine v_draw (by kernel_rfl) ?_;intro K83 q83 k83;show aAny _ _ _ _ 38 (Array.replicate 38 false) _;refine zdMove q83 true 0 97 ?_;refine zdNilCheck q83 true 1 98 ?_;refine zdFieldAddr q83 true 2 99 ?_;refine zdLoad q83 true 3 100 ?_;refine zdFieldAddr q83 true 4 101 ?_;refine zdLoad q83 true 5 102 ?_;refine zoc 6 (openAt_con ins x0 hil) ⟨?_⟩;refine zdBinOp q83 true 7 104 ?_;refine zdMove q83 true 8 105 ?_;refine zdgMove q83 true 9 106 ?_;refine zdgBinOp q83 true 10 107 ?_;refine zdgMove q83 true 11 108 ?_;refine zdgMove q83 true 12 109 ?_;refine zdgNilCheck q83 true 13 110 ?_;refine zdgFieldAddr q83 true 14 111 ?_;refine zdgLoad q83 true 15 112 ?_;refine zdgMove q83 true 16 113 ?_;refine zdgBinOpW q83 true 17 114 ?_;refine zdgIndexAddr q83 true 18 115 ?_;refine zdgFieldAddr q83 true 19 116 ?_;refine zdgLoad q83 true 20 117 ?_;refine zdgFieldAddr q83 true 21 118 ?_;refine zdgLoad q83 true 22 119 ?_;refine zdgBinOp q83 true 23 120 ?_;refine zdgPick q83 true 24 121 ?_;refine zdPick q83 true 25 122 ?_;refine zdMove q83 true 26 123 ?_;refine zdgFieldAddr q83 true 27 124 ?_;refine zdgLoad q83 true 28 125 ?_;first
         |refine zogc 29 ((isNeed_con _ hlx)) ⟨?_⟩
         |(refine aAny_pass 29 126 26 false rfl rfl (show 126 < 136 by decide) (by kernel_rfl) rfl ?_ ?_;(focus first | rfl | (simp only [zV,guardV,Nat.reduceEqDiff,reduceIte];done));simp only [zW,set_some,Nat.reduceEqDiff,reduceIte])
         refine zdgUnOp q83 true 30 127 ?_;refine zdPick q83 true 31 128 ?_;refine zdMove q83 true 32 129 ?_;refine zdgFieldAddr q83 true 33 130 ?_;refine zdgLoad q83 true 34 131 ?_;first
         |refine zogc 35 (hmx) ⟨?_⟩
         |(refine aAny_pass 35 132 32 false rfl rfl (show 132 < 136 by decide) (by kernel_rfl) rfl ?_ ?_;(focus first | rfl | (simp only [zV,guardV,Nat.reduceEqDiff,reduceIte];done));simp only [zW,set_some,Nat.reduceEqDiff,reduceIte])
         refine zdgBinOp q83 true 36 133 ?_;refine zdPick q83 true 37 134 ?_;refine aAny_done (by kernel_rfl) ?_;refine k83 _ ?_;refine n82 _ _ (weak_keep [1,90,91,92,134] _) ?_;refine zk ⟨?_⟩;refine v_cond _ rfl ?_ ?_
         ·intro hc8;try simp only [zC,reduceCtorEq] at hc8
          have hbw:wantP ins ws i=false:=by
           rw [hwp];simp only [hrn]
           (try simp at hc8)
           first | (simp;done) | (simp [hc8];done) | (simp;exact hc8) | (simp;intro q;exact hc8 q) | (rcases hc8 with h | h<;>first | (rw [decide_eq_false (show ¬0≤openF ins x0 by omega)];simp;done) | (rw [decide_eq_false (show ¬0≤openF ins x0 by omega)];rfl) | (simp [h];done)) | (simp;intros;simp_all;omega) | (simp;intros;simp_all;done) | (rcases hc8 with h | h<;>simp [h];done) | (simp_all;done)
          have hbad:=ctl_w (n:=n) (ss:=ss) (fl:=fl) hlt hbw;refine yR [4] ⟨?_⟩;refine zr ⟨?_⟩;exact ret_pure rfl (by rw [hbad]) (.inl rfl)
         ·intro hc8;exfalso;first | (cases hc8;done) | (simp at hc8;done)
       ·intro hc7;refine zn [] ⟨?_⟩;refine yR [4] ⟨?_⟩;refine zr ⟨?_⟩;exact ret_pure rfl (by rw [ctl_yes hh hI hF (by omega) hR3]) (.inl rfl)
end Go.Proofs.YtmhaafinhpopmaaGreatDoor
