/- What functions compute. No condition. -/
import Derived.Test.YtmhaafinhpopmaaGreatDoorX15
import Derived.Test.YtmhaafinhpopmaaGreatDoorX14
set_option linter.unusedSimpArgs false
set_option linter.unusedVariables false
set_option linter.defProp false
namespace Go.Proofs.YtmhaafinhpopmaaGreatDoor
open Go Go.Vm
set_option maxHeartbeats 8000000
set_option maxRecDepth 8000 in
theorem roGood_con (n:Int) (ss:List TS) (fl:List TA) (ins:List TI) (ws:List TW) (hs:ss.length≤1048576) (hl:fl.length≤1048576) (hls:∀t∈fl,t.1.size≤9223372036854775807) (hil:ins.length≤1048576) (hin:∀x∈ins,x.2.2.2.length≤1048576) (his:∀x∈ins,∀s∈x.2.2.2,s.size≤9223372036854775807) (hwl:ws.length≤1048576) (hwn:∀x∈ws,x.2.length≤1048576):Con Tryz.prog 79 [.agg [.int .i64 n,.sl (ss.map (fun t:TS=>V.agg [V.int .i64 t.1,V.int .i64 t.2.1,V.int .i64 t.2.2]))],.agg [.sl (fl.map (fun t:TA=>V.agg [V.str t.1,V.int .i64 t.2.1,V.int .i64 t.2.2.1,V.int .i64 t.2.2.2.1,V.int .i64 t.2.2.2.2])),.sl (ins.map (fun t:TI=>V.agg [V.int .i64 t.1,V.int .i64 t.2.1,V.bool t.2.2.1,V.sl (t.2.2.2.map V.str)])),.sl (ws.map (fun t:TW=>V.agg [V.int .i64 t.1,V.sl (t.2.map (V.int .i64))]))]] [] (.bool (ctlB n ss fl ins ws)) []:=by
 refine v_con [.tmp 4] [] Tryz.func79 rfl rfl rfl (by simp [Tryz.ntmps79]) ?_;intro Q0 n0 r0;simp only [Tryz.ntmps79,envFrom,Nat.reduceAdd];have T:=Tys.mk (ai Ty.t3 (ai Ty.t4 (ai Ty.t9 (ai Ty.t35 (ai Ty.t59 (ai Ty.t63 (ai Ty.t64 (ai Ty.t65 (ai Ty.t67 (ai Ty.t70 (ai Ty.t72 (ai Ty.t154 (ai Ty.t156 (ai Ty.t158 Ty.t164))))))))))))));have F:=Fc.mk True.intro;refine yR [2,3] ⟨?_⟩;refine v_seq ?_;intros;refine yRcg [2,3,29] (dsGood_con n ss fl hs hl hls) (ixGood_con ins hil hin his) ⟨?_⟩;refine v_condS _ rfl ?_ ?_
 ·intro hc0;have hh:ctlH n ss fl ins ws=false:=by cases hq:ctlH n ss fl ins ws with | false=>rfl | true=>(exfalso;simp [ctlH] at hq;(try simp at hc0);simp_all;first | done | omega)
  have hbad:=ctl_h hh;refine yR [4] ⟨?_⟩;refine zr ⟨?_⟩;exact ret_pure rfl (by rw [hbad]) (.inl rfl)
 ·intro hc0;have hh:ctlH n ss fl ins ws=true:=by simp [ctlH];(try simp at hc0);first | (simp_all;done) | (simp_all;omega)
  obtain ⟨hd,hnd⟩:=ctlh_facts hh;have hfl12:=hd.hfl;have hn14:=hd.hn;refine zn [2,3] ⟨?_⟩;refine v_seq ?_;intros;refine yR [2,3,31,32,33] ⟨?_⟩;refine v_block ?_;intros;refine v_loop (fun i=>⟨[(2,.ptr 0 0 0),(3,.ptr 1 0 0),(31,.sl (ins.map (fun t:TI=>V.agg [V.int .i64 t.1,V.int .i64 t.2.1,V.bool t.2.2.1,V.sl (t.2.2.2.map V.str)]))),(32,.int .i64 ins.length),(33,.int .i64 (Nat.cast i))],[.box (.agg [.int .i64 n,.sl (ss.map (fun t:TS=>V.agg [V.int .i64 t.1,V.int .i64 t.2.1,V.int .i64 t.2.2]))]) .shal,.box (.agg [.sl (fl.map (fun t:TA=>V.agg [V.str t.1,V.int .i64 t.2.1,V.int .i64 t.2.2.1,V.int .i64 t.2.2.2.1,V.int .i64 t.2.2.2.2])),.sl (ins.map (fun t:TI=>V.agg [V.int .i64 t.1,V.int .i64 t.2.1,V.bool t.2.2.1,V.sl (t.2.2.2.map V.str)])),.sl (ws.map (fun t:TW=>V.agg [V.int .i64 t.1,V.sl (t.2.map (V.int .i64))]))]) .shal],false,111,0⟩) (fun i=>i≤ins.length∧(ins.drop i).all (inP n fl)=ins.all (inP n fl)) (fun i=>ins.length - i) 0 ?_ ?_ ?_
  ·refine weak_bothS [2,3,31,32,33] [0,1] ⟨?_⟩;rfl
  ·exact ⟨qld _,rfl⟩
  ·rintro i hok9 Q9 n9 e9 r9;obtain ⟨hi1,hR⟩:=hok9;refine yR [2,3,31,32,33,34] ⟨?_⟩;refine v_seq ?_;intros;refine v_condS _ rfl ?_ ?_
   ·intro hc1;have hlt:i < ins.length:=by omega
    obtain ⟨⟨x0,x1,x2,x3⟩,hx⟩:∃x:TI,ins[i]? =some x:=⟨ins[i]'(by omega),qla (by omega)⟩;have hlx:=hin _ (qlb hx);have hnx:=hnd _ (qlb hx);simp only [] at hlx hnx;have hst:=all_step (p:=inP n fl) hx;have hip:inP n fl (x0,x1,x2,x3)=(hasB n x1 && x3.all (fun s=>decide (0≤findA fl s))):=rfl;have hhb:=has_facts (x:=x1) hn14;refine zn [2,3,31,32,33] ⟨?_⟩;refine v_seq ?_;intros;refine v_block ?_;intros;have F:=Fc.mk (gdm hx);refine yR [2,3,6,31,32,33] ⟨?_⟩;refine v_seq ?_;intros;refine yR [2,3,6,31,32,33,41] ⟨?_⟩;refine v_condS _ rfl ?_ ?_
    ·intro hc2;have hh0:hasB n x1=false:=by first | (simpa using hc2) | (rw [hhb,decide_eq_false (show ¬x1 < n by (try simp at hc2);omega)];simp)
     have hbad:=ctl_i (ss:=ss) (ws:=ws) (show ins.all (inP n fl)=false by rw [←hR,hst,hip,hh0];rfl);refine yR [4] ⟨?_⟩;refine zr ⟨?_⟩;exact ret_pure rfl (by rw [hbad]) (.inl rfl)
    ·intro hc2;have hh1:hasB n x1=true:=by first | (simpa using hc2) | (rw [hhb,decide_eq_true hnx,decide_eq_true (show x1 < n by (try simp at hc2);omega)];rfl)
     refine zn [2,3,6,31,32,33] ⟨?_⟩;refine yR [2,3,31,32,33,43,44,45] ⟨?_⟩;refine v_block ?_;intros;refine v_loop (fun j=>⟨[(2,.ptr 0 0 0),(3,.ptr 1 0 0),(31,.sl (ins.map (fun t:TI=>V.agg [V.int .i64 t.1,V.int .i64 t.2.1,V.bool t.2.2.1,V.sl (t.2.2.2.map V.str)]))),(32,.int .i64 ins.length),(33,.int .i64 (Nat.cast i)),(43,.sl (x3.map V.str)),(44,.int .i64 x3.length),(45,.int .i64 (Nat.cast j))],[.box (.agg [.int .i64 n,.sl (ss.map (fun t:TS=>V.agg [V.int .i64 t.1,V.int .i64 t.2.1,V.int .i64 t.2.2]))]) .shal,.box (.agg [.sl (fl.map (fun t:TA=>V.agg [V.str t.1,V.int .i64 t.2.1,V.int .i64 t.2.2.1,V.int .i64 t.2.2.2.1,V.int .i64 t.2.2.2.2])),.sl (ins.map (fun t:TI=>V.agg [V.int .i64 t.1,V.int .i64 t.2.1,V.bool t.2.2.1,V.sl (t.2.2.2.map V.str)])),.sl (ws.map (fun t:TW=>V.agg [V.int .i64 t.1,V.sl (t.2.map (V.int .i64))]))]) .shal],false,111,0⟩) (fun j=>j≤x3.length∧(x3.drop j).all (fun s=>decide (0≤findA fl s))=x3.all (fun s=>decide (0≤findA fl s))) (fun j=>x3.length - j) 0 ?_ ?_ ?_
     ·refine weak_bothS [2,3,31,32,33,43,44,45] [0,1] ⟨?_⟩;rfl
     ·exact ⟨qld _,rfl⟩
     ·rintro j hok22 Q22 n22 e22 r22;obtain ⟨hj1,hR1⟩:=hok22;refine yR [2,3,31,32,33,43,44,45,46] ⟨?_⟩;refine v_seq ?_;intros;refine v_condS _ rfl ?_ ?_
      ·intro hc3;have hlj:j < x3.length:=by omega
       obtain ⟨s,hs1⟩:∃s,x3[j]? =some s:=⟨_,qla hlj⟩;have hst1:=all_step (p:=(fun s=>decide (0≤findA fl s))) hs1;refine zn [2,3,31,32,33,43,44,45] ⟨?_⟩;refine v_seq ?_;intros;refine v_block ?_;intros;have F:=Fc.mk (ai (gdm hx) (gdm hs1));refine yR [2,3,8,31,32,33,43,44,45] ⟨?_⟩;refine yRc [2,3,31,32,33,43,44,45,53] (apFind_con fl s hl) ⟨?_⟩;refine v_condS _ rfl ?_ ?_
       ·intro hc4;have hbad:=ctl_i (ss:=ss) (ws:=ws) (show ins.all (inP n fl)=false by rw [←hR,hst,hip,show x3.all (fun s=>decide (0≤findA fl s))=false by rw [←hR1,hst1,decide_eq_false (show ¬0≤findA fl s by (try simp at hc4);omega)];rfl];simp);refine yR [4] ⟨?_⟩;refine zr ⟨?_⟩;exact ret_pure rfl (by rw [hbad]) (.inl rfl)
       ·intro hc4;have hfs:0≤findA fl s:=by (try simp at hc4);omega
        refine zn [2,3,31,32,33,43,44,45] ⟨?_⟩;refine yV ⟨?_⟩;refine n22 _ (j+1) ?_ ?_ ?_
        ·refine weak_bothS [2,3,31,32,33,43,44,45] [0,1] ⟨?_⟩;rfl
        ·exact ⟨by omega,by rw [←hR1,hst1,decide_eq_true hfs];rfl⟩
        ·show _ < _;omega
      ·intro hc3;have hall:x3.all (fun s=>decide (0≤findA fl s))=true:=by rw [←hR1,all_end (by omega)]
       refine zn [2,3,31,32,33] ⟨?_⟩;refine yV ⟨?_⟩;refine n9 _ (i+1) ?_ ?_ ?_
       ·refine weak_bothS [2,3,31,32,33] [0,1] ⟨?_⟩;rfl
       ·exact ⟨by omega,by rw [←hR,hst,hip,hh1,hall];rfl⟩
       ·show _ < _;omega
   ·intro hc1;have hI:ins.all (inP n fl)=true:=by rw [←hR,all_end (by omega)]
    refine zn [3] ⟨?_⟩;refine v_seq ?_;intros;refine yR [3,57,58,59] ⟨?_⟩;refine v_block ?_;intros;refine v_loop (fun i=>⟨[(3,.ptr 0 0 0),(57,.sl (fl.map (fun t:TA=>V.agg [V.str t.1,V.int .i64 t.2.1,V.int .i64 t.2.2.1,V.int .i64 t.2.2.2.1,V.int .i64 t.2.2.2.2]))),(58,.int .i64 fl.length),(59,.int .i64 (Nat.cast i))],[.box (.agg [.sl (fl.map (fun t:TA=>V.agg [V.str t.1,V.int .i64 t.2.1,V.int .i64 t.2.2.1,V.int .i64 t.2.2.2.1,V.int .i64 t.2.2.2.2])),.sl (ins.map (fun t:TI=>V.agg [V.int .i64 t.1,V.int .i64 t.2.1,V.bool t.2.2.1,V.sl (t.2.2.2.map V.str)])),.sl (ws.map (fun t:TW=>V.agg [V.int .i64 t.1,V.sl (t.2.map (V.int .i64))]))]) .shal],false,111,0⟩) (fun i=>i≤fl.length∧(fl.drop i).all (fleetP ins)=fl.all (fleetP ins)) (fun i=>fl.length - i) 0 ?_ ?_ ?_
    ·refine weak_bothS [3,57,58,59] [1] ⟨?_⟩;rfl
    ·exact ⟨qld _,rfl⟩
    ·rintro i hok37 Q37 n37 e37 r37;obtain ⟨hi2,hR2⟩:=hok37;refine yR [3,57,58,59,60] ⟨?_⟩;refine v_seq ?_;intros;refine v_condS _ rfl ?_ ?_
     ·intro hc5;have hlt:i < fl.length:=by omega
      obtain ⟨⟨x0,x1,x2,x3,x4⟩,hx⟩:∃x:TA,fl[i]? =some x:=⟨fl[i]'(by omega),qla (by omega)⟩;have hst:=all_step (p:=fleetP ins) hx;have hfp:fleetP ins (x0,x1,x2,x3,x4)= !(busyA (x0,x1,x2,x3,x4) != decide (0≤commF ins x0)):=rfl;refine zn [3,57,58,59] ⟨?_⟩;refine v_seq ?_;intros;refine v_block ?_;intros;have F:=Fc.mk (gdm hx);refine yR [3,10,57,58,59] ⟨?_⟩;refine v_seq ?_;intro Q44 n44 e44 r44;refine v_draw (by kernel_rfl) ?_;intro K45 q45 k45;show aAny _ _ _ _ 10 (Array.replicate 10 false) _;refine zdFieldAddr q45 true 0 63 ?_;refine zdLoad q45 true 1 64 ?_;refine zdFieldAddr q45 true 3 66 ?_;refine zdLoad q45 true 4 67 ?_;refine zdFieldAddr q45 true 5 68 ?_;refine zdLoad q45 true 6 69 ?_;refine zoc 2 (roBusy_con x4) ⟨?_⟩;refine zoc 7 (ixOf_con ins x0 hil hin) ⟨?_⟩;refine zdBinOp q45 true 8 71 ?_;refine zdBinOp q45 true 9 72 ?_;refine aAny_done (by kernel_rfl) ?_;refine k45 _ ?_;refine n44 _ _ (weak_keep [3,57,58,59,72] _) ?_;refine zk ⟨?_⟩;refine v_condS _ rfl ?_ ?_
      ·intro hc6;have hbad:=ctl_f (n:=n) (ss:=ss) (ws:=ws) (show fl.all (fleetP ins)=false by rw [←hR2,hst,hfp];first | (rw [hc6];rfl) | (simp [busyA] at hc6⊢;simp_all;done) | (simp_all [busyA];done));refine yR [4] ⟨?_⟩;refine zr ⟨?_⟩;exact ret_pure rfl (by rw [hbad]) (.inl rfl)
      ·intro hc6;have hgf:fleetP ins (x0,x1,x2,x3,x4)=true:=by rw [hfp];first | (rw [hc6];rfl) | (simp [busyA] at hc6⊢;simp_all;done) | (simp_all [busyA];done)
       refine zn [3,57,58,59] ⟨?_⟩;refine yV ⟨?_⟩;refine n37 _ (i+1) ?_ ?_ ?_
       ·refine weak_bothS [3,57,58,59] [0] ⟨?_⟩;rfl
       ·exact ⟨by omega,by rw [←hR2,hst,hgf];rfl⟩
       ·show _ < _;omega
     ·intro hc5;have hF:fl.all (fleetP ins)=true:=by rw [←hR2,all_end (by omega)]
      refine zn [3] ⟨?_⟩;refine v_seq ?_;intros;refine yR [3,75,76,77] ⟨?_⟩;refine v_block ?_;intros;refine v_loop (fun i=>⟨[(3,.ptr 0 0 0),(75,.sl (ws.map (fun t:TW=>V.agg [V.int .i64 t.1,V.sl (t.2.map (V.int .i64))]))),(76,.int .i64 ws.length),(77,.int .i64 (Nat.cast i))],[.box (.agg [.sl (fl.map (fun t:TA=>V.agg [V.str t.1,V.int .i64 t.2.1,V.int .i64 t.2.2.1,V.int .i64 t.2.2.2.1,V.int .i64 t.2.2.2.2])),.sl (ins.map (fun t:TI=>V.agg [V.int .i64 t.1,V.int .i64 t.2.1,V.bool t.2.2.1,V.sl (t.2.2.2.map V.str)])),.sl (ws.map (fun t:TW=>V.agg [V.int .i64 t.1,V.sl (t.2.map (V.int .i64))]))]) .shal],false,111,0⟩) (fun i=>i≤ws.length∧∀j,j < i→wantP ins ws j=true) (fun i=>ws.length - i) 0 ?_ ?_ ?_
      ·refine weak_bothS [3,75,76,77] [0] ⟨?_⟩;rfl
      ·exact ⟨qld _,fun j h=>absurd h (Nat.not_lt_zero _)⟩
      ·rintro i hok52 Q52 n52 e52 r52;obtain ⟨hi3,hR3⟩:=hok52;refine yR [3,75,76,77,78] ⟨?_⟩;refine v_seq ?_;intros;refine v_condS _ rfl ?_ ?_
       ·intro hc7;have hlt:i < ws.length:=by omega
        obtain ⟨⟨x0,x1⟩,hx⟩:∃x:TW,ws[i]? =some x:=⟨ws[i]'(by omega),qla (by omega)⟩;have hlx:=hwn _ (qlb hx);simp only [] at hlx;rcases ql8 i with h0 | h0
        ·skip;have hi0:¬((0:Int) < (i:Int)):=by omega
         have hwp:wantP ins ws i=(decide (0≤openF ins x0) && realNeed x1):=by subst h0;exact wantP_zero hx
         refine zn [3,75,76,77] ⟨?_⟩;refine v_seq ?_;intros;refine v_block ?_;intros;have F:=Fc.mk (ai (gdm hx) (ai hi0 (ai @decide_false @qma)));refine yR [3,11,12,75,76,77] ⟨?_⟩;refine v_seq ?_;intro Q59 n59 e59 r59;refine v_draw (by kernel_rfl) ?_;intro K60 q60 k60;show aAny _ _ _ _ 28 (Array.replicate 28 false) _;refine zdFieldAddr q60 true 0 82 ?_;refine zdLoad q60 true 1 83 ?_;refine zdFieldAddr q60 true 2 84 ?_;refine zdLoad q60 true 3 85 ?_;refine zoc 4 (ixFind_con ins x0 hil) ⟨?_⟩;refine zdBinOp q60 true 5 87 ?_;refine zdMove q60 true 6 88 ?_;refine zdgFieldAddr q60 true 7 89 ?_;refine zdgLoad q60 true 8 90 ?_;first
         |refine zogc 9 ((roNeed_con _ hlx)) ⟨?_⟩
         |(refine aAny_pass 9 91 6 false rfl rfl (show 91 < 111 by decide) (by kernel_rfl) rfl ?_ ?_;(focus first | rfl | (simp only [zV,guardV,Nat.reduceEqDiff,reduceIte];done));simp only [zW,set_some,Nat.reduceEqDiff,reduceIte])
         refine zdgUnOp q60 true 10 92 ?_;refine zdPick q60 true 11 93 ?_;refine zdMove q60 true 12 94 ?_;refine zdgMove q60 true 13 95 ?_;refine zdgBinOp q60 true 14 96 ?_;refine zdgMove q60 true 15 97 ?_;refine zdgFieldAddr q60 true 16 98 ?_;refine zdgLoad q60 true 17 99 ?_;refine zdgMove q60 true 18 100 ?_;refine zdgBinOpW q60 true 19 101 ?_;refine zdgIndexAddr q60 true 20 102 ?_;refine zdgFieldAddr q60 true 21 103 ?_;refine zdgLoad q60 true 22 104 ?_;refine zdgFieldAddr q60 true 23 105 ?_;refine zdgLoad q60 true 24 106 ?_;refine zdgBinOp q60 true 25 107 ?_;refine zdgPick q60 true 26 108 ?_;refine zdPick q60 true 27 109 ?_;refine aAny_done (by kernel_rfl) ?_;refine k60 _ ?_;refine n59 _ _ (weak_keep [3,75,76,77,109] _) ?_;refine zk ⟨?_⟩;refine v_condS _ rfl ?_ ?_
         ·intro hc8;have hbw:wantP ins ws i=false:=by
           rw [hwp]
           (try simp at hc8)
           first | (simp;done) | (simp [hc8];done) | (simp;exact hc8) | (simp;intro q;exact hc8 q) | (rcases hc8 with h | h<;>first | (rw [decide_eq_false (show ¬0≤openF ins x0 by omega)];simp;done) | (rw [decide_eq_false (show ¬0≤openF ins x0 by omega)];rfl) | (simp [h];done)) | (simp;intros;simp_all;omega) | (simp;intros;simp_all;done) | (rcases hc8 with h | h<;>simp [h];done) | (simp_all;done)
          have hbad:=ctl_w (n:=n) (ss:=ss) (fl:=fl) hlt hbw;refine yR [4] ⟨?_⟩;refine zr ⟨?_⟩;exact ret_pure rfl (by rw [hbad]) (.inl rfl)
         ·intro hc8;have hgw:wantP ins ws i=true:=by
           rw [hwp]
           (try simp at hc8)
           first | (simp [hc8];done) | (simp;omega) | (simp_all;done) | (simp_all;omega)
          refine zn [3,75,76,77] ⟨?_⟩;refine yV ⟨?_⟩;refine n52 _ (i+1) ?_ ?_ ?_
          ·refine weak_bothS [3,75,76,77] [0] ⟨?_⟩;rfl
          ·exact ⟨by omega,upto_step hR3 hgw⟩
          ·show _ < _;omega
        ·skip;obtain ⟨⟨y0,y1⟩,hy⟩:∃x:TW,ws[i - 1]? =some x:=⟨ws[i - 1]'(by omega),qla (by omega)⟩;have hi0:(0:Int) < i:=by omega
         have hk:((i:Int) - 1).toNat=i - 1:=by omega
         have hwp:=wantP_succ (ins:=ins) h0 hy hx;refine zn [3,75,76,77] ⟨?_⟩;refine v_seq ?_;intros;refine v_block ?_;intros;have F:=Fc.mk (ai (gdm hx) (ai hi0 (ai hk (ai (gdm hy) (ai @decide_true @qmb)))));refine yR [3,11,12,75,76,77] ⟨?_⟩;refine v_seq ?_;intro Q67 n67 e67 r67;refine v_draw (by kernel_rfl) ?_;intro K68 q68 k68;show aAny _ _ _ _ 28 (Array.replicate 28 false) _;refine zdFieldAddr q68 true 0 82 ?_;refine zdLoad q68 true 1 83 ?_;refine zdFieldAddr q68 true 2 84 ?_;refine zdLoad q68 true 3 85 ?_;refine zoc 4 (ixFind_con ins x0 hil) ⟨?_⟩;refine zdBinOp q68 true 5 87 ?_;refine zdMove q68 true 6 88 ?_;refine zdgFieldAddr q68 true 7 89 ?_;refine zdgLoad q68 true 8 90 ?_;first
         |refine zogc 9 ((roNeed_con _ hlx)) ⟨?_⟩
         |(refine aAny_pass 9 91 6 false rfl rfl (show 91 < 111 by decide) (by kernel_rfl) rfl ?_ ?_;(focus first | rfl | (simp only [zV,guardV,Nat.reduceEqDiff,reduceIte];done));simp only [zW,set_some,Nat.reduceEqDiff,reduceIte])
         refine zdgUnOp q68 true 10 92 ?_;refine zdPick q68 true 11 93 ?_;refine zdMove q68 true 12 94 ?_;refine zdgMove q68 true 13 95 ?_;refine zdgBinOp q68 true 14 96 ?_;refine zdgMove q68 true 15 97 ?_;refine zdgFieldAddr q68 true 16 98 ?_;refine zdgLoad q68 true 17 99 ?_;refine zdgMove q68 true 18 100 ?_;refine zdgBinOpW q68 true 19 101 ?_;refine zdgIndexAddr q68 true 20 102 ?_;refine zdgFieldAddr q68 true 21 103 ?_;refine zdgLoad q68 true 22 104 ?_;refine zdgFieldAddr q68 true 23 105 ?_;refine zdgLoad q68 true 24 106 ?_;refine zdgBinOp q68 true 25 107 ?_;refine zdgPick q68 true 26 108 ?_;refine zdPick q68 true 27 109 ?_;refine aAny_done (by kernel_rfl) ?_;refine k68 _ ?_;refine n67 _ _ (weak_keep [3,75,76,77,109] _) ?_;refine zk ⟨?_⟩;refine v_condS _ rfl ?_ ?_
         ·intro hc8;have hbw:wantP ins ws i=false:=by
           rw [hwp]
           (try simp at hc8)
           first | (simp;done) | (simp [hc8];done) | (simp;exact hc8) | (simp;intro q;exact hc8 q) | (rcases hc8 with h | h<;>first | (rw [decide_eq_false (show ¬0≤openF ins x0 by omega)];simp;done) | (rw [decide_eq_false (show ¬0≤openF ins x0 by omega)];rfl) | (simp [h];done)) | (simp;intros;simp_all;omega) | (simp;intros;simp_all;done) | (rcases hc8 with h | h<;>simp [h];done) | (simp_all;done)
          have hbad:=ctl_w (n:=n) (ss:=ss) (fl:=fl) hlt hbw;refine yR [4] ⟨?_⟩;refine zr ⟨?_⟩;exact ret_pure rfl (by rw [hbad]) (.inl rfl)
         ·intro hc8;have hgw:wantP ins ws i=true:=by
           rw [hwp]
           (try simp at hc8)
           first | (simp [hc8];done) | (simp;omega) | (simp_all;done) | (simp_all;omega)
          refine zn [3,75,76,77] ⟨?_⟩;refine yV ⟨?_⟩;refine n52 _ (i+1) ?_ ?_ ?_
          ·refine weak_bothS [3,75,76,77] [0] ⟨?_⟩;rfl
          ·exact ⟨by omega,upto_step hR3 hgw⟩
          ·show _ < _;omega
       ·intro hc7;refine zn [] ⟨?_⟩;refine yR [4] ⟨?_⟩;refine zr ⟨?_⟩;exact ret_pure rfl (by rw [ctl_yes hh hI hF (by omega) hR3]) (.inl rfl)
end Go.Proofs.YtmhaafinhpopmaaGreatDoor
