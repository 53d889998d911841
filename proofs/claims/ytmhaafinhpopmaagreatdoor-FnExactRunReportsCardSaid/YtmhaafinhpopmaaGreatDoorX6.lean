/- What functions compute. No condition. -/
import Derived.Test.YtmhaafinhpopmaaGreatDoorX1
set_option linter.unusedSimpArgs false
set_option linter.unusedVariables false
set_option linter.defProp false
namespace Go.Proofs.YtmhaafinhpopmaaGreatDoor
open Go Go.Vm
set_option maxHeartbeats 8000000
theorem szStreetS_con (n:Int) (ll:List TS) (hn:0≤n∧n≤1048576) (hl:ll.length≤9223372036854775807):Con Tryz.prog 75 [.sl (ll.map (fun t:TS=>V.agg [V.int .i64 t.1,V.int .i64 t.2.1,V.int .i64 t.2.2])),.int .i64 n] [] (.int .i64 (if n - ll.length < 0 then -1 else n - ll.length)) []:=by
 refine v_con [.tmp 4] [] Tryz.func75 rfl rfl rfl (by simp [Tryz.ntmps75]) ?_;intro Q0 n0 r0;simp only [Tryz.ntmps75,envFrom,Nat.reduceAdd];have T:=Tys.mk (ai Ty.t3 (ai Ty.t51 Ty.t166));have F:=Fc.mk True.intro;refine yR [0,1] ⟨?_⟩;refine yR [1] ⟨?_⟩;refine v_seq ?_;intros;refine yR [1,10] ⟨?_⟩;refine v_condS _ rfl ?_ ?_
 ·intro hc0;refine yR [4] ⟨?_⟩;refine zr ⟨?_⟩;exact ret_pure rfl (by rw [if_pos (by omega)]) (.inl rfl)
 ·intro hc0;refine zn [1] ⟨?_⟩;refine yR [4] ⟨?_⟩;refine zr ⟨?_⟩;exact ret_pure rfl (by rw [if_neg (by omega)]) (.inl rfl)
theorem toStreet_con (x0:Int) (x1:Int) (x2:Int):Con Tryz.prog 132 [.agg [V.int .i64 x0,V.int .i64 x1,V.int .i64 x2]] [] (.agg [V.int .i64 x0,V.int .i64 x1,V.int .i64 x2]) []:=by
 refine v_con [.cell 2 164] [] Tryz.func132 rfl rfl rfl (by simp [Tryz.ntmps132]) ?_;intro Q0 n0 r0;simp only [Tryz.ntmps132,envFrom,Nat.reduceAdd];have T:=Tys.mk (ai Ty.t3 (ai Ty.t164 Ty.t166));have F:=Fc.mk True.intro;refine yR [1,2] ⟨?_⟩;refine yR [1,2,3] ⟨?_⟩;refine yR [1,2,3] ⟨?_⟩;refine yR [1,2,3] ⟨?_⟩;refine yR [2,3] ⟨?_⟩;refine yR [2] ⟨?_⟩;refine zq1 ⟨?_⟩;exact ret_pure rfl (by first | rfl | simp) (.inl rfl)
theorem toStreetS_con (l:List TS) (hl:l.length≤1048576):Con Tryz.prog 82 [.sl (l.map (fun t:TS=>V.agg [V.int .i64 t.1,V.int .i64 t.2.1,V.int .i64 t.2.2]))] [] (.ref 0) [.arr (l.map (fun t:TS=>V.agg [V.int .i64 t.1,V.int .i64 t.2.1,V.int .i64 t.2.2])) .flat]:=by
 refine v_con [.tmp 2] [] Tryz.func82 rfl rfl rfl (by simp [Tryz.ntmps82]) ?_;intro Q0 n0 r0;simp only [Tryz.ntmps82,envFrom,Nat.reduceAdd];have T:=Tys.mk (ai Ty.t3 (ai Ty.t51 (ai Ty.t70 (ai Ty.t164 Ty.t166))));have F:=Fc.mk True.intro;refine yR [0] ⟨?_⟩;refine yR [0,3] ⟨?_⟩;refine v_seq ?_;intros;refine yR [0,3,4] ⟨?_⟩;refine v_block ?_;intros;refine v_loop (fun i=>⟨[(0,.sl (l.map (fun t:TS=>V.agg [V.int .i64 t.1,V.int .i64 t.2.1,V.int .i64 t.2.2]))),(3,.ref 0),(4,.int .i64 (Nat.cast i))],[.arr (fillTo (fun t:TS=>V.agg [V.int .i64 t.1,V.int .i64 t.2.1,V.int .i64 t.2.2]) (V.agg [V.int .i64 0,V.int .i64 0,V.int .i64 0]) l i) .flat],false,23,0⟩) (fun i=>i≤l.length) (fun i=>l.length - i) 0 ?_ ?_ ?_
 ·refine weak_bothS [0,3,4] [1] ⟨?_⟩;rw [fill_zero];rfl
 ·exact qld _
 ·rintro i hok6 Q6 n6 e6 r6;have hi1:i≤l.length:=hok6;refine v_seq ?_;intros;refine yR [0,3,4,11] ⟨?_⟩;refine v_condS _ rfl ?_ ?_
  ·intro hc0;have hlt:i < l.length:=by omega
   obtain ⟨⟨x0,x1,x2⟩,hx⟩:∃x:TS,l[i]? =some x:=⟨l[i]'(by omega),qla (by omega)⟩;refine zn [0,3,4] ⟨?_⟩;refine v_seq ?_;intros;refine v_block ?_;intros;have F:=Fc.mk (ai (gdm hx) (ai (fun f z=>fill_len (f:=f) (z:=z) hi1) (ai (fun f z=>fill_get (f:=f) (z:=z) hlt) (fun f z=>fill_set (f:=f) (z:=z) hx))));refine yQc [0,3,4] (toStreet_con x0 x1 x2) ⟨?_⟩;refine yV ⟨?_⟩;refine n6 _ (i+1) ?_ ?_ ?_
   ·refine weak_bothS [0,3,4] [0] ⟨?_⟩;rfl
   ·exact hlt
   ·show _ < _;omega
  ·intro hc0;refine zn [3] ⟨?_⟩;refine yR [2] ⟨?_⟩;refine zr ⟨?_⟩;rw [←fill_end (f:=(fun t:TS=>V.agg [V.int .i64 t.1,V.int .i64 t.2.1,V.int .i64 t.2.2])) (z:=(V.agg [V.int .i64 0,V.int .i64 0,V.int .i64 0])) (show l.length≤i by omega)];exact ret_ref rfl (.inl rfl)
theorem eqStreet_con (x0:Int) (x1:Int) (x2:Int) (y0:Int) (y1:Int) (y2:Int):Con Tryz.prog 158 [.agg [V.int .i64 x0,V.int .i64 x1,V.int .i64 x2],.agg [V.int .i64 y0,V.int .i64 y1,V.int .i64 y2]] [] (.bool (decide ((x0,x1,x2)=(y0,y1,y2)))) []:=by
 refine v_con [.tmp 4] [] Tryz.func158 rfl rfl rfl (by simp [Tryz.ntmps158]) ?_;intro Q0 n0 r0;simp only [Tryz.ntmps158,envFrom,Nat.reduceAdd];have T:=Tys.mk (ai Ty.t3 Ty.t164);have F:=Fc.mk True.intro;refine yR [2,3] ⟨?_⟩;refine v_seq ?_;intros;refine yR [2,3,9] ⟨?_⟩;refine v_condS _ rfl ?_ ?_
 ·intro hc0;refine yR [4] ⟨?_⟩;refine zr ⟨?_⟩;exact ret_pure rfl (by rw [decide_eq_false (by intro h;simp only [Prod.mk.injEq] at h;exact hc0 h.1)]) (.inl rfl)
 ·intro hc0;refine zn [2,3] ⟨?_⟩;refine v_seq ?_;intros;refine yR [2,3,14] ⟨?_⟩;refine v_condS _ rfl ?_ ?_
  ·intro hc1;refine yR [4] ⟨?_⟩;refine zr ⟨?_⟩;exact ret_pure rfl (by rw [decide_eq_false (by intro h;simp only [Prod.mk.injEq] at h;exact hc1 h.2.1)]) (.inl rfl)
  ·intro hc1;refine zn [2,3] ⟨?_⟩;refine v_seq ?_;intros;refine yR [19] ⟨?_⟩;refine v_condS _ rfl ?_ ?_
   ·intro hc2;refine yR [4] ⟨?_⟩;refine zr ⟨?_⟩;exact ret_pure rfl (by rw [decide_eq_false (by intro h;simp only [Prod.mk.injEq] at h;exact hc2 h.2.2)]) (.inl rfl)
   ·intro hc2;refine zn [] ⟨?_⟩;refine yR [4] ⟨?_⟩;refine zr ⟨?_⟩;exact ret_pure rfl (by rw [decide_eq_true (by rw [hc0,hc1,hc2])]) (.inl rfl)
theorem eqStreetS_con (a b:List TS) (ha:a.length≤1048576):Con Tryz.prog 96 [.sl (a.map (fun t:TS=>V.agg [V.int .i64 t.1,V.int .i64 t.2.1,V.int .i64 t.2.2])),.sl (b.map (fun t:TS=>V.agg [V.int .i64 t.1,V.int .i64 t.2.1,V.int .i64 t.2.2]))] [] (.bool (decide (a=b))) []:=by
 refine v_con [.tmp 4] [] Tryz.func96 rfl rfl rfl (by simp [Tryz.ntmps96]) ?_;intro Q0 n0 r0;simp only [Tryz.ntmps96,envFrom,Nat.reduceAdd];have T:=Tys.mk (ai Ty.t3 (ai Ty.t4 (ai Ty.t70 Ty.t164)));have F:=Fc.mk True.intro;refine yR [0,1] ⟨?_⟩;refine v_seq ?_;intros;refine yR [0,1,10] ⟨?_⟩;refine v_condS _ rfl ?_ ?_
 ·intro hc0;refine yR [4] ⟨?_⟩;refine zr ⟨?_⟩;exact ret_pure rfl (by rw [decide_eq_false (fun h=>by subst h;simp at hc0)]) (.inl rfl)
 ·intro hc0;have hab:a.length=b.length:=by omega
  refine zn [0,1] ⟨?_⟩;refine v_seq ?_;intros;refine yR [0,1,5] ⟨?_⟩;refine v_block ?_;intros;refine v_loop (fun i=>⟨[(0,.sl (a.map (fun t:TS=>V.agg [V.int .i64 t.1,V.int .i64 t.2.1,V.int .i64 t.2.2]))),(1,.sl (b.map (fun t:TS=>V.agg [V.int .i64 t.1,V.int .i64 t.2.1,V.int .i64 t.2.2]))),(5,.int .i64 (Nat.cast i))],[],false,27,0⟩) (fun i=>i≤a.length∧((a=b)↔(a.drop i=b.drop i))) (fun i=>a.length - i) 0 ?_ ?_ ?_
  ·refine weak_of [0,1,5] ?_;simp only [keep_mk,keepE_nil,keepE_cons,look_cons,look_nil,Nat.reduceEqDiff,reduceIte];rfl
  ·exact ⟨qld _,by simp⟩
  ·rintro i hok9 Q9 n9 e9 r9;obtain ⟨hi1,hR⟩:=hok9;refine v_seq ?_;intros;refine yR [0,1,5,14] ⟨?_⟩;refine v_condS _ rfl ?_ ?_
   ·intro hc1;have hlt:i < a.length:=by omega
    obtain ⟨⟨x0,x1,x2⟩,hx⟩:∃x:TS,a[i]? =some x:=⟨a[i]'(by omega),qla (by omega)⟩;obtain ⟨⟨y0,y1,y2⟩,hy⟩:∃x:TS,b[i]? =some x:=⟨b[i]'(by omega),qla (by omega)⟩;have hstep:=eq_drop hab hx hy;refine zn [0,1,5] ⟨?_⟩;refine v_seq ?_;intros;refine v_block ?_;intros;refine v_seq ?_;intro Q15 n15 e15 r15;refine v_draw (by kernel_rfl) ?_;intro K16 q16 k16;show aAny _ _ _ _ 10 (Array.replicate 10 false) _;have F:=Fc.mk (ai (gdm hx) (gdm hy));refine zdMove q16 true 0 17 ?_;refine zdMove q16 true 1 18 ?_;refine zdIndexAddr q16 true 2 19 ?_;refine zdLoad q16 true 3 20 ?_;refine zdMove q16 true 4 21 ?_;refine zdMove q16 true 5 22 ?_;refine zdIndexAddr q16 true 6 23 ?_;refine zdLoad q16 true 7 24 ?_;refine zoc 8 (eqStreet_con x0 x1 x2 y0 y1 y2) ⟨?_⟩;refine zdUnOp q16 true 9 26 ?_;refine aAny_done (by kernel_rfl) ?_;refine k16 _ ?_;refine n15 _ _ (weak_keep [0,1,5,26] _) ?_;refine zk ⟨?_⟩;refine v_condS _ rfl ?_ ?_
    ·intro hc2;refine yR [4] ⟨?_⟩;refine zr ⟨?_⟩;exact ret_pure rfl (by rw [decide_eq_false (fun h=>hc2 (hstep.1 (hR.1 h)).1)]) (.inl rfl)
    ·intro hc2;refine zn [0,1,5] ⟨?_⟩;refine yV ⟨?_⟩;refine n9 _ (i+1) ?_ ?_ ?_
     ·refine weak_of [0,1,5] ?_;simp only [keep_mk,keepE_nil,keepE_cons,look_cons,look_nil,Nat.reduceEqDiff,reduceIte];rfl
     ·exact ⟨by omega,hR.trans (hstep.trans ⟨fun h=>h.2,fun h=>⟨hc2,h⟩⟩)⟩
     ·show _ < _;omega
   ·intro hc1;refine zn [] ⟨?_⟩;refine yR [4] ⟨?_⟩;refine zr ⟨?_⟩;exact ret_pure rfl (by rw [decide_eq_true (hR.2 (by rw [qle (by omega),qle (by omega)]))]) (.inl rfl)
def szAppliance1 (n:Int) (t:TA):Int:=(if (n - (t.1.size:Int)) < 0 then -1 else (n - (t.1.size:Int)))
theorem szAppliance1_le (n:Int) (t:TA) (hn:0≤n):szAppliance1 n t≤n:=by
  unfold szAppliance1;repeat' split
  all_goals omega
theorem szAppliance_con (x0:ByteArray) (x1:Int) (x2:Int) (x3:Int) (x4:Int) (n:Int) (hn:0≤n∧n≤1048576) (hs0:x0.size≤9223372036854775807):Con Tryz.prog 117 [.agg [V.str x0,V.int .i64 x1,V.int .i64 x2,V.int .i64 x3,V.int .i64 x4],.int .i64 n] [] (.int .i64 (szAppliance1 n (x0,x1,x2,x3,x4))) []:=by
 refine v_con [.tmp 4] [] Tryz.func117 rfl rfl rfl (by simp [Tryz.ntmps117]) ?_;intro Q0 n0 r0;simp only [Tryz.ntmps117,envFrom,Nat.reduceAdd];have T:=Tys.mk (ai Ty.t3 (ai Ty.t9 Ty.t145));have F:=Fc.mk True.intro;refine yR [1,2] ⟨?_⟩;refine yR [1] ⟨?_⟩;refine v_seq ?_;intros;refine yR [1,11] ⟨?_⟩;refine v_condS _ rfl ?_ ?_
 ·intro hc0;refine yR [4] ⟨?_⟩;refine zr ⟨?_⟩;exact ret_pure rfl (by simp only [szAppliance1];repeat (first | rw [if_pos (by omega)] | rw [if_neg (by omega)])) (.inl rfl)
 ·intro hc0;refine zn [1] ⟨?_⟩;refine yR [4] ⟨?_⟩;refine zr ⟨?_⟩;exact ret_pure rfl (by simp only [szAppliance1];repeat (first | rw [if_pos (by omega)] | rw [if_neg (by omega)])) (.inl rfl)
theorem szApplianceS_con (n:Int) (ll:List TA) (hn:0≤n∧n≤1048576) (hl:ll.length≤9223372036854775807) (hls:∀t∈ll,t.1.size≤9223372036854775807):Con Tryz.prog 76 [.sl (ll.map (fun t:TA=>V.agg [V.str t.1,V.int .i64 t.2.1,V.int .i64 t.2.2.1,V.int .i64 t.2.2.2.1,V.int .i64 t.2.2.2.2])),.int .i64 n] [] (.int .i64 (if n - ll.length < 0 then -1 else szLst szAppliance1 (n - ll.length) ll)) []:=by
 refine v_con [.tmp 4] [] Tryz.func76 rfl rfl rfl (by simp [Tryz.ntmps76]) ?_;intro Q0 n0 r0;simp only [Tryz.ntmps76,envFrom,Nat.reduceAdd];have T:=Tys.mk (ai Ty.t3 (ai Ty.t9 (ai Ty.t54 Ty.t145)));have F:=Fc.mk True.intro;refine yR [0,1] ⟨?_⟩;refine yR [0,1] ⟨?_⟩;refine v_seq ?_;intros;refine yR [0,1,11] ⟨?_⟩;refine v_condS _ rfl ?_ ?_
 ·intro hc0;refine yR [4] ⟨?_⟩;refine zr ⟨?_⟩;exact ret_pure rfl (by rw [if_pos (by omega)]) (.inl rfl)
 ·intro hc0;refine zn [0,1] ⟨?_⟩;refine v_seq ?_;intros;refine yR [0,1,5] ⟨?_⟩;refine v_block ?_;intros;refine v_loop (fun p=>⟨[(0,.sl (ll.map (fun t:TA=>V.agg [V.str t.1,V.int .i64 t.2.1,V.int .i64 t.2.2.1,V.int .i64 t.2.2.2.1,V.int .i64 t.2.2.2.2]))),(1,.int .i64 p.2),(5,.int .i64 (Nat.cast p.1))],[],false,27,0⟩) (fun p=>p.1≤ll.length∧0≤p.2∧p.2≤1048576∧szLst szAppliance1 p.2 (ll.drop p.1)=szLst szAppliance1 (n - ll.length) ll) (fun p=>ll.length - p.1) (0,n - ll.length) ?_ ?_ ?_
  ·refine weak_of [0,1,5] ?_;simp only [keep_mk,keepE_nil,keepE_cons,look_cons,look_nil,Nat.reduceEqDiff,reduceIte];rfl
  ·exact ⟨qld _,by omega,by omega,by simp⟩
  ·rintro ⟨i,m⟩ hok10 Q10 n10 e10 r10;obtain ⟨hi1,hm0,hm1,hR⟩:=hok10;simp only [] at hi1 hm0 hm1 hR⊢;refine v_seq ?_;intros;refine yR [0,1,5,15] ⟨?_⟩;refine v_condS _ rfl ?_ ?_
   ·intro hc1;have hlt:i < ll.length:=by omega
    obtain ⟨⟨x0,x1,x2,x3,x4⟩,hx⟩:∃x:TA,ll[i]? =some x:=⟨ll[i]'(by omega),qla (by omega)⟩;have hlx:=hls _ (qlb hx);have hstep:szLst szAppliance1 m (ll.drop i)=if szAppliance1 m (x0,x1,x2,x3,x4) < 0 then -1 else szLst szAppliance1 (szAppliance1 m (x0,x1,x2,x3,x4)) (ll.drop (i+1)):=by rw [getElem_drop_cons hx,szLst]
    have hzle:=szAppliance1_le m (x0,x1,x2,x3,x4) hm0;refine zn [0,1,5] ⟨?_⟩;refine v_seq ?_;intros;refine v_block ?_;intros;have F:=Fc.mk (gdm hx);refine yRc [0,1,5] (szAppliance_con x0 x1 x2 x3 x4 m ⟨hm0,hm1⟩ (hlx)) ⟨?_⟩;refine yR [0,1,5,25] ⟨?_⟩;refine v_condS _ rfl ?_ ?_
    ·intro hc2;refine yR [4] ⟨?_⟩;refine zr ⟨?_⟩;exact ret_pure rfl (by rw [if_neg (by omega),←hR,hstep,if_pos hc2]) (.inl rfl)
    ·intro hc2;refine zn [0,1,5] ⟨?_⟩;refine yV ⟨?_⟩;refine n10 _ (i+1,szAppliance1 m (x0,x1,x2,x3,x4)) ?_ ?_ ?_
     ·refine weak_of [0,1,5] ?_;simp only [keep_mk,keepE_nil,keepE_cons,look_cons,look_nil,Nat.reduceEqDiff,reduceIte];rfl
     ·exact ⟨by simp only [];omega,by simp only [];omega,by simp only [];omega,by simp only [];rw [←hR,hstep,if_neg (by omega)]⟩
     ·show _ < _;simp only [];omega
   ·intro hc1;refine zn [1] ⟨?_⟩;refine yR [4] ⟨?_⟩;refine zr ⟨?_⟩;exact ret_pure rfl (by rw [if_neg (by omega),←hR,qle (by omega)];rfl) (.inl rfl)
theorem toAppliance_con (x0:ByteArray) (x1:Int) (x2:Int) (x3:Int) (x4:Int):Con Tryz.prog 133 [.agg [V.str x0,V.int .i64 x1,V.int .i64 x2,V.int .i64 x3,V.int .i64 x4]] [] (.agg [V.str x0,V.int .i64 x1,V.int .i64 x2,V.int .i64 x3,V.int .i64 x4]) []:=by
 refine v_con [.cell 2 156] [] Tryz.func133 rfl rfl rfl (by simp [Tryz.ntmps133]) ?_;intro Q0 n0 r0;simp only [Tryz.ntmps133,envFrom,Nat.reduceAdd];have T:=Tys.mk (ai Ty.t3 (ai Ty.t9 (ai Ty.t145 Ty.t156)));have F:=Fc.mk True.intro;refine yR [1,2] ⟨?_⟩;refine yR [1,2,3] ⟨?_⟩;refine yR [1,2,3] ⟨?_⟩;refine yR [1,2,3] ⟨?_⟩;refine yR [1,2,3] ⟨?_⟩;refine yR [1,2,3] ⟨?_⟩;refine yR [2,3] ⟨?_⟩;refine yR [2] ⟨?_⟩;refine zq1 ⟨?_⟩;exact ret_pure rfl (by first | rfl | simp) (.inl rfl)
theorem toApplianceS_con (l:List TA) (hl:l.length≤1048576):Con Tryz.prog 83 [.sl (l.map (fun t:TA=>V.agg [V.str t.1,V.int .i64 t.2.1,V.int .i64 t.2.2.1,V.int .i64 t.2.2.2.1,V.int .i64 t.2.2.2.2]))] [] (.ref 0) [.arr (l.map (fun t:TA=>V.agg [V.str t.1,V.int .i64 t.2.1,V.int .i64 t.2.2.1,V.int .i64 t.2.2.2.1,V.int .i64 t.2.2.2.2])) .flat]:=by
 refine v_con [.tmp 2] [] Tryz.func83 rfl rfl rfl (by simp [Tryz.ntmps83]) ?_;intro Q0 n0 r0;simp only [Tryz.ntmps83,envFrom,Nat.reduceAdd];have T:=Tys.mk (ai Ty.t3 (ai Ty.t9 (ai Ty.t54 (ai Ty.t63 (ai Ty.t145 Ty.t156)))));have F:=Fc.mk True.intro;refine yR [0] ⟨?_⟩;refine yR [0,3] ⟨?_⟩;refine v_seq ?_;intros;refine yR [0,3,4] ⟨?_⟩;refine v_block ?_;intros;refine v_loop (fun i=>⟨[(0,.sl (l.map (fun t:TA=>V.agg [V.str t.1,V.int .i64 t.2.1,V.int .i64 t.2.2.1,V.int .i64 t.2.2.2.1,V.int .i64 t.2.2.2.2]))),(3,.ref 0),(4,.int .i64 (Nat.cast i))],[.arr (fillTo (fun t:TA=>V.agg [V.str t.1,V.int .i64 t.2.1,V.int .i64 t.2.2.1,V.int .i64 t.2.2.2.1,V.int .i64 t.2.2.2.2]) (V.agg [V.str .empty,V.int .i64 0,V.int .i64 0,V.int .i64 0,V.int .i64 0]) l i) .flat],false,23,0⟩) (fun i=>i≤l.length) (fun i=>l.length - i) 0 ?_ ?_ ?_
 ·refine weak_bothS [0,3,4] [1] ⟨?_⟩;rw [fill_zero];rfl
 ·exact qld _
 ·rintro i hok6 Q6 n6 e6 r6;have hi1:i≤l.length:=hok6;refine v_seq ?_;intros;refine yR [0,3,4,11] ⟨?_⟩;refine v_condS _ rfl ?_ ?_
  ·intro hc0;have hlt:i < l.length:=by omega
   obtain ⟨⟨x0,x1,x2,x3,x4⟩,hx⟩:∃x:TA,l[i]? =some x:=⟨l[i]'(by omega),qla (by omega)⟩;refine zn [0,3,4] ⟨?_⟩;refine v_seq ?_;intros;refine v_block ?_;intros;have F:=Fc.mk (ai (gdm hx) (ai (fun f z=>fill_len (f:=f) (z:=z) hi1) (ai (fun f z=>fill_get (f:=f) (z:=z) hlt) (fun f z=>fill_set (f:=f) (z:=z) hx))));refine yQc [0,3,4] (toAppliance_con x0 x1 x2 x3 x4) ⟨?_⟩;refine yV ⟨?_⟩;refine n6 _ (i+1) ?_ ?_ ?_
   ·refine weak_bothS [0,3,4] [0] ⟨?_⟩;rfl
   ·exact hlt
   ·show _ < _;omega
  ·intro hc0;refine zn [3] ⟨?_⟩;refine yR [2] ⟨?_⟩;refine zr ⟨?_⟩;rw [←fill_end (f:=(fun t:TA=>V.agg [V.str t.1,V.int .i64 t.2.1,V.int .i64 t.2.2.1,V.int .i64 t.2.2.2.1,V.int .i64 t.2.2.2.2])) (z:=(V.agg [V.str .empty,V.int .i64 0,V.int .i64 0,V.int .i64 0,V.int .i64 0])) (show l.length≤i by omega)];exact ret_ref rfl (.inl rfl)
theorem eqAppliance_con (x0:ByteArray) (x1:Int) (x2:Int) (x3:Int) (x4:Int) (y0:ByteArray) (y1:Int) (y2:Int) (y3:Int) (y4:Int):Con Tryz.prog 155 [.agg [V.str x0,V.int .i64 x1,V.int .i64 x2,V.int .i64 x3,V.int .i64 x4],.agg [V.str y0,V.int .i64 y1,V.int .i64 y2,V.int .i64 y3,V.int .i64 y4]] [] (.bool (decide ((x0,x1,x2,x3,x4)=(y0,y1,y2,y3,y4)))) []:=by
 refine v_con [.tmp 4] [] Tryz.func155 rfl rfl rfl (by simp [Tryz.ntmps155]) ?_;intro Q0 n0 r0;simp only [Tryz.ntmps155,envFrom,Nat.reduceAdd];have T:=Tys.mk (ai Ty.t3 (ai Ty.t9 Ty.t156));have F:=Fc.mk True.intro;refine yR [2,3] ⟨?_⟩;refine v_seq ?_;intros;refine yR [2,3,9] ⟨?_⟩;refine v_condS _ rfl ?_ ?_
 ·intro hc0;refine yR [4] ⟨?_⟩;refine zr ⟨?_⟩;exact ret_pure rfl (by rw [decide_eq_false (by intro h;simp only [Prod.mk.injEq] at h;exact hc0 h.1)]) (.inl rfl)
 ·intro hc0;refine zn [2,3] ⟨?_⟩;refine v_seq ?_;intros;refine yR [2,3,14] ⟨?_⟩;refine v_condS _ rfl ?_ ?_
  ·intro hc1;refine yR [4] ⟨?_⟩;refine zr ⟨?_⟩;exact ret_pure rfl (by rw [decide_eq_false (by intro h;simp only [Prod.mk.injEq] at h;exact hc1 h.2.1)]) (.inl rfl)
  ·intro hc1;refine zn [2,3] ⟨?_⟩;refine v_seq ?_;intros;refine yR [2,3,19] ⟨?_⟩;refine v_condS _ rfl ?_ ?_
   ·intro hc2;refine yR [4] ⟨?_⟩;refine zr ⟨?_⟩;exact ret_pure rfl (by rw [decide_eq_false (by intro h;simp only [Prod.mk.injEq] at h;exact hc2 h.2.2.1)]) (.inl rfl)
   ·intro hc2;refine zn [2,3] ⟨?_⟩;refine v_seq ?_;intros;refine yR [2,3,24] ⟨?_⟩;refine v_condS _ rfl ?_ ?_
    ·intro hc3;refine yR [4] ⟨?_⟩;refine zr ⟨?_⟩;exact ret_pure rfl (by rw [decide_eq_false (by intro h;simp only [Prod.mk.injEq] at h;exact hc3 h.2.2.2.1)]) (.inl rfl)
    ·intro hc3;refine zn [2,3] ⟨?_⟩;refine v_seq ?_;intros;refine yR [29] ⟨?_⟩;refine v_condS _ rfl ?_ ?_
     ·intro hc4;refine yR [4] ⟨?_⟩;refine zr ⟨?_⟩;exact ret_pure rfl (by rw [decide_eq_false (by intro h;simp only [Prod.mk.injEq] at h;exact hc4 h.2.2.2.2)]) (.inl rfl)
     ·intro hc4;refine zn [] ⟨?_⟩;refine yR [4] ⟨?_⟩;refine zr ⟨?_⟩;exact ret_pure rfl (by rw [decide_eq_true (by rw [hc0,hc1,hc2,hc3,hc4])]) (.inl rfl)
theorem eqApplianceS_con (a b:List TA) (ha:a.length≤1048576):Con Tryz.prog 93 [.sl (a.map (fun t:TA=>V.agg [V.str t.1,V.int .i64 t.2.1,V.int .i64 t.2.2.1,V.int .i64 t.2.2.2.1,V.int .i64 t.2.2.2.2])),.sl (b.map (fun t:TA=>V.agg [V.str t.1,V.int .i64 t.2.1,V.int .i64 t.2.2.1,V.int .i64 t.2.2.2.1,V.int .i64 t.2.2.2.2]))] [] (.bool (decide (a=b))) []:=by
 refine v_con [.tmp 4] [] Tryz.func93 rfl rfl rfl (by simp [Tryz.ntmps93]) ?_;intro Q0 n0 r0;simp only [Tryz.ntmps93,envFrom,Nat.reduceAdd];have T:=Tys.mk (ai Ty.t3 (ai Ty.t4 (ai Ty.t9 (ai Ty.t63 Ty.t156))));have F:=Fc.mk True.intro;refine yR [0,1] ⟨?_⟩;refine v_seq ?_;intros;refine yR [0,1,10] ⟨?_⟩;refine v_condS _ rfl ?_ ?_
 ·intro hc0;refine yR [4] ⟨?_⟩;refine zr ⟨?_⟩;exact ret_pure rfl (by rw [decide_eq_false (fun h=>by subst h;simp at hc0)]) (.inl rfl)
 ·intro hc0;have hab:a.length=b.length:=by omega
  refine zn [0,1] ⟨?_⟩;refine v_seq ?_;intros;refine yR [0,1,5] ⟨?_⟩;refine v_block ?_;intros;refine v_loop (fun i=>⟨[(0,.sl (a.map (fun t:TA=>V.agg [V.str t.1,V.int .i64 t.2.1,V.int .i64 t.2.2.1,V.int .i64 t.2.2.2.1,V.int .i64 t.2.2.2.2]))),(1,.sl (b.map (fun t:TA=>V.agg [V.str t.1,V.int .i64 t.2.1,V.int .i64 t.2.2.1,V.int .i64 t.2.2.2.1,V.int .i64 t.2.2.2.2]))),(5,.int .i64 (Nat.cast i))],[],false,27,0⟩) (fun i=>i≤a.length∧((a=b)↔(a.drop i=b.drop i))) (fun i=>a.length - i) 0 ?_ ?_ ?_
  ·refine weak_of [0,1,5] ?_;simp only [keep_mk,keepE_nil,keepE_cons,look_cons,look_nil,Nat.reduceEqDiff,reduceIte];rfl
  ·exact ⟨qld _,by simp⟩
  ·rintro i hok9 Q9 n9 e9 r9;obtain ⟨hi1,hR⟩:=hok9;refine v_seq ?_;intros;refine yR [0,1,5,14] ⟨?_⟩;refine v_condS _ rfl ?_ ?_
   ·intro hc1;have hlt:i < a.length:=by omega
    obtain ⟨⟨x0,x1,x2,x3,x4⟩,hx⟩:∃x:TA,a[i]? =some x:=⟨a[i]'(by omega),qla (by omega)⟩;obtain ⟨⟨y0,y1,y2,y3,y4⟩,hy⟩:∃x:TA,b[i]? =some x:=⟨b[i]'(by omega),qla (by omega)⟩;have hstep:=eq_drop hab hx hy;refine zn [0,1,5] ⟨?_⟩;refine v_seq ?_;intros;refine v_block ?_;intros;refine v_seq ?_;intro Q15 n15 e15 r15;refine v_draw (by kernel_rfl) ?_;intro K16 q16 k16;show aAny _ _ _ _ 10 (Array.replicate 10 false) _;have F:=Fc.mk (ai (gdm hx) (gdm hy));refine zdMove q16 true 0 17 ?_;refine zdMove q16 true 1 18 ?_;refine zdIndexAddr q16 true 2 19 ?_;refine zdLoad q16 true 3 20 ?_;refine zdMove q16 true 4 21 ?_;refine zdMove q16 true 5 22 ?_;refine zdIndexAddr q16 true 6 23 ?_;refine zdLoad q16 true 7 24 ?_;refine zoc 8 (eqAppliance_con x0 x1 x2 x3 x4 y0 y1 y2 y3 y4) ⟨?_⟩;refine zdUnOp q16 true 9 26 ?_;refine aAny_done (by kernel_rfl) ?_;refine k16 _ ?_;refine n15 _ _ (weak_keep [0,1,5,26] _) ?_;refine zk ⟨?_⟩;refine v_condS _ rfl ?_ ?_
    ·intro hc2;refine yR [4] ⟨?_⟩;refine zr ⟨?_⟩;exact ret_pure rfl (by rw [decide_eq_false (fun h=>hc2 (hstep.1 (hR.1 h)).1)]) (.inl rfl)
    ·intro hc2;refine zn [0,1,5] ⟨?_⟩;refine yV ⟨?_⟩;refine n9 _ (i+1) ?_ ?_ ?_
     ·refine weak_of [0,1,5] ?_;simp only [keep_mk,keepE_nil,keepE_cons,look_cons,look_nil,Nat.reduceEqDiff,reduceIte];rfl
     ·exact ⟨by omega,hR.trans (hstep.trans ⟨fun h=>h.2,fun h=>⟨hc2,h⟩⟩)⟩
     ·show _ < _;omega
   ·intro hc1;refine zn [] ⟨?_⟩;refine yR [4] ⟨?_⟩;refine zr ⟨?_⟩;exact ret_pure rfl (by rw [decide_eq_true (hR.2 (by rw [qle (by omega),qle (by omega)]))]) (.inl rfl)
end Go.Proofs.YtmhaafinhpopmaaGreatDoor
