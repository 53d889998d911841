/- What functions compute. No condition. -/
import Derived.Test.YtmhaafinhpopmaaGreatDoorX11
set_option linter.unusedSimpArgs false
set_option linter.unusedVariables false
set_option linter.defProp false
namespace Go.Proofs.YtmhaafinhpopmaaGreatDoor
open Go Go.Vm
set_option maxHeartbeats 8000000
def szIncident1 (n:Int) (t:TI):Int:=szSL n t.2.2.2
theorem szIncident1_le (n:Int) (t:TI) (hn:0≤n):szIncident1 n t≤n:=szSL_le hn
theorem szIncident_lens {n:Int} {l:List TI} (hn:0≤n) (h:0≤szLst szIncident1 n l):∀t∈l,(t.2.2.2.length:Int)≤n:=
  szLst_le (f:=szIncident1) (g:=fun t=>(t.2.2.2.length:Int)) (fun n x h0 h1=>⟨szSL_len h1,szIncident1_le n x h0⟩) hn h
theorem szIncident_con (x0:Int) (x1:Int) (x2:Bool) (x3:List ByteArray) (n:Int) (hn:0≤n∧n≤1048576) (hlx:x3.length≤9223372036854775807) (hlxs:∀s∈x3,s.size≤9223372036854775807):Con Tryz.prog 118 [.agg [V.int .i64 x0,V.int .i64 x1,V.bool x2,V.sl (x3.map V.str)],.int .i64 n] [] (.int .i64 (szIncident1 n (x0,x1,x2,x3))) []:=by
 refine v_con [.tmp 4] [] Tryz.func118 rfl rfl rfl (by simp [Tryz.ntmps118]) ?_;intro Q0 n0 r0;simp only [Tryz.ntmps118,envFrom,Nat.reduceAdd];have T:=Tys.mk (ai Ty.t3 (ai Ty.t4 (ai Ty.t9 (ai Ty.t59 Ty.t148))));have F:=Fc.mk True.intro;refine yR [1,2] ⟨?_⟩;refine yRc [1] ((szStringS_con n x3 hn hlx hlxs:Con _ _ _ _ (.int .i64 (szSL n x3)) _)) ⟨?_⟩;refine v_seq ?_;intros;refine yR [1,10] ⟨?_⟩;refine v_condS _ rfl ?_ ?_
 ·intro hc0;refine yR [4] ⟨?_⟩;refine zr ⟨?_⟩;exact ret_pure rfl (by rw [show szIncident1 n (x0,x1,x2,x3)=-1 from szSL_neg hc0]) (.inl rfl)
 ·intro hc0;refine zn [1] ⟨?_⟩;refine yR [4] ⟨?_⟩;refine zr ⟨?_⟩;exact ret_pure rfl rfl (.inl rfl)
theorem szIncidentS_con (n:Int) (ll:List TI) (hn:0≤n∧n≤1048576) (hl:ll.length≤9223372036854775807) (hls:∀t∈ll,t.2.2.2.length≤9223372036854775807∧∀s∈t.2.2.2,s.size≤9223372036854775807):Con Tryz.prog 77 [.sl (ll.map (fun t:TI=>V.agg [V.int .i64 t.1,V.int .i64 t.2.1,V.bool t.2.2.1,V.sl (t.2.2.2.map V.str)])),.int .i64 n] [] (.int .i64 (if n - ll.length < 0 then -1 else szLst szIncident1 (n - ll.length) ll)) []:=by
 refine v_con [.tmp 4] [] Tryz.func77 rfl rfl rfl (by simp [Tryz.ntmps77]) ?_;intro Q0 n0 r0;simp only [Tryz.ntmps77,envFrom,Nat.reduceAdd];have T:=Tys.mk (ai Ty.t3 (ai Ty.t4 (ai Ty.t9 (ai Ty.t55 (ai Ty.t59 Ty.t148)))));have F:=Fc.mk True.intro;refine yR [0,1] ⟨?_⟩;refine yR [0,1] ⟨?_⟩;refine v_seq ?_;intros;refine yR [0,1,11] ⟨?_⟩;refine v_condS _ rfl ?_ ?_
 ·intro hc0;refine yR [4] ⟨?_⟩;refine zr ⟨?_⟩;exact ret_pure rfl (by rw [if_pos (by omega)]) (.inl rfl)
 ·intro hc0;refine zn [0,1] ⟨?_⟩;refine v_seq ?_;intros;refine yR [0,1,5] ⟨?_⟩;refine v_block ?_;intros;refine v_loop (fun p=>⟨[(0,.sl (ll.map (fun t:TI=>V.agg [V.int .i64 t.1,V.int .i64 t.2.1,V.bool t.2.2.1,V.sl (t.2.2.2.map V.str)]))),(1,.int .i64 p.2),(5,.int .i64 (Nat.cast p.1))],[],false,27,0⟩) (fun p=>p.1≤ll.length∧0≤p.2∧p.2≤1048576∧szLst szIncident1 p.2 (ll.drop p.1)=szLst szIncident1 (n - ll.length) ll) (fun p=>ll.length - p.1) (0,n - ll.length) ?_ ?_ ?_
  ·refine weak_of [0,1,5] ?_;simp only [keep_mk,keepE_nil,keepE_cons,look_cons,look_nil,Nat.reduceEqDiff,reduceIte];rfl
  ·exact ⟨qld _,by omega,by omega,by simp⟩
  ·rintro ⟨i,m⟩ hok10 Q10 n10 e10 r10;obtain ⟨hi1,hm0,hm1,hR⟩:=hok10;simp only [] at hi1 hm0 hm1 hR⊢;refine v_seq ?_;intros;refine yR [0,1,5,15] ⟨?_⟩;refine v_condS _ rfl ?_ ?_
   ·intro hc1;have hlt:i < ll.length:=by omega
    obtain ⟨⟨x0,x1,x2,x3⟩,hx⟩:∃x:TI,ll[i]? =some x:=⟨ll[i]'(by omega),qla (by omega)⟩;have hlx:=hls _ (qlb hx);simp only [] at hlx;have hstep:szLst szIncident1 m (ll.drop i)=if szIncident1 m (x0,x1,x2,x3) < 0 then -1 else szLst szIncident1 (szIncident1 m (x0,x1,x2,x3)) (ll.drop (i+1)):=by rw [getElem_drop_cons hx,szLst]
    have hzle:=szIncident1_le m (x0,x1,x2,x3) hm0;refine zn [0,1,5] ⟨?_⟩;refine v_seq ?_;intros;refine v_block ?_;intros;have F:=Fc.mk (gdm hx);refine yRc [0,1,5] (szIncident_con x0 x1 x2 x3 m ⟨hm0,hm1⟩ hlx.1 hlx.2) ⟨?_⟩;refine yR [0,1,5,25] ⟨?_⟩;refine v_condS _ rfl ?_ ?_
    ·intro hc2;refine yR [4] ⟨?_⟩;refine zr ⟨?_⟩;exact ret_pure rfl (by rw [if_neg (by omega),←hR,hstep,if_pos hc2]) (.inl rfl)
    ·intro hc2;refine zn [0,1,5] ⟨?_⟩;refine yV ⟨?_⟩;refine n10 _ (i+1,szIncident1 m (x0,x1,x2,x3)) ?_ ?_ ?_
     ·refine weak_of [0,1,5] ?_;simp only [keep_mk,keepE_nil,keepE_cons,look_cons,look_nil,Nat.reduceEqDiff,reduceIte];rfl
     ·exact ⟨by simp only [];omega,by simp only [];omega,by simp only [];omega,by simp only [];rw [←hR,hstep,if_neg (by omega)]⟩
     ·show _ < _;simp only [];omega
   ·intro hc1;refine zn [1] ⟨?_⟩;refine yR [4] ⟨?_⟩;refine zr ⟨?_⟩;exact ret_pure rfl (by rw [if_neg (by omega),←hR,qle (by omega)];rfl) (.inl rfl)
theorem toIncident_con (x0:Int) (x1:Int) (x2:Bool) (x3:List ByteArray) (hlx:x3.length≤1048576):Con Tryz.prog 134 [.agg [V.int .i64 x0,V.int .i64 x1,V.bool x2,V.sl (x3.map V.str)]] [] (.agg [V.int .i64 x0,V.int .i64 x1,V.bool x2,.ref 0]) [.arr (x3.map V.str) .flat]:=by
 refine v_con [.cell 2 154] [] Tryz.func134 rfl rfl rfl (by simp [Tryz.ntmps134]) ?_;intro Q0 n0 r0;simp only [Tryz.ntmps134,envFrom,Nat.reduceAdd];have T:=Tys.mk (ai Ty.t3 (ai Ty.t4 (ai Ty.t9 (ai Ty.t59 (ai Ty.t148 Ty.t154)))));have F:=Fc.mk True.intro;refine yR [1,2] ⟨?_⟩;refine yR [1,2,3] ⟨?_⟩;refine yR [1,2,3] ⟨?_⟩;refine yR [1,2,3] ⟨?_⟩;refine yR [1,2,3] ⟨?_⟩;refine yRc [2,3] (toStringS_con x3 hlx) ⟨?_⟩;refine yR [2] ⟨?_⟩;refine zq1 ⟨?_⟩;exact ret_gen [5] rfl rfl (by decide) rfl (by simp) (by simp [Blk.kindIs]) rfl
theorem toIncidentS_con (l:List TI) (hl:l.length≤1048576) (hls:∀t∈l,t.2.2.2.length≤1048576):Con Tryz.prog 84 [.sl (l.map (fun t:TI=>V.agg [V.int .i64 t.1,V.int .i64 t.2.1,V.bool t.2.2.1,V.sl (t.2.2.2.map V.str)]))] [] (.ref 0) [.arr (l.map (fun t:TI=>V.agg [V.int .i64 t.1,V.int .i64 t.2.1,V.bool t.2.2.1,V.sl (t.2.2.2.map V.str)])) (fillK l.length)]:=by
 refine v_con [.tmp 2] [] Tryz.func84 rfl rfl rfl (by simp [Tryz.ntmps84]) ?_;intro Q0 n0 r0;simp only [Tryz.ntmps84,envFrom,Nat.reduceAdd];have T:=Tys.mk (ai Ty.t3 (ai Ty.t4 (ai Ty.t9 (ai Ty.t55 (ai Ty.t59 (ai Ty.t64 (ai Ty.t148 Ty.t154)))))));have F:=Fc.mk True.intro;refine yR [0] ⟨?_⟩;refine yR [0,3] ⟨?_⟩;refine v_seq ?_;intros;refine yR [0,3,4] ⟨?_⟩;refine v_block ?_;intros;refine v_loop (fun i=>⟨[(0,.sl (l.map (fun t:TI=>V.agg [V.int .i64 t.1,V.int .i64 t.2.1,V.bool t.2.2.1,V.sl (t.2.2.2.map V.str)]))),(3,.ref 0),(4,.int .i64 (Nat.cast i))],[.arr (fillTo (fun t:TI=>V.agg [V.int .i64 t.1,V.int .i64 t.2.1,V.bool t.2.2.1,V.sl (t.2.2.2.map V.str)]) (V.agg [V.int .i64 0,V.int .i64 0,V.bool false,V.sl []]) l i) (fillK i)],false,23,0⟩) (fun i=>i≤l.length) (fun i=>l.length - i) 0 ?_ ?_ ?_
 ·refine weak_bothS [0,3,4] [1] ⟨?_⟩;rw [fill_zero];rfl
 ·exact qld _
 ·rintro i hok6 Q6 n6 e6 r6;have hi1:i≤l.length:=hok6;refine v_seq ?_;intros;refine yR [0,3,4,11] ⟨?_⟩;refine v_condS _ rfl ?_ ?_
  ·intro hc0;have hlt:i < l.length:=by omega
   obtain ⟨⟨x0,x1,x2,x3⟩,hx⟩:∃x:TI,l[i]? =some x:=⟨l[i]'(by omega),qla (by omega)⟩;have hlx:=hls _ (qlb hx);simp only [] at hlx;refine zn [0,3,4] ⟨?_⟩;refine v_seq ?_;intros;refine v_block ?_;intros;have F:=Fc.mk (ai (gdm hx) (ai (fun f z=>fill_len (f:=f) (z:=z) hi1) (ai (fun f z=>fill_get (f:=f) (z:=z) hlt) (fun f z=>fill_set (f:=f) (z:=z) hx))));refine yQc [0,3,4] (toIncident_con x0 x1 x2 x3 hlx) ⟨?_⟩;refine yV ⟨?_⟩;refine n6 _ (i+1) ?_ ?_ ?_
   ·refine weak_bothS [0,3,4] [0] ⟨?_⟩;rfl
   ·exact hlt
   ·show _ < _;omega
  ·intro hc0;refine zn [3] ⟨?_⟩;refine yR [2] ⟨?_⟩;refine zr ⟨?_⟩;have hend:l.length=i:=by omega
   rw [←fill_end (f:=(fun t:TI=>V.agg [V.int .i64 t.1,V.int .i64 t.2.1,V.bool t.2.2.1,V.sl (t.2.2.2.map V.str)])) (z:=(V.agg [V.int .i64 0,V.int .i64 0,V.bool false,V.sl []])) (show l.length≤i by omega),hend];exact ret_ref rfl (fillK_or _)
theorem eqIncident_con (x0:Int) (x1:Int) (x2:Bool) (x3:List ByteArray) (y0:Int) (y1:Int) (y2:Bool) (y3:List ByteArray) (hlx:x3.length≤1048576):Con Tryz.prog 156 [.agg [V.int .i64 x0,V.int .i64 x1,V.bool x2,V.sl (x3.map V.str)],.agg [V.int .i64 y0,V.int .i64 y1,V.bool y2,V.sl (y3.map V.str)]] [] (.bool (decide ((x0,x1,x2,x3)=(y0,y1,y2,y3)))) []:=by
 refine v_con [.tmp 4] [] Tryz.func156 rfl rfl rfl (by simp [Tryz.ntmps156]) ?_;intro Q0 n0 r0;simp only [Tryz.ntmps156,envFrom,Nat.reduceAdd];have T:=Tys.mk (ai Ty.t3 (ai Ty.t4 (ai Ty.t9 (ai Ty.t59 Ty.t154))));have F:=Fc.mk True.intro;refine yR [2,3] ⟨?_⟩;refine v_seq ?_;intros;refine yR [2,3,9] ⟨?_⟩;refine v_condS _ rfl ?_ ?_
 ·intro hc0;refine yR [4] ⟨?_⟩;refine zr ⟨?_⟩;exact ret_pure rfl (by rw [decide_eq_false (by intro h;simp only [Prod.mk.injEq] at h;exact hc0 h.1)]) (.inl rfl)
 ·intro hc0;refine zn [2,3] ⟨?_⟩;refine v_seq ?_;intros;refine yR [2,3,14] ⟨?_⟩;refine v_condS _ rfl ?_ ?_
  ·intro hc1;refine yR [4] ⟨?_⟩;refine zr ⟨?_⟩;exact ret_pure rfl (by rw [decide_eq_false (by intro h;simp only [Prod.mk.injEq] at h;exact hc1 h.2.1)]) (.inl rfl)
  ·intro hc1;refine zn [2,3] ⟨?_⟩;refine v_seq ?_;intros;refine yR [2,3,19] ⟨?_⟩;refine v_condS _ rfl ?_ ?_
   ·intro hc2;refine yR [4] ⟨?_⟩;refine zr ⟨?_⟩;exact ret_pure rfl (by rw [decide_eq_false (by intro h;simp only [Prod.mk.injEq] at h;have hb:=h.2.2.1;rw [hb] at hc2;simp at hc2)]) (.inl rfl)
   ·intro hc2;refine zn [2,3] ⟨?_⟩;refine v_seq ?_;intros;refine yRc [25] (eqStringS_con x3 y3 hlx) ⟨?_⟩;refine v_condS _ rfl ?_ ?_
    ·intro hc3;refine yR [4] ⟨?_⟩;refine zr ⟨?_⟩;exact ret_pure rfl (by rw [decide_eq_false (by intro h;simp only [Prod.mk.injEq] at h;(try simp at hc3);exact hc3 h.2.2.2)]) (.inl rfl)
    ·intro hc3;refine zn [] ⟨?_⟩;refine yR [4] ⟨?_⟩;refine zr ⟨?_⟩;exact ret_pure rfl (by rw [decide_eq_true (by (try simp at hc3);rw [hc0,hc1,(eq_of_beq hc2:x2=y2),hc3])]) (.inl rfl)
theorem eqIncidentS_con (a b:List TI) (ha:a.length≤1048576) (has:∀t∈a,t.2.2.2.length≤1048576):Con Tryz.prog 94 [.sl (a.map (fun t:TI=>V.agg [V.int .i64 t.1,V.int .i64 t.2.1,V.bool t.2.2.1,V.sl (t.2.2.2.map V.str)])),.sl (b.map (fun t:TI=>V.agg [V.int .i64 t.1,V.int .i64 t.2.1,V.bool t.2.2.1,V.sl (t.2.2.2.map V.str)]))] [] (.bool (decide (a=b))) []:=by
 refine v_con [.tmp 4] [] Tryz.func94 rfl rfl rfl (by simp [Tryz.ntmps94]) ?_;intro Q0 n0 r0;simp only [Tryz.ntmps94,envFrom,Nat.reduceAdd];have T:=Tys.mk (ai Ty.t3 (ai Ty.t4 (ai Ty.t9 (ai Ty.t59 (ai Ty.t64 Ty.t154)))));have F:=Fc.mk True.intro;refine yR [0,1] ⟨?_⟩;refine v_seq ?_;intros;refine yR [0,1,10] ⟨?_⟩;refine v_condS _ rfl ?_ ?_
 ·intro hc0;refine yR [4] ⟨?_⟩;refine zr ⟨?_⟩;exact ret_pure rfl (by rw [decide_eq_false (fun h=>by subst h;simp at hc0)]) (.inl rfl)
 ·intro hc0;have hab:a.length=b.length:=by omega
  refine zn [0,1] ⟨?_⟩;refine v_seq ?_;intros;refine yR [0,1,5] ⟨?_⟩;refine v_block ?_;intros;refine v_loop (fun i=>⟨[(0,.sl (a.map (fun t:TI=>V.agg [V.int .i64 t.1,V.int .i64 t.2.1,V.bool t.2.2.1,V.sl (t.2.2.2.map V.str)]))),(1,.sl (b.map (fun t:TI=>V.agg [V.int .i64 t.1,V.int .i64 t.2.1,V.bool t.2.2.1,V.sl (t.2.2.2.map V.str)]))),(5,.int .i64 (Nat.cast i))],[],false,27,0⟩) (fun i=>i≤a.length∧((a=b)↔(a.drop i=b.drop i))) (fun i=>a.length - i) 0 ?_ ?_ ?_
  ·refine weak_of [0,1,5] ?_;simp only [keep_mk,keepE_nil,keepE_cons,look_cons,look_nil,Nat.reduceEqDiff,reduceIte];rfl
  ·exact ⟨qld _,by simp⟩
  ·rintro i hok9 Q9 n9 e9 r9;obtain ⟨hi1,hR⟩:=hok9;refine v_seq ?_;intros;refine yR [0,1,5,14] ⟨?_⟩;refine v_condS _ rfl ?_ ?_
   ·intro hc1;have hlt:i < a.length:=by omega
    obtain ⟨⟨x0,x1,x2,x3⟩,hx⟩:∃x:TI,a[i]? =some x:=⟨a[i]'(by omega),qla (by omega)⟩;obtain ⟨⟨y0,y1,y2,y3⟩,hy⟩:∃x:TI,b[i]? =some x:=⟨b[i]'(by omega),qla (by omega)⟩;have hstep:=eq_drop hab hx hy;have hlx:=has _ (qlb hx);simp only [] at hlx;refine zn [0,1,5] ⟨?_⟩;refine v_seq ?_;intros;refine v_block ?_;intros;refine v_seq ?_;intro Q15 n15 e15 r15;refine v_draw (by kernel_rfl) ?_;intro K16 q16 k16;show aAny _ _ _ _ 10 (Array.replicate 10 false) _;have F:=Fc.mk (ai (gdm hx) (gdm hy));refine zdMove q16 true 0 17 ?_;refine zdMove q16 true 1 18 ?_;refine zdIndexAddr q16 true 2 19 ?_;refine zdLoad q16 true 3 20 ?_;refine zdMove q16 true 4 21 ?_;refine zdMove q16 true 5 22 ?_;refine zdIndexAddr q16 true 6 23 ?_;refine zdLoad q16 true 7 24 ?_;refine zoc 8 (eqIncident_con x0 x1 x2 x3 y0 y1 y2 y3 hlx) ⟨?_⟩;refine zdUnOp q16 true 9 26 ?_;refine aAny_done (by kernel_rfl) ?_;refine k16 _ ?_;refine n15 _ _ (weak_keep [0,1,5,26] _) ?_;refine zk ⟨?_⟩;refine v_condS _ rfl ?_ ?_
    ·intro hc2;refine yR [4] ⟨?_⟩;refine zr ⟨?_⟩;exact ret_pure rfl (by rw [decide_eq_false (fun h=>hc2 (hstep.1 (hR.1 h)).1)]) (.inl rfl)
    ·intro hc2;refine zn [0,1,5] ⟨?_⟩;refine yV ⟨?_⟩;refine n9 _ (i+1) ?_ ?_ ?_
     ·refine weak_of [0,1,5] ?_;simp only [keep_mk,keepE_nil,keepE_cons,look_cons,look_nil,Nat.reduceEqDiff,reduceIte];rfl
     ·exact ⟨by omega,hR.trans (hstep.trans ⟨fun h=>h.2,fun h=>⟨hc2,h⟩⟩)⟩
     ·show _ < _;omega
   ·intro hc1;refine zn [] ⟨?_⟩;refine yR [4] ⟨?_⟩;refine zr ⟨?_⟩;exact ret_pure rfl (by rw [decide_eq_true (hR.2 (by rw [qle (by omega),qle (by omega)]))]) (.inl rfl)
def szWant1 (n:Int) (t:TW):Int:=szS n t.2
theorem szWant1_le (n:Int) (t:TW) (hn:0≤n):szWant1 n t≤n:=szS_le hn
theorem szWant_lens {n:Int} {l:List TW} (hn:0≤n) (h:0≤szLst szWant1 n l):∀t∈l,(t.2.length:Int)≤n:=
  szLst_le (f:=szWant1) (g:=fun t=>(t.2.length:Int)) (fun n x h0 h1=>⟨szS_len h1,szWant1_le n x h0⟩) hn h
theorem szWant_con (x0:Int) (x1:List Int) (n:Int) (hn:0≤n∧n≤1048576) (hlx:x1.length≤9223372036854775807):Con Tryz.prog 119 [.agg [V.int .i64 x0,V.sl (x1.map (V.int .i64))],.int .i64 n] [] (.int .i64 (szWant1 n (x0,x1))) []:=by
 refine v_con [.tmp 4] [] Tryz.func119 rfl rfl rfl (by simp [Tryz.ntmps119]) ?_;intro Q0 n0 r0;simp only [Tryz.ntmps119,envFrom,Nat.reduceAdd];have T:=Tys.mk (ai Ty.t3 (ai Ty.t35 Ty.t151));have F:=Fc.mk True.intro;refine yR [1,2] ⟨?_⟩;refine yRc [1] ((szIntS_con n x1 hn hlx:Con _ _ _ _ (.int .i64 (szS n x1)) _)) ⟨?_⟩;refine v_seq ?_;intros;refine yR [1,10] ⟨?_⟩;refine v_condS _ rfl ?_ ?_
 ·intro hc0;refine yR [4] ⟨?_⟩;refine zr ⟨?_⟩;exact ret_pure rfl (by rw [show szWant1 n (x0,x1)=-1 from szS_neg hc0]) (.inl rfl)
 ·intro hc0;refine zn [1] ⟨?_⟩;refine yR [4] ⟨?_⟩;refine zr ⟨?_⟩;exact ret_pure rfl rfl (.inl rfl)
theorem szWantS_con (n:Int) (ll:List TW) (hn:0≤n∧n≤1048576) (hl:ll.length≤9223372036854775807) (hls:∀t∈ll,t.2.length≤9223372036854775807):Con Tryz.prog 78 [.sl (ll.map (fun t:TW=>V.agg [V.int .i64 t.1,V.sl (t.2.map (V.int .i64))])),.int .i64 n] [] (.int .i64 (if n - ll.length < 0 then -1 else szLst szWant1 (n - ll.length) ll)) []:=by
 refine v_con [.tmp 4] [] Tryz.func78 rfl rfl rfl (by simp [Tryz.ntmps78]) ?_;intro Q0 n0 r0;simp only [Tryz.ntmps78,envFrom,Nat.reduceAdd];have T:=Tys.mk (ai Ty.t3 (ai Ty.t35 (ai Ty.t56 Ty.t151)));have F:=Fc.mk True.intro;refine yR [0,1] ⟨?_⟩;refine yR [0,1] ⟨?_⟩;refine v_seq ?_;intros;refine yR [0,1,11] ⟨?_⟩;refine v_condS _ rfl ?_ ?_
 ·intro hc0;refine yR [4] ⟨?_⟩;refine zr ⟨?_⟩;exact ret_pure rfl (by rw [if_pos (by omega)]) (.inl rfl)
 ·intro hc0;refine zn [0,1] ⟨?_⟩;refine v_seq ?_;intros;refine yR [0,1,5] ⟨?_⟩;refine v_block ?_;intros;refine v_loop (fun p=>⟨[(0,.sl (ll.map (fun t:TW=>V.agg [V.int .i64 t.1,V.sl (t.2.map (V.int .i64))]))),(1,.int .i64 p.2),(5,.int .i64 (Nat.cast p.1))],[],false,27,0⟩) (fun p=>p.1≤ll.length∧0≤p.2∧p.2≤1048576∧szLst szWant1 p.2 (ll.drop p.1)=szLst szWant1 (n - ll.length) ll) (fun p=>ll.length - p.1) (0,n - ll.length) ?_ ?_ ?_
  ·refine weak_of [0,1,5] ?_;simp only [keep_mk,keepE_nil,keepE_cons,look_cons,look_nil,Nat.reduceEqDiff,reduceIte];rfl
  ·exact ⟨qld _,by omega,by omega,by simp⟩
  ·rintro ⟨i,m⟩ hok10 Q10 n10 e10 r10;obtain ⟨hi1,hm0,hm1,hR⟩:=hok10;simp only [] at hi1 hm0 hm1 hR⊢;refine v_seq ?_;intros;refine yR [0,1,5,15] ⟨?_⟩;refine v_condS _ rfl ?_ ?_
   ·intro hc1;have hlt:i < ll.length:=by omega
    obtain ⟨⟨x0,x1⟩,hx⟩:∃x:TW,ll[i]? =some x:=⟨ll[i]'(by omega),qla (by omega)⟩;have hlx:=hls _ (qlb hx);simp only [] at hlx;have hstep:szLst szWant1 m (ll.drop i)=if szWant1 m (x0,x1) < 0 then -1 else szLst szWant1 (szWant1 m (x0,x1)) (ll.drop (i+1)):=by rw [getElem_drop_cons hx,szLst]
    have hzle:=szWant1_le m (x0,x1) hm0;refine zn [0,1,5] ⟨?_⟩;refine v_seq ?_;intros;refine v_block ?_;intros;have F:=Fc.mk (gdm hx);refine yRc [0,1,5] (szWant_con x0 x1 m ⟨hm0,hm1⟩ hlx) ⟨?_⟩;refine yR [0,1,5,25] ⟨?_⟩;refine v_condS _ rfl ?_ ?_
    ·intro hc2;refine yR [4] ⟨?_⟩;refine zr ⟨?_⟩;exact ret_pure rfl (by rw [if_neg (by omega),←hR,hstep,if_pos hc2]) (.inl rfl)
    ·intro hc2;refine zn [0,1,5] ⟨?_⟩;refine yV ⟨?_⟩;refine n10 _ (i+1,szWant1 m (x0,x1)) ?_ ?_ ?_
     ·refine weak_of [0,1,5] ?_;simp only [keep_mk,keepE_nil,keepE_cons,look_cons,look_nil,Nat.reduceEqDiff,reduceIte];rfl
     ·exact ⟨by simp only [];omega,by simp only [];omega,by simp only [];omega,by simp only [];rw [←hR,hstep,if_neg (by omega)]⟩
     ·show _ < _;simp only [];omega
   ·intro hc1;refine zn [1] ⟨?_⟩;refine yR [4] ⟨?_⟩;refine zr ⟨?_⟩;exact ret_pure rfl (by rw [if_neg (by omega),←hR,qle (by omega)];rfl) (.inl rfl)
theorem toWant_con (x0:Int) (x1:List Int) (hlx:x1.length≤1048576):Con Tryz.prog 135 [.agg [V.int .i64 x0,V.sl (x1.map (V.int .i64))]] [] (.agg [V.int .i64 x0,.ref 0]) [.arr (x1.map (V.int .i64)) .flat]:=by
 refine v_con [.cell 2 158] [] Tryz.func135 rfl rfl rfl (by simp [Tryz.ntmps135]) ?_;intro Q0 n0 r0;simp only [Tryz.ntmps135,envFrom,Nat.reduceAdd];have T:=Tys.mk (ai Ty.t3 (ai Ty.t35 (ai Ty.t151 Ty.t158)));have F:=Fc.mk True.intro;refine yR [1,2] ⟨?_⟩;refine yR [1,2,3] ⟨?_⟩;refine yR [1,2,3] ⟨?_⟩;refine yRc [2,3] (toIntS_con x1 hlx) ⟨?_⟩;refine yR [2] ⟨?_⟩;refine zq1 ⟨?_⟩;exact ret_gen [5] rfl rfl (by decide) rfl (by simp) (by simp [Blk.kindIs]) rfl
theorem toWantS_con (l:List TW) (hl:l.length≤1048576) (hls:∀t∈l,t.2.length≤1048576):Con Tryz.prog 85 [.sl (l.map (fun t:TW=>V.agg [V.int .i64 t.1,V.sl (t.2.map (V.int .i64))]))] [] (.ref 0) [.arr (l.map (fun t:TW=>V.agg [V.int .i64 t.1,V.sl (t.2.map (V.int .i64))])) (fillK l.length)]:=by
 refine v_con [.tmp 2] [] Tryz.func85 rfl rfl rfl (by simp [Tryz.ntmps85]) ?_;intro Q0 n0 r0;simp only [Tryz.ntmps85,envFrom,Nat.reduceAdd];have T:=Tys.mk (ai Ty.t3 (ai Ty.t35 (ai Ty.t56 (ai Ty.t65 (ai Ty.t151 Ty.t158)))));have F:=Fc.mk True.intro;refine yR [0] ⟨?_⟩;refine yR [0,3] ⟨?_⟩;refine v_seq ?_;intros;refine yR [0,3,4] ⟨?_⟩;refine v_block ?_;intros;refine v_loop (fun i=>⟨[(0,.sl (l.map (fun t:TW=>V.agg [V.int .i64 t.1,V.sl (t.2.map (V.int .i64))]))),(3,.ref 0),(4,.int .i64 (Nat.cast i))],[.arr (fillTo (fun t:TW=>V.agg [V.int .i64 t.1,V.sl (t.2.map (V.int .i64))]) (V.agg [V.int .i64 0,V.sl []]) l i) (fillK i)],false,23,0⟩) (fun i=>i≤l.length) (fun i=>l.length - i) 0 ?_ ?_ ?_
 ·refine weak_bothS [0,3,4] [1] ⟨?_⟩;rw [fill_zero];rfl
 ·exact qld _
 ·rintro i hok6 Q6 n6 e6 r6;have hi1:i≤l.length:=hok6;refine v_seq ?_;intros;refine yR [0,3,4,11] ⟨?_⟩;refine v_condS _ rfl ?_ ?_
  ·intro hc0;have hlt:i < l.length:=by omega
   obtain ⟨⟨x0,x1⟩,hx⟩:∃x:TW,l[i]? =some x:=⟨l[i]'(by omega),qla (by omega)⟩;have hlx:=hls _ (qlb hx);simp only [] at hlx;refine zn [0,3,4] ⟨?_⟩;refine v_seq ?_;intros;refine v_block ?_;intros;have F:=Fc.mk (ai (gdm hx) (ai (fun f z=>fill_len (f:=f) (z:=z) hi1) (ai (fun f z=>fill_get (f:=f) (z:=z) hlt) (fun f z=>fill_set (f:=f) (z:=z) hx))));refine yQc [0,3,4] (toWant_con x0 x1 hlx) ⟨?_⟩;refine yV ⟨?_⟩;refine n6 _ (i+1) ?_ ?_ ?_
   ·refine weak_bothS [0,3,4] [0] ⟨?_⟩;rfl
   ·exact hlt
   ·show _ < _;omega
  ·intro hc0;refine zn [3] ⟨?_⟩;refine yR [2] ⟨?_⟩;refine zr ⟨?_⟩;have hend:l.length=i:=by omega
   rw [←fill_end (f:=(fun t:TW=>V.agg [V.int .i64 t.1,V.sl (t.2.map (V.int .i64))])) (z:=(V.agg [V.int .i64 0,V.sl []])) (show l.length≤i by omega),hend];exact ret_ref rfl (fillK_or _)
theorem eqWant_con (x0:Int) (x1:List Int) (y0:Int) (y1:List Int) (hlx:x1.length≤1048576):Con Tryz.prog 157 [.agg [V.int .i64 x0,V.sl (x1.map (V.int .i64))],.agg [V.int .i64 y0,V.sl (y1.map (V.int .i64))]] [] (.bool (decide ((x0,x1)=(y0,y1)))) []:=by
 refine v_con [.tmp 4] [] Tryz.func157 rfl rfl rfl (by simp [Tryz.ntmps157]) ?_;intro Q0 n0 r0;simp only [Tryz.ntmps157,envFrom,Nat.reduceAdd];have T:=Tys.mk (ai Ty.t3 (ai Ty.t4 (ai Ty.t35 Ty.t158)));have F:=Fc.mk True.intro;refine yR [2,3] ⟨?_⟩;refine v_seq ?_;intros;refine yR [2,3,9] ⟨?_⟩;refine v_condS _ rfl ?_ ?_
 ·intro hc0;refine yR [4] ⟨?_⟩;refine zr ⟨?_⟩;exact ret_pure rfl (by rw [decide_eq_false (by intro h;simp only [Prod.mk.injEq] at h;exact hc0 h.1)]) (.inl rfl)
 ·intro hc0;refine zn [2,3] ⟨?_⟩;refine v_seq ?_;intros;refine yRc [15] (eqIntS_con x1 y1 hlx) ⟨?_⟩;refine v_condS _ rfl ?_ ?_
  ·intro hc1;refine yR [4] ⟨?_⟩;refine zr ⟨?_⟩;exact ret_pure rfl (by rw [decide_eq_false (by intro h;simp only [Prod.mk.injEq] at h;(try simp at hc1);exact hc1 h.2)]) (.inl rfl)
  ·intro hc1;refine zn [] ⟨?_⟩;refine yR [4] ⟨?_⟩;refine zr ⟨?_⟩;exact ret_pure rfl (by rw [decide_eq_true (by (try simp at hc1);rw [hc0,hc1])]) (.inl rfl)
theorem eqWantS_con (a b:List TW) (ha:a.length≤1048576) (has:∀t∈a,t.2.length≤1048576):Con Tryz.prog 95 [.sl (a.map (fun t:TW=>V.agg [V.int .i64 t.1,V.sl (t.2.map (V.int .i64))])),.sl (b.map (fun t:TW=>V.agg [V.int .i64 t.1,V.sl (t.2.map (V.int .i64))]))] [] (.bool (decide (a=b))) []:=by
 refine v_con [.tmp 4] [] Tryz.func95 rfl rfl rfl (by simp [Tryz.ntmps95]) ?_;intro Q0 n0 r0;simp only [Tryz.ntmps95,envFrom,Nat.reduceAdd];have T:=Tys.mk (ai Ty.t3 (ai Ty.t4 (ai Ty.t35 (ai Ty.t65 Ty.t158))));have F:=Fc.mk True.intro;refine yR [0,1] ⟨?_⟩;refine v_seq ?_;intros;refine yR [0,1,10] ⟨?_⟩;refine v_condS _ rfl ?_ ?_
 ·intro hc0;refine yR [4] ⟨?_⟩;refine zr ⟨?_⟩;exact ret_pure rfl (by rw [decide_eq_false (fun h=>by subst h;simp at hc0)]) (.inl rfl)
 ·intro hc0;have hab:a.length=b.length:=by omega
  refine zn [0,1] ⟨?_⟩;refine v_seq ?_;intros;refine yR [0,1,5] ⟨?_⟩;refine v_block ?_;intros;refine v_loop (fun i=>⟨[(0,.sl (a.map (fun t:TW=>V.agg [V.int .i64 t.1,V.sl (t.2.map (V.int .i64))]))),(1,.sl (b.map (fun t:TW=>V.agg [V.int .i64 t.1,V.sl (t.2.map (V.int .i64))]))),(5,.int .i64 (Nat.cast i))],[],false,27,0⟩) (fun i=>i≤a.length∧((a=b)↔(a.drop i=b.drop i))) (fun i=>a.length - i) 0 ?_ ?_ ?_
  ·refine weak_of [0,1,5] ?_;simp only [keep_mk,keepE_nil,keepE_cons,look_cons,look_nil,Nat.reduceEqDiff,reduceIte];rfl
  ·exact ⟨qld _,by simp⟩
  ·rintro i hok9 Q9 n9 e9 r9;obtain ⟨hi1,hR⟩:=hok9;refine v_seq ?_;intros;refine yR [0,1,5,14] ⟨?_⟩;refine v_condS _ rfl ?_ ?_
   ·intro hc1;have hlt:i < a.length:=by omega
    obtain ⟨⟨x0,x1⟩,hx⟩:∃x:TW,a[i]? =some x:=⟨a[i]'(by omega),qla (by omega)⟩;obtain ⟨⟨y0,y1⟩,hy⟩:∃x:TW,b[i]? =some x:=⟨b[i]'(by omega),qla (by omega)⟩;have hstep:=eq_drop hab hx hy;have hlx:=has _ (qlb hx);simp only [] at hlx;refine zn [0,1,5] ⟨?_⟩;refine v_seq ?_;intros;refine v_block ?_;intros;refine v_seq ?_;intro Q15 n15 e15 r15;refine v_draw (by kernel_rfl) ?_;intro K16 q16 k16;show aAny _ _ _ _ 10 (Array.replicate 10 false) _;have F:=Fc.mk (ai (gdm hx) (gdm hy));refine zdMove q16 true 0 17 ?_;refine zdMove q16 true 1 18 ?_;refine zdIndexAddr q16 true 2 19 ?_;refine zdLoad q16 true 3 20 ?_;refine zdMove q16 true 4 21 ?_;refine zdMove q16 true 5 22 ?_;refine zdIndexAddr q16 true 6 23 ?_;refine zdLoad q16 true 7 24 ?_;refine zoc 8 (eqWant_con x0 x1 y0 y1 hlx) ⟨?_⟩;refine zdUnOp q16 true 9 26 ?_;refine aAny_done (by kernel_rfl) ?_;refine k16 _ ?_;refine n15 _ _ (weak_keep [0,1,5,26] _) ?_;refine zk ⟨?_⟩;refine v_condS _ rfl ?_ ?_
    ·intro hc2;refine yR [4] ⟨?_⟩;refine zr ⟨?_⟩;exact ret_pure rfl (by rw [decide_eq_false (fun h=>hc2 (hstep.1 (hR.1 h)).1)]) (.inl rfl)
    ·intro hc2;refine zn [0,1,5] ⟨?_⟩;refine yV ⟨?_⟩;refine n9 _ (i+1) ?_ ?_ ?_
     ·refine weak_of [0,1,5] ?_;simp only [keep_mk,keepE_nil,keepE_cons,look_cons,look_nil,Nat.reduceEqDiff,reduceIte];rfl
     ·exact ⟨by omega,hR.trans (hstep.trans ⟨fun h=>h.2,fun h=>⟨hc2,h⟩⟩)⟩
     ·show _ < _;omega
   ·intro hc1;refine zn [] ⟨?_⟩;refine yR [4] ⟨?_⟩;refine zr ⟨?_⟩;exact ret_pure rfl (by rw [decide_eq_true (hR.2 (by rw [qle (by omega),qle (by omega)]))]) (.inl rfl)
end Go.Proofs.YtmhaafinhpopmaaGreatDoor
