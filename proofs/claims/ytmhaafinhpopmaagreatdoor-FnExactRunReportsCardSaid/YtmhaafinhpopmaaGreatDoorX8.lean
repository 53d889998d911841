/- What functions compute. No condition. -/
import Derived.Test.YtmhaafinhpopmaaGreatDoorX6
import Derived.Test.YtmhaafinhpopmaaGreatDoorX2
set_option linter.unusedSimpArgs false
set_option linter.unusedVariables false
set_option linter.defProp false
namespace Go.Proofs.YtmhaafinhpopmaaGreatDoor
open Go Go.Vm
set_option maxHeartbeats 8000000
def szStr1 (n:Int) (s:ByteArray):Int:=if n - (s.size:Int) < 0 then -1 else n - (s.size:Int)
theorem szStr1_le (n:Int) (s:ByteArray) (hn:0≤n):szStr1 n s≤n:=by
  unfold szStr1;split<;>omega
theorem toStringS_con (l:List ByteArray) (hl:l.length≤1048576):Con Tryz.prog 34 [.sl (l.map V.str)] [] (.ref 0) [.arr (l.map V.str) .flat]:=by
 refine v_con [.tmp 2] [] Tryz.func34 rfl rfl rfl (by simp [Tryz.ntmps34]) ?_;intro Q0 n0 r0;simp only [Tryz.ntmps34,envFrom,Nat.reduceAdd];have T:=Tys.mk (ai Ty.t3 (ai Ty.t9 Ty.t59));have F:=Fc.mk True.intro;refine yR [0] ⟨?_⟩;refine yR [0,3] ⟨?_⟩;refine v_seq ?_;intros;refine yR [0,3,4] ⟨?_⟩;refine v_block ?_;intros;refine v_loop (fun i=>⟨[(0,.sl (l.map V.str)),(3,.ref 0),(4,.int .i64 (Nat.cast i))],[.arr (fillTo V.str (V.str .empty) l i) .flat],false,22,0⟩) (fun i=>i≤l.length) (fun i=>l.length - i) 0 ?_ ?_ ?_
 ·refine weak_bothS [0,3,4] [1] ⟨?_⟩;rw [fill_zero];rfl
 ·exact qld _
 ·rintro i hok6 Q6 n6 e6 r6;have hi1:i≤l.length:=hok6;refine v_seq ?_;intros;refine yR [0,3,4,11] ⟨?_⟩;refine v_condS _ rfl ?_ ?_
  ·intro hc0;have hlt:i < l.length:=by omega
   obtain ⟨x,hx⟩:∃x,l[i]? =some x:=⟨l[i],qla hlt⟩;refine zn [0,3,4] ⟨?_⟩;refine v_seq ?_;intros;refine v_block ?_;intros;have F:=Fc.mk (ai (gdm hx) (ai (fun f z=>fill_len (f:=f) (z:=z) hi1) (ai (fun f z=>fill_get (f:=f) (z:=z) hlt) (fun f z=>fill_set (f:=f) (z:=z) hx))));refine yQ [0,3,4] ⟨?_⟩;refine yV ⟨?_⟩;refine n6 _ (i+1) ?_ ?_ ?_
   ·refine weak_bothS [0,3,4] [0] ⟨?_⟩;rfl
   ·exact hlt
   ·show _ < _;omega
  ·intro hc0;refine zn [3] ⟨?_⟩;refine yR [2] ⟨?_⟩;refine zr ⟨?_⟩;rw [←fill_end (f:=V.str) (z:=(V.str .empty)) (show l.length≤i by omega)];exact ret_ref rfl (.inl rfl)
theorem szStringS_con (n:Int) (l:List ByteArray) (hn:0≤n∧n≤1048576) (hl:l.length≤9223372036854775807) (hls:∀s∈l,s.size≤9223372036854775807):Con Tryz.prog 30 [.sl (l.map V.str),.int .i64 n] [] (.int .i64 (if n - (l.length:Int) < 0 then -1 else szLst szStr1 (n - (l.length:Int)) l)) []:=by
 refine v_con [.tmp 4] [] Tryz.func30 rfl rfl rfl (by simp [Tryz.ntmps30]) ?_;intro Q0 n0 r0;simp only [Tryz.ntmps30,envFrom,Nat.reduceAdd];have T:=Tys.mk (ai Ty.t3 (ai Ty.t9 Ty.t59));have F:=Fc.mk True.intro;refine yR [0,1] ⟨?_⟩;refine yR [0,1] ⟨?_⟩;refine v_seq ?_;intros;refine yR [0,1,11] ⟨?_⟩;refine v_condS _ rfl ?_ ?_
 ·intro hc0;refine yR [4] ⟨?_⟩;refine zr ⟨?_⟩;exact ret_pure rfl (by rw [if_pos (by omega)]) (.inl rfl)
 ·intro hc0;refine zn [0,1] ⟨?_⟩;refine v_seq ?_;intros;refine yR [0,1,5] ⟨?_⟩;refine v_block ?_;intros;refine v_loop (fun p=>⟨[(0,.sl (l.map V.str)),(1,.int .i64 p.2),(5,.int .i64 (Nat.cast p.1))],[],false,28,0⟩) (fun p=>p.1≤l.length∧0≤p.2∧p.2≤1048576∧szLst szStr1 p.2 (l.drop p.1)=szLst szStr1 (n - (l.length:Int)) l) (fun p=>l.length - p.1) (0,n - (l.length:Int)) ?_ ?_ ?_
  ·refine weak_of [0,1,5] ?_;simp only [keep_mk,keepE_nil,keepE_cons,look_cons,look_nil,Nat.reduceEqDiff,reduceIte];rfl
  ·exact ⟨qld _,by omega,by omega,by simp⟩
  ·rintro ⟨i,m⟩ hok10 Q10 n10 e10 r10;obtain ⟨hi1,hm0,hm1,hR⟩:=hok10;simp only [] at hi1 hm0 hm1 hR⊢;refine v_seq ?_;intros;refine yR [0,1,5,15] ⟨?_⟩;refine v_condS _ rfl ?_ ?_
   ·intro hc1;have hlt:i < l.length:=by omega
    obtain ⟨x,hx⟩:∃x,l[i]? =some x:=⟨l[i],qla hlt⟩;have hlx:=hls x (qlb hx);have hstep:szLst szStr1 m (l.drop i)=if szStr1 m x < 0 then -1 else szLst szStr1 (szStr1 m x) (l.drop (i+1)):=by rw [getElem_drop_cons hx,szLst]
    refine zn [0,1,5] ⟨?_⟩;refine v_seq ?_;intros;refine v_block ?_;intros;have F:=Fc.mk (gdm hx);refine yR [0,1,5] ⟨?_⟩;refine yR [0,1,5,26] ⟨?_⟩;refine v_condS _ rfl ?_ ?_
    ·intro hc2;have hneg:szStr1 m x=-1:=by rw [szStr1,if_pos hc2]
     refine yR [4] ⟨?_⟩;refine zr ⟨?_⟩;exact ret_pure rfl (by rw [if_neg (by omega),←hR,hstep,if_pos (by omega)]) (.inl rfl)
    ·intro hc2;have hpos:szStr1 m x=m - (x.size:Int):=by rw [szStr1,if_neg (by omega)]
     refine zn [0,1,5] ⟨?_⟩;refine yV ⟨?_⟩;refine n10 _ (i+1,m - (x.size:Int)) ?_ ?_ ?_
     ·refine weak_of [0,1,5] ?_;simp only [keep_mk,keepE_nil,keepE_cons,look_cons,look_nil,Nat.reduceEqDiff,reduceIte];rfl
     ·exact ⟨by simp only [];omega,by simp only [];omega,by simp only [];omega,by simp only [];rw [←hR,hstep,if_neg (by omega),hpos]⟩
     ·show _ < _;simp only [];omega
   ·intro hc1;refine zn [1] ⟨?_⟩;refine yR [4] ⟨?_⟩;refine zr ⟨?_⟩;exact ret_pure rfl (by rw [if_neg (by omega),←hR,qle (by omega)];rfl) (.inl rfl)
theorem eqStringS_con (a b:List ByteArray) (ha:a.length≤1048576):Con Tryz.prog 39 [.sl (a.map V.str),.sl (b.map V.str)] [] (.bool (decide (a=b))) []:=by
 refine v_con [.tmp 4] [] Tryz.func39 rfl rfl rfl (by simp [Tryz.ntmps39]) ?_;intro Q0 n0 r0;simp only [Tryz.ntmps39,envFrom,Nat.reduceAdd];have T:=Tys.mk (ai Ty.t3 (ai Ty.t9 Ty.t59));have F:=Fc.mk True.intro;refine yR [0,1] ⟨?_⟩;refine v_seq ?_;intros;refine yR [0,1,10] ⟨?_⟩;refine v_condS _ rfl ?_ ?_
 ·intro hc0;refine yR [4] ⟨?_⟩;refine zr ⟨?_⟩;exact ret_pure rfl (by rw [decide_eq_false (fun h=>by subst h;simp at hc0)]) (.inl rfl)
 ·intro hc0;have hab:a.length=b.length:=by omega
  refine zn [0,1] ⟨?_⟩;refine v_seq ?_;intros;refine yR [0,1,5] ⟨?_⟩;refine v_block ?_;intros;refine v_loop (fun i=>⟨[(0,.sl (a.map V.str)),(1,.sl (b.map V.str)),(5,.int .i64 (Nat.cast i))],[],false,26,0⟩) (fun i=>i≤a.length∧((a=b)↔(a.drop i=b.drop i))) (fun i=>a.length - i) 0 ?_ ?_ ?_
  ·refine weak_of [0,1,5] ?_;simp only [keep_mk,keepE_nil,keepE_cons,look_cons,look_nil,Nat.reduceEqDiff,reduceIte];rfl
  ·exact ⟨qld _,by simp⟩
  ·rintro i hok9 Q9 n9 e9 r9;obtain ⟨hi1,hR⟩:=hok9;refine v_seq ?_;intros;refine yR [0,1,5,14] ⟨?_⟩;refine v_condS _ rfl ?_ ?_
   ·intro hc1;have hlt:i < a.length:=by omega
    obtain ⟨x,hx⟩:∃x,a[i]? =some x:=⟨a[i],qla hlt⟩;obtain ⟨y,hy⟩:∃y,b[i]? =some y:=⟨b[i],qla (by omega)⟩;have hstep:=eq_drop hab hx hy;refine zn [0,1,5] ⟨?_⟩;refine v_seq ?_;intros;refine v_block ?_;intros;refine v_seq ?_;intro Q15 n15 e15 r15;refine v_draw (by kernel_rfl) ?_;intro K16 q16 k16;show aAny _ _ _ _ 9 (Array.replicate 9 false) _;have F:=Fc.mk (ai (gdm hx) (gdm hy));refine zdMove q16 true 0 17 ?_;refine zdMove q16 true 1 18 ?_;refine zdIndexAddr q16 true 2 19 ?_;refine zdLoad q16 true 3 20 ?_;refine zdMove q16 true 4 21 ?_;refine zdMove q16 true 5 22 ?_;refine zdIndexAddr q16 true 6 23 ?_;refine zdLoad q16 true 7 24 ?_;refine zdBinOp q16 true 8 25 ?_;refine aAny_done (by kernel_rfl) ?_;refine k16 _ ?_;refine n15 _ _ (weak_keep [0,1,5,25] _) ?_;refine zk ⟨?_⟩;refine v_condS _ rfl ?_ ?_
    ·intro hc2;refine yR [4] ⟨?_⟩;refine zr ⟨?_⟩;exact ret_pure rfl (by rw [decide_eq_false (fun h=>hc2 (hstep.1 (hR.1 h)).1)]) (.inl rfl)
    ·intro hc2;refine zn [0,1,5] ⟨?_⟩;refine yV ⟨?_⟩;refine n9 _ (i+1) ?_ ?_ ?_
     ·refine weak_of [0,1,5] ?_;simp only [keep_mk,keepE_nil,keepE_cons,look_cons,look_nil,Nat.reduceEqDiff,reduceIte];rfl
     ·exact ⟨by omega,hR.trans (hstep.trans ⟨fun h=>h.2,fun h=>⟨hc2,h⟩⟩)⟩
     ·show _ < _;omega
   ·intro hc1;refine zn [] ⟨?_⟩;refine yR [4] ⟨?_⟩;refine zr ⟨?_⟩;exact ret_pure rfl (by rw [decide_eq_true (hR.2 (by rw [qle (by omega),qle (by omega)]))]) (.inl rfl)
theorem szTown_con (n:Int) (ss:List TS) (m:Int) (hn:0≤m∧m≤1048576) (hl:ss.length≤9223372036854775807):Con Tryz.prog 28 [.agg [.int .i64 n,.sl (ss.map (fun t:TS=>V.agg [V.int .i64 t.1,V.int .i64 t.2.1,V.int .i64 t.2.2]))],.int .i64 m] [] (.int .i64 (if m - (ss.length:Int) < 0 then -1 else m - (ss.length:Int))) []:=by
 refine v_con [.tmp 4] [] Tryz.func28 rfl rfl rfl (by simp [Tryz.ntmps28]) ?_;intro Q0 n0 r0;simp only [Tryz.ntmps28,envFrom,Nat.reduceAdd];have T:=Tys.mk (ai Ty.t3 (ai Ty.t51 (ai Ty.t53 Ty.t166)));have F:=Fc.mk True.intro;refine yR [1,2] ⟨?_⟩;refine yRc [1] (szStreetS_con m ss hn hl) ⟨?_⟩;refine v_seq ?_;intros;refine yR [1,10] ⟨?_⟩;refine v_condS _ rfl ?_ ?_
 ·intro hc0;refine yR [4] ⟨?_⟩;refine zr ⟨?_⟩;exact ret_pure rfl (by split at hc0<;>first | omega | (simp only [*];done) | (rw [if_pos (by omega)])) (.inl rfl)
 ·intro hc0;refine zn [1] ⟨?_⟩;refine yR [4] ⟨?_⟩;refine zr ⟨?_⟩;exact ret_pure rfl rfl (.inl rfl)
theorem toTown_con (n:Int) (ss:List TS) (hl:ss.length≤1048576):Con Tryz.prog 32 [.agg [.int .i64 n,.sl (ss.map (fun t:TS=>V.agg [V.int .i64 t.1,V.int .i64 t.2.1,V.int .i64 t.2.2]))]] [] (.agg [.int .i64 n,.ref 0]) [.arr (ss.map (fun t:TS=>V.agg [V.int .i64 t.1,V.int .i64 t.2.1,V.int .i64 t.2.2])) .flat]:=by
 refine v_con [.cell 2 72] [] Tryz.func32 rfl rfl rfl (by simp [Tryz.ntmps32]) ?_;intro Q0 n0 r0;simp only [Tryz.ntmps32,envFrom,Nat.reduceAdd];have T:=Tys.mk (ai Ty.t3 (ai Ty.t51 (ai Ty.t53 (ai Ty.t70 (ai Ty.t72 (ai Ty.t164 Ty.t166))))));have F:=Fc.mk True.intro;refine yR [1,2] ⟨?_⟩;refine yR [1,2,3] ⟨?_⟩;refine yR [1,2,3] ⟨?_⟩;refine yRc [2,3] (toStreetS_con ss hl) ⟨?_⟩;refine yR [2] ⟨?_⟩;refine zq1 ⟨?_⟩;exact ret_gen [5] rfl rfl (by decide) rfl (by simp) (by simp [Blk.kindIs]) rfl
theorem eqTown_con (n:Int) (ss:List TS) (hl:ss.length≤1048576):Con Tryz.prog 38 [.agg [.int .i64 n,.sl (ss.map (fun t:TS=>V.agg [V.int .i64 t.1,V.int .i64 t.2.1,V.int .i64 t.2.2]))],.agg [.int .i64 n,.sl (ss.map (fun t:TS=>V.agg [V.int .i64 t.1,V.int .i64 t.2.1,V.int .i64 t.2.2]))]] [] (.bool true) []:=by
 refine v_con [.tmp 4] [] Tryz.func38 rfl rfl rfl (by simp [Tryz.ntmps38]) ?_;intro Q0 n0 r0;simp only [Tryz.ntmps38,envFrom,Nat.reduceAdd];have T:=Tys.mk (ai Ty.t3 (ai Ty.t4 (ai Ty.t70 (ai Ty.t72 Ty.t164))));have F:=Fc.mk True.intro;refine yR [2,3] ⟨?_⟩;refine v_seq ?_;intros;refine yR [2,3,9] ⟨?_⟩;refine v_cond _ rfl ?_ ?_
 ·intro hc0;exfalso;simp at hc0
 ·intro hc0;try simp only [zC,reduceCtorEq] at hc0
  refine zn [2,3] ⟨?_⟩;refine v_seq ?_;intros;refine yRc [15] (eqStreetS_con ss ss hl) ⟨?_⟩;refine v_cond _ rfl ?_ ?_
  ·intro hc1;exfalso;simp at hc1
  ·intro hc1;try simp only [zC,reduceCtorEq] at hc1
   refine zn [] ⟨?_⟩;refine yR [4] ⟨?_⟩;refine zr ⟨?_⟩;exact ret_pure rfl rfl (.inl rfl)
def apOK (x:TA):Bool:=nameB x.1 && (decide (0≤x.2.1) && decide (x.2.1≤3)) && (decide (0≤x.2.2.1) && decide (x.2.2.1≤13)) && (decide (1≤x.2.2.2.1) && decide (x.2.2.2.1≤9)) && (decide (0≤x.2.2.2.2) && decide (x.2.2.2.2≤5))
def apBf (x y:TA):Bool:=strLt x.1 y.1
def fleetB (l:List TA):Bool:=chainAt apOK apBf l 0 && decide ((l.length:Int)≤12)
theorem fleet_len {l:List TA} (h:fleetB l=true):l.length≤12:=by
  simp only [fleetB,Bool.and_eq_true,decide_eq_true_eq] at h;omega
theorem apState_con (n:Int):Con Tryz.prog 130 [.int .i64 n] [] (.bool (decide (0≤n) && decide (n≤5))) []:=by
 refine v_con [.tmp 2] [] Tryz.func130 rfl rfl rfl (by simp [Tryz.ntmps130]) ?_;intro Q0 n0 r0;simp only [Tryz.ntmps130,envFrom,Nat.reduceAdd];have T:=Tys.mk (ai Ty.t3 Ty.t4);have F:=Fc.mk True.intro;refine yR [0] ⟨?_⟩;refine yRc [2] (l1In_con _ _ _) ⟨?_⟩;refine zr ⟨?_⟩;exact ret_pure rfl (by first | rfl | simp) (.inl rfl)
theorem isState_con (n:Int):Con Tryz.prog 196 [.int .i64 n] [] (.bool (decide (0≤n) && decide (n≤5))) []:=by
 refine v_con [.tmp 2] [] Tryz.func196 rfl rfl rfl (by simp [Tryz.ntmps196]) ?_;intro Q0 n0 r0;simp only [Tryz.ntmps196,envFrom,Nat.reduceAdd];have T:=Tys.mk (ai Ty.t3 Ty.t4);have F:=Fc.mk True.intro;refine yR [0] ⟨?_⟩;refine yRc [2] (inside_con _ _ _) ⟨?_⟩;refine zr ⟨?_⟩;exact ret_pure rfl (by first | rfl | simp) (.inl rfl)
theorem apNode_con (n:Int):Con Tryz.prog 211 [.int .i64 n] [] (.bool (decide (0≤n) && decide (n≤13))) []:=by
 refine v_con [.tmp 2] [] Tryz.func211 rfl rfl rfl (by simp [Tryz.ntmps211]) ?_;intro Q0 n0 r0;simp only [Tryz.ntmps211,envFrom,Nat.reduceAdd];have T:=Tys.mk (ai Ty.t3 Ty.t4);have F:=Fc.mk True.intro;refine yR [0] ⟨?_⟩;refine yRc [2] (l1In_con _ _ _) ⟨?_⟩;refine zr ⟨?_⟩;exact ret_pure rfl (by first | rfl | simp) (.inl rfl)
theorem apGood_con (x0:ByteArray) (x1:Int) (x2:Int) (x3:Int) (x4:Int) (hs:x0.size≤9223372036854775807):Con Tryz.prog 210 [.agg [V.str x0,V.int .i64 x1,V.int .i64 x2,V.int .i64 x3,V.int .i64 x4]] [] (.bool (apOK (x0,x1,x2,x3,x4))) []:=by
 refine v_con [.tmp 2] [] Tryz.func210 rfl rfl rfl (by simp [Tryz.ntmps210]) ?_;intro Q0 n0 r0;simp only [Tryz.ntmps210,envFrom,Nat.reduceAdd];have T:=Tys.mk (ai Ty.t3 (ai Ty.t4 (ai Ty.t9 Ty.t156)));have F:=Fc.mk True.intro;refine yR [1] ⟨?_⟩;refine v_seqR [2] ?_;intro K2 k2;refine zq9 ⟨?_⟩;refine zc (apName_con _ hs) ⟨?_⟩;refine zMove ⟨?_⟩;refine zq3 ⟨?_⟩;refine zgc (l1In_con _ _ _) ⟨?_⟩;refine zq7 ⟨?_⟩;refine zgc (apNode_con _) ⟨?_⟩;refine zq7 ⟨?_⟩;refine zgc (l1In_con _ _ _) ⟨?_⟩;refine zq7 ⟨?_⟩;refine zgc (apState_con _) ⟨?_⟩;refine zPick ⟨?_⟩;refine zAssign ⟨?_⟩;refine k2 _ ?_;refine zk ⟨?_⟩;refine zr ⟨?_⟩;exact ret_pure rfl (by first | rfl | simp [apOK,Bool.and_assoc]) (.inl rfl)
theorem isAppliance_con (x0:ByteArray) (x1:Int) (x2:Int) (x3:Int) (x4:Int) (hs:x0.size≤9223372036854775807):Con Tryz.prog 216 [.agg [V.str x0,V.int .i64 x1,V.int .i64 x2,V.int .i64 x3,V.int .i64 x4]] [] (.bool (apOK (x0,x1,x2,x3,x4))) []:=by
 refine v_con [.tmp 2] [] Tryz.func216 rfl rfl rfl (by simp [Tryz.ntmps216]) ?_;intro Q0 n0 r0;simp only [Tryz.ntmps216,envFrom,Nat.reduceAdd];have T:=Tys.mk (ai Ty.t3 (ai Ty.t4 (ai Ty.t9 Ty.t156)));have F:=Fc.mk True.intro;refine yR [1] ⟨?_⟩;refine v_seqR [2] ?_;intro K2 k2;refine zq9 ⟨?_⟩;refine zc (isName_con _ hs) ⟨?_⟩;refine zMove ⟨?_⟩;refine zq3 ⟨?_⟩;refine zgc (inside_con _ _ _) ⟨?_⟩;refine zq7 ⟨?_⟩;refine zgc (inside_con _ _ _) ⟨?_⟩;refine zq7 ⟨?_⟩;refine zgc (inside_con _ _ _) ⟨?_⟩;refine zq7 ⟨?_⟩;refine zgc (isState_con _) ⟨?_⟩;refine zPick ⟨?_⟩;refine zAssign ⟨?_⟩;refine k2 _ ?_;refine zk ⟨?_⟩;refine zr ⟨?_⟩;exact ret_pure rfl (by first | rfl | simp [apOK,Bool.and_assoc]) (.inl rfl)
theorem apFleet_con (fl:List TA) (hl:fl.length≤1048576) (hls:∀t∈fl,t.1.size≤9223372036854775807):Con Tryz.prog 169 [.sl (fl.map (fun t:TA=>V.agg [V.str t.1,V.int .i64 t.2.1,V.int .i64 t.2.2.1,V.int .i64 t.2.2.2.1,V.int .i64 t.2.2.2.2]))] [] (.bool (fleetB fl)) []:=by
 refine v_con [.tmp 2] [] Tryz.func169 rfl rfl rfl (by simp [Tryz.ntmps169]) ?_;intro Q0 n0 r0;simp only [Tryz.ntmps169,envFrom,Nat.reduceAdd];have T:=Tys.mk (ai Ty.t3 (ai Ty.t4 (ai Ty.t9 (ai Ty.t63 Ty.t156))));have F:=Fc.mk True.intro;refine yR [0] ⟨?_⟩;refine v_seq ?_;intros;refine yR [0,5,6,7] ⟨?_⟩;refine v_block ?_;intro Q4 n4 x4 e4 r4;refine v_loop (fun i=>⟨[(0,.sl (fl.map (fun t:TA=>V.agg [V.str t.1,V.int .i64 t.2.1,V.int .i64 t.2.2.1,V.int .i64 t.2.2.2.1,V.int .i64 t.2.2.2.2]))),(5,.sl (fl.map (fun t:TA=>V.agg [V.str t.1,V.int .i64 t.2.1,V.int .i64 t.2.2.1,V.int .i64 t.2.2.2.1,V.int .i64 t.2.2.2.2]))),(6,.int .i64 fl.length),(7,.int .i64 (Nat.cast i))],[],false,34,0⟩) (fun i=>i≤fl.length∧chainAt apOK apBf fl i=chainAt apOK apBf fl 0) (fun i=>fl.length - i) 0 ?_ ?_ ?_
 ·refine weak_of [0,5,6,7] ?_;simp only [keep_mk,keepE_nil,keepE_cons,look_cons,look_nil,Nat.reduceEqDiff,reduceIte];rfl
 ·exact ⟨qld _,rfl⟩
 ·rintro i hok5 Q5 n5 e5 r5;obtain ⟨hi1,hR⟩:=hok5;refine yR [0,5,6,7,8] ⟨?_⟩;refine v_seq ?_;intros;refine v_condS _ rfl ?_ ?_
  ·intro hc0;have hlt:i < fl.length:=by omega
   obtain ⟨⟨x0,x1,x2,x3,x4⟩,hx⟩:∃x:TA,fl[i]? =some x:=⟨fl[i]'(by omega),qla (by omega)⟩;have hsx:=hls _ (qlb hx);simp only [] at hsx;rcases ql8 i with h0 | h0
   ·skip;have hi0:¬((0:Int) < (i:Int)):=by omega
    have hst:chainAt apOK apBf fl i=(apOK (x0,x1,x2,x3,x4) && chainAt apOK apBf fl (i+1)):=by subst h0;exact chain_zero hx
    refine zn [0,5,6,7] ⟨?_⟩;refine v_seq ?_;intros;refine v_block ?_;intros;have F:=Fc.mk (ai (gdm hx) (ai hi0 (ai @decide_false @qma)));refine yR [0,3,4,5,6,7] ⟨?_⟩;refine v_seq ?_;intro Q12 n12 e12 r12;refine v_draw (by kernel_rfl) ?_;intro K13 q13 k13;show aAny _ _ _ _ 18 (Array.replicate 18 false) _;refine zdLoad q13 true 0 12 ?_;refine zoc 1 (apGood_con x0 x1 x2 x3 x4 hsx) ⟨?_⟩;refine zdUnOp q13 true 2 14 ?_;refine zdMove q13 true 3 15 ?_;refine zdgMove q13 true 4 16 ?_;refine zdgBinOp q13 true 5 17 ?_;refine zdgMove q13 true 6 18 ?_;refine zdgMove q13 true 7 19 ?_;refine zdgMove q13 true 8 20 ?_;refine zdgBinOpW q13 true 9 21 ?_;refine zdgIndexAddr q13 true 10 22 ?_;refine zdgFieldAddr q13 true 11 23 ?_;refine zdgLoad q13 true 12 24 ?_;refine zdgFieldAddr q13 true 13 25 ?_;refine zdgLoad q13 true 14 26 ?_;refine zdgBinOp q13 true 15 27 ?_;refine zdgPick q13 true 16 28 ?_;refine zdPick q13 true 17 29 ?_;refine aAny_done (by kernel_rfl) ?_;refine k13 _ ?_;refine n12 _ _ (weak_keep [0,5,6,7,29] _) ?_;refine zk ⟨?_⟩;refine v_condS _ rfl ?_ ?_
    ·intro hc1;refine yR [2] ⟨?_⟩;refine zr ⟨?_⟩;exact ret_pure rfl (by rw [fleetB,←hR,hst];clear hR hst;(try simp at hc1);first | (simp [hc1];done) | (rcases hc1 with h | h<;>simp [h,apBf];done) | (simp_all [apBf];done)) (.inl rfl)
    ·intro hc1;refine zn [0,5,6,7] ⟨?_⟩;refine yV ⟨?_⟩;refine n5 _ (i+1) ?_ ?_ ?_
     ·refine weak_bothS [0,5,6,7] [] ⟨?_⟩;rfl
     ·exact ⟨by omega,by rw [←hR,hst];clear hR hst;(try simp at hc1);first | (simp [hc1];done) | (simp_all [apBf];done)⟩
     ·show _ < _;omega
   ·skip;obtain ⟨⟨y0,y1,y2,y3,y4⟩,hy⟩:∃x:TA,fl[i - 1]? =some x:=⟨fl[i - 1]'(by omega),qla (by omega)⟩;have hi0:(0:Int) < i:=by omega
    have hk:((i:Int) - 1).toNat=i - 1:=by omega
    have hst:=chain_succ (ok:=apOK) (bf:=apBf) h0 hy hx;refine zn [0,5,6,7] ⟨?_⟩;refine v_seq ?_;intros;refine v_block ?_;intros;have F:=Fc.mk (ai (gdm hx) (ai hi0 (ai hk (ai (gdm hy) (ai @decide_true @qmb)))));refine yR [0,3,4,5,6,7] ⟨?_⟩;refine v_seq ?_;intro Q20 n20 e20 r20;refine v_draw (by kernel_rfl) ?_;intro K21 q21 k21;show aAny _ _ _ _ 18 (Array.replicate 18 false) _;refine zdLoad q21 true 0 12 ?_;refine zoc 1 (apGood_con x0 x1 x2 x3 x4 hsx) ⟨?_⟩;refine zdUnOp q21 true 2 14 ?_;refine zdMove q21 true 3 15 ?_;refine zdgMove q21 true 4 16 ?_;refine zdgBinOp q21 true 5 17 ?_;refine zdgMove q21 true 6 18 ?_;refine zdgMove q21 true 7 19 ?_;refine zdgMove q21 true 8 20 ?_;refine zdgBinOpW q21 true 9 21 ?_;refine zdgIndexAddr q21 true 10 22 ?_;refine zdgFieldAddr q21 true 11 23 ?_;refine zdgLoad q21 true 12 24 ?_;refine zdgFieldAddr q21 true 13 25 ?_;refine zdgLoad q21 true 14 26 ?_;refine zdgBinOp q21 true 15 27 ?_;refine zdgPick q21 true 16 28 ?_;refine zdPick q21 true 17 29 ?_;refine aAny_done (by kernel_rfl) ?_;refine k21 _ ?_;refine n20 _ _ (weak_keep [0,5,6,7,29] _) ?_;refine zk ⟨?_⟩;refine v_condS _ rfl ?_ ?_
    ·intro hc1;refine yR [2] ⟨?_⟩;refine zr ⟨?_⟩;exact ret_pure rfl (by rw [fleetB,←hR,hst];clear hR hst;(try simp at hc1);first | (simp [hc1];done) | (rcases hc1 with h | h<;>simp [h,apBf];done) | (simp_all [apBf];done)) (.inl rfl)
    ·intro hc1;refine zn [0,5,6,7] ⟨?_⟩;refine yV ⟨?_⟩;refine n5 _ (i+1) ?_ ?_ ?_
     ·refine weak_bothS [0,5,6,7] [] ⟨?_⟩;rfl
     ·exact ⟨by omega,by rw [←hR,hst];clear hR hst;(try simp at hc1);first | (simp [hc1];done) | (simp_all [apBf];done)⟩
     ·show _ < _;omega
  ·intro hc0;refine zn [0] ⟨?_⟩;refine yR [2] ⟨?_⟩;refine zr ⟨?_⟩;exact ret_pure rfl (by rw [fleetB,←hR,chain_end (by omega)];simp) (.inl rfl)
theorem isFleet_con (fl:List TA) (hl:fl.length≤1048576) (hls:∀t∈fl,t.1.size≤9223372036854775807):Con Tryz.prog 181 [.sl (fl.map (fun t:TA=>V.agg [V.str t.1,V.int .i64 t.2.1,V.int .i64 t.2.2.1,V.int .i64 t.2.2.2.1,V.int .i64 t.2.2.2.2]))] [] (.bool (fleetB fl)) []:=by
 refine v_con [.tmp 2] [] Tryz.func181 rfl rfl rfl (by simp [Tryz.ntmps181]) ?_;intro Q0 n0 r0;simp only [Tryz.ntmps181,envFrom,Nat.reduceAdd];have T:=Tys.mk (ai Ty.t3 (ai Ty.t4 (ai Ty.t9 (ai Ty.t63 Ty.t156))));have F:=Fc.mk True.intro;refine yR [0] ⟨?_⟩;refine v_seq ?_;intros;refine yR [0,5,6,7] ⟨?_⟩;refine v_block ?_;intro Q4 n4 x4 e4 r4;refine v_loop (fun i=>⟨[(0,.sl (fl.map (fun t:TA=>V.agg [V.str t.1,V.int .i64 t.2.1,V.int .i64 t.2.2.1,V.int .i64 t.2.2.2.1,V.int .i64 t.2.2.2.2]))),(5,.sl (fl.map (fun t:TA=>V.agg [V.str t.1,V.int .i64 t.2.1,V.int .i64 t.2.2.1,V.int .i64 t.2.2.2.1,V.int .i64 t.2.2.2.2]))),(6,.int .i64 fl.length),(7,.int .i64 (Nat.cast i))],[],false,34,0⟩) (fun i=>i≤fl.length∧chainAt apOK apBf fl i=chainAt apOK apBf fl 0) (fun i=>fl.length - i) 0 ?_ ?_ ?_
 ·refine weak_of [0,5,6,7] ?_;simp only [keep_mk,keepE_nil,keepE_cons,look_cons,look_nil,Nat.reduceEqDiff,reduceIte];rfl
 ·exact ⟨qld _,rfl⟩
 ·rintro i hok5 Q5 n5 e5 r5;obtain ⟨hi1,hR⟩:=hok5;refine yR [0,5,6,7,8] ⟨?_⟩;refine v_seq ?_;intros;refine v_condS _ rfl ?_ ?_
  ·intro hc0;have hlt:i < fl.length:=by omega
   obtain ⟨⟨x0,x1,x2,x3,x4⟩,hx⟩:∃x:TA,fl[i]? =some x:=⟨fl[i]'(by omega),qla (by omega)⟩;have hsx:=hls _ (qlb hx);simp only [] at hsx;rcases ql8 i with h0 | h0
   ·skip;have hi0:¬((0:Int) < (i:Int)):=by omega
    have hst:chainAt apOK apBf fl i=(apOK (x0,x1,x2,x3,x4) && chainAt apOK apBf fl (i+1)):=by subst h0;exact chain_zero hx
    refine zn [0,5,6,7] ⟨?_⟩;refine v_seq ?_;intros;refine v_block ?_;intros;have F:=Fc.mk (ai (gdm hx) (ai hi0 (ai @decide_false @qma)));refine yR [0,3,4,5,6,7] ⟨?_⟩;refine v_seq ?_;intro Q12 n12 e12 r12;refine v_draw (by kernel_rfl) ?_;intro K13 q13 k13;show aAny _ _ _ _ 18 (Array.replicate 18 false) _;refine zdLoad q13 true 0 12 ?_;refine zoc 1 (isAppliance_con x0 x1 x2 x3 x4 hsx) ⟨?_⟩;refine zdUnOp q13 true 2 14 ?_;refine zdMove q13 true 3 15 ?_;refine zdgMove q13 true 4 16 ?_;refine zdgBinOp q13 true 5 17 ?_;refine zdgMove q13 true 6 18 ?_;refine zdgMove q13 true 7 19 ?_;refine zdgMove q13 true 8 20 ?_;refine zdgBinOpW q13 true 9 21 ?_;refine zdgIndexAddr q13 true 10 22 ?_;refine zdgFieldAddr q13 true 11 23 ?_;refine zdgLoad q13 true 12 24 ?_;refine zdgFieldAddr q13 true 13 25 ?_;refine zdgLoad q13 true 14 26 ?_;refine zdgBinOp q13 true 15 27 ?_;refine zdgPick q13 true 16 28 ?_;refine zdPick q13 true 17 29 ?_;refine aAny_done (by kernel_rfl) ?_;refine k13 _ ?_;refine n12 _ _ (weak_keep [0,5,6,7,29] _) ?_;refine zk ⟨?_⟩;refine v_condS _ rfl ?_ ?_
    ·intro hc1;refine yR [2] ⟨?_⟩;refine zr ⟨?_⟩;exact ret_pure rfl (by rw [fleetB,←hR,hst];clear hR hst;(try simp at hc1);first | (simp [hc1];done) | (rcases hc1 with h | h<;>simp [h,apBf];done) | (simp_all [apBf];done)) (.inl rfl)
    ·intro hc1;refine zn [0,5,6,7] ⟨?_⟩;refine yV ⟨?_⟩;refine n5 _ (i+1) ?_ ?_ ?_
     ·refine weak_bothS [0,5,6,7] [] ⟨?_⟩;rfl
     ·exact ⟨by omega,by rw [←hR,hst];clear hR hst;(try simp at hc1);first | (simp [hc1];done) | (simp_all [apBf];done)⟩
     ·show _ < _;omega
   ·skip;obtain ⟨⟨y0,y1,y2,y3,y4⟩,hy⟩:∃x:TA,fl[i - 1]? =some x:=⟨fl[i - 1]'(by omega),qla (by omega)⟩;have hi0:(0:Int) < i:=by omega
    have hk:((i:Int) - 1).toNat=i - 1:=by omega
    have hst:=chain_succ (ok:=apOK) (bf:=apBf) h0 hy hx;refine zn [0,5,6,7] ⟨?_⟩;refine v_seq ?_;intros;refine v_block ?_;intros;have F:=Fc.mk (ai (gdm hx) (ai hi0 (ai hk (ai (gdm hy) (ai @decide_true @qmb)))));refine yR [0,3,4,5,6,7] ⟨?_⟩;refine v_seq ?_;intro Q20 n20 e20 r20;refine v_draw (by kernel_rfl) ?_;intro K21 q21 k21;show aAny _ _ _ _ 18 (Array.replicate 18 false) _;refine zdLoad q21 true 0 12 ?_;refine zoc 1 (isAppliance_con x0 x1 x2 x3 x4 hsx) ⟨?_⟩;refine zdUnOp q21 true 2 14 ?_;refine zdMove q21 true 3 15 ?_;refine zdgMove q21 true 4 16 ?_;refine zdgBinOp q21 true 5 17 ?_;refine zdgMove q21 true 6 18 ?_;refine zdgMove q21 true 7 19 ?_;refine zdgMove q21 true 8 20 ?_;refine zdgBinOpW q21 true 9 21 ?_;refine zdgIndexAddr q21 true 10 22 ?_;refine zdgFieldAddr q21 true 11 23 ?_;refine zdgLoad q21 true 12 24 ?_;refine zdgFieldAddr q21 true 13 25 ?_;refine zdgLoad q21 true 14 26 ?_;refine zdgBinOp q21 true 15 27 ?_;refine zdgPick q21 true 16 28 ?_;refine zdPick q21 true 17 29 ?_;refine aAny_done (by kernel_rfl) ?_;refine k21 _ ?_;refine n20 _ _ (weak_keep [0,5,6,7,29] _) ?_;refine zk ⟨?_⟩;refine v_condS _ rfl ?_ ?_
    ·intro hc1;refine yR [2] ⟨?_⟩;refine zr ⟨?_⟩;exact ret_pure rfl (by rw [fleetB,←hR,hst];clear hR hst;(try simp at hc1);first | (simp [hc1];done) | (rcases hc1 with h | h<;>simp [h,apBf];done) | (simp_all [apBf];done)) (.inl rfl)
    ·intro hc1;refine zn [0,5,6,7] ⟨?_⟩;refine yV ⟨?_⟩;refine n5 _ (i+1) ?_ ?_ ?_
     ·refine weak_bothS [0,5,6,7] [] ⟨?_⟩;rfl
     ·exact ⟨by omega,by rw [←hR,hst];clear hR hst;(try simp at hc1);first | (simp [hc1];done) | (simp_all [apBf];done)⟩
     ·show _ < _;omega
  ·intro hc0;refine zn [0] ⟨?_⟩;refine yR [2] ⟨?_⟩;refine zr ⟨?_⟩;exact ret_pure rfl (by rw [fleetB,←hR,chain_end (by omega)];simp) (.inl rfl)
end Go.Proofs.YtmhaafinhpopmaaGreatDoor
