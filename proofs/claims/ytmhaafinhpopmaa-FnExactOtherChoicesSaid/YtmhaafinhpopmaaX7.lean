/- What functions compute. No condition. -/
import Derived.Test.YtmhaafinhpopmaaX4
import Derived.Test.YtmhaafinhpopmaaX5
set_option linter.unusedSimpArgs false
set_option linter.unusedVariables false
set_option linter.defProp false
namespace Go.Proofs.Ytmhaafinhpopmaa
open Go Go.Vm
set_option maxHeartbeats 8000000
theorem szTown_con (n:Int) (ss:List TS) (m:Int) (hn:0≤m∧m≤1048576) (hl:ss.length≤9223372036854775807):Con Try.prog 4 [.agg [.int .i64 n,.sl (ss.map (fun t:TS=>V.agg [V.int .i64 t.1,V.int .i64 t.2.1,V.int .i64 t.2.2]))],.int .i64 m] [] (.int .i64 (if m - (ss.length:Int) < 0 then -1 else m - (ss.length:Int))) []:=by
 refine v_con [.tmp 4] [] Try.func4 rfl rfl rfl (by simp [Try.ntmps4]) ?_;intro Q0 n0 r0;simp only [Try.ntmps4,envFrom,Nat.reduceAdd];have T:=Tys.mk (ai Ty.t3 (ai Ty.t22 (ai Ty.t24 Ty.t81)));have F:=Fc.mk True.intro;refine yR [1,2] ⟨?_⟩;refine yRc [1] (szStreetS_con m ss hn hl) ⟨?_⟩;refine v_seq ?_;intros;refine yR [1,10] ⟨?_⟩;refine v_condS _ rfl ?_ ?_
 ·intro hc0;refine yR [4] ⟨?_⟩;refine zr ⟨?_⟩;exact ret_pure rfl (by split at hc0<;>first | omega | (simp only [*];done) | (rw [if_pos (by omega)])) (.inl rfl)
 ·intro hc0;refine zn [1] ⟨?_⟩;refine yR [4] ⟨?_⟩;refine zr ⟨?_⟩;exact ret_pure rfl rfl (.inl rfl)
theorem toTown_con (n:Int) (ss:List TS) (hl:ss.length≤1048576):Con Try.prog 7 [.agg [.int .i64 n,.sl (ss.map (fun t:TS=>V.agg [V.int .i64 t.1,V.int .i64 t.2.1,V.int .i64 t.2.2]))]] [] (.agg [.int .i64 n,.ref 0]) [.arr (ss.map (fun t:TS=>V.agg [V.int .i64 t.1,V.int .i64 t.2.1,V.int .i64 t.2.2])) .flat]:=by
 refine v_con [.cell 2 34] [] Try.func7 rfl rfl rfl (by simp [Try.ntmps7]) ?_;intro Q0 n0 r0;simp only [Try.ntmps7,envFrom,Nat.reduceAdd];have T:=Tys.mk (ai Ty.t3 (ai Ty.t22 (ai Ty.t24 (ai Ty.t32 (ai Ty.t34 (ai Ty.t79 Ty.t81))))));have F:=Fc.mk True.intro;refine yR [1,2] ⟨?_⟩;refine yR [1,2,3] ⟨?_⟩;refine yR [1,2,3] ⟨?_⟩;refine yRc [2,3] (toStreetS_con ss hl) ⟨?_⟩;refine yR [2] ⟨?_⟩;refine zr ⟨?_⟩;refine zCl ⟨?_⟩;exact ret_gen [5] rfl rfl (by decide) rfl (by simp) (by simp [Blk.kindIs]) rfl
theorem eqTown_con (n:Int) (ss:List TS) (hl:ss.length≤1048576):Con Try.prog 12 [.agg [.int .i64 n,.sl (ss.map (fun t:TS=>V.agg [V.int .i64 t.1,V.int .i64 t.2.1,V.int .i64 t.2.2]))],.agg [.int .i64 n,.sl (ss.map (fun t:TS=>V.agg [V.int .i64 t.1,V.int .i64 t.2.1,V.int .i64 t.2.2]))]] [] (.bool true) []:=by
 refine v_con [.tmp 4] [] Try.func12 rfl rfl rfl (by simp [Try.ntmps12]) ?_;intro Q0 n0 r0;simp only [Try.ntmps12,envFrom,Nat.reduceAdd];have T:=Tys.mk (ai Ty.t3 (ai Ty.t4 (ai Ty.t32 (ai Ty.t34 Ty.t79))));have F:=Fc.mk True.intro;refine yR [2,3] ⟨?_⟩;refine v_seq ?_;intros;refine yR [2,3,9] ⟨?_⟩;refine v_cond _ rfl ?_ ?_
 ·intro hc0;exfalso;simp at hc0
 ·intro hc0;try simp only [zC,reduceCtorEq] at hc0
  refine zn [2,3] ⟨?_⟩;refine v_seq ?_;intros;refine yRc [15] (eqStreetS_con ss ss hl) ⟨?_⟩;refine v_cond _ rfl ?_ ?_
  ·intro hc1;exfalso;simp at hc1
  ·intro hc1;try simp only [zC,reduceCtorEq] at hc1
   refine zn [] ⟨?_⟩;refine yR [4] ⟨?_⟩;refine zr ⟨?_⟩;exact ret_pure rfl rfl (.inl rfl)
def apOK (x:TA):Bool:=nameB x.1 && (decide (0≤x.2.1) && decide (x.2.1≤3)) && (decide (0≤x.2.2.1) && decide (x.2.2.1≤13)) && (decide (1≤x.2.2.2.1) && decide (x.2.2.2.1≤9)) && (decide (0≤x.2.2.2.2) && decide (x.2.2.2.2≤5))
def apBf (x y:TA):Bool:=strLt x.1 y.1
def fleetB (l:List TA):Bool:=chainAt apOK apBf l 0 && decide ((l.length:Int)≤12)
theorem fleet_len {l:List TA} (h:fleetB l=true):l.length≤12:=by
  simp only [fleetB,Bool.and_eq_true,decide_eq_true_eq] at h;omega
theorem apState_con (n:Int):Con Try.prog 78 [.int .i64 n] [] (.bool (decide (0≤n) && decide (n≤5))) []:=by
 refine v_con [.tmp 2] [] Try.func78 rfl rfl rfl (by simp [Try.ntmps78]) ?_;intro Q0 n0 r0;simp only [Try.ntmps78,envFrom,Nat.reduceAdd];have T:=Tys.mk (ai Ty.t3 Ty.t4);have F:=Fc.mk True.intro;refine yR [0] ⟨?_⟩;refine yRc [2] (l1In_con _ _ _) ⟨?_⟩;refine zr ⟨?_⟩;exact ret_pure rfl (by first | rfl | simp) (.inl rfl)
theorem isState_con (n:Int):Con Try.prog 74 [.int .i64 n] [] (.bool (decide (0≤n) && decide (n≤5))) []:=by
 refine v_con [.tmp 2] [] Try.func74 rfl rfl rfl (by simp [Try.ntmps74]) ?_;intro Q0 n0 r0;simp only [Try.ntmps74,envFrom,Nat.reduceAdd];have T:=Tys.mk (ai Ty.t3 Ty.t4);have F:=Fc.mk True.intro;refine yR [0] ⟨?_⟩;refine yRc [2] (inside_con _ _ _) ⟨?_⟩;refine zr ⟨?_⟩;exact ret_pure rfl (by first | rfl | simp) (.inl rfl)
theorem apNode_con (n:Int):Con Try.prog 77 [.int .i64 n] [] (.bool (decide (0≤n) && decide (n≤13))) []:=by
 refine v_con [.tmp 2] [] Try.func77 rfl rfl rfl (by simp [Try.ntmps77]) ?_;intro Q0 n0 r0;simp only [Try.ntmps77,envFrom,Nat.reduceAdd];have T:=Tys.mk (ai Ty.t3 Ty.t4);have F:=Fc.mk True.intro;refine yR [0] ⟨?_⟩;refine yRc [2] (l1In_con _ _ _) ⟨?_⟩;refine zr ⟨?_⟩;exact ret_pure rfl (by first | rfl | simp) (.inl rfl)
theorem apGood_con (x0:ByteArray) (x1:Int) (x2:Int) (x3:Int) (x4:Int) (hs:x0.size≤9223372036854775807):Con Try.prog 70 [.agg [V.str x0,V.int .i64 x1,V.int .i64 x2,V.int .i64 x3,V.int .i64 x4]] [] (.bool (apOK (x0,x1,x2,x3,x4))) []:=by
 refine v_con [.tmp 2] [] Try.func70 rfl rfl rfl (by simp [Try.ntmps70]) ?_;intro Q0 n0 r0;simp only [Try.ntmps70,envFrom,Nat.reduceAdd];have T:=Tys.mk (ai Ty.t3 (ai Ty.t4 (ai Ty.t9 Ty.t60)));have F:=Fc.mk True.intro;refine yR [1] ⟨?_⟩;refine v_seqR [2] ?_;intro K2 k2;refine zFieldAddr ⟨?_⟩;refine zLoad ⟨?_⟩;refine zc (apName_con _ hs) ⟨?_⟩;refine zMove ⟨?_⟩;refine zq2 ⟨?_⟩;refine zgc (l1In_con _ _ _) ⟨?_⟩;refine zq4 ⟨?_⟩;refine zgc (apNode_con _) ⟨?_⟩;refine zq4 ⟨?_⟩;refine zgc (l1In_con _ _ _) ⟨?_⟩;refine zq4 ⟨?_⟩;refine zgc (apState_con _) ⟨?_⟩;refine zPick ⟨?_⟩;refine zAssign ⟨?_⟩;refine k2 _ ?_;refine zq1 ⟨?_⟩;exact ret_pure rfl (by first | rfl | simp [apOK,Bool.and_assoc]) (.inl rfl)
theorem isAppliance_con (x0:ByteArray) (x1:Int) (x2:Int) (x3:Int) (x4:Int) (hs:x0.size≤9223372036854775807):Con Try.prog 65 [.agg [V.str x0,V.int .i64 x1,V.int .i64 x2,V.int .i64 x3,V.int .i64 x4]] [] (.bool (apOK (x0,x1,x2,x3,x4))) []:=by
 refine v_con [.tmp 2] [] Try.func65 rfl rfl rfl (by simp [Try.ntmps65]) ?_;intro Q0 n0 r0;simp only [Try.ntmps65,envFrom,Nat.reduceAdd];have T:=Tys.mk (ai Ty.t3 (ai Ty.t4 (ai Ty.t9 Ty.t60)));have F:=Fc.mk True.intro;refine yR [1] ⟨?_⟩;refine v_seqR [2] ?_;intro K2 k2;refine zFieldAddr ⟨?_⟩;refine zLoad ⟨?_⟩;refine zc (isName_con _ hs) ⟨?_⟩;refine zMove ⟨?_⟩;refine zq2 ⟨?_⟩;refine zgc (inside_con _ _ _) ⟨?_⟩;refine zq4 ⟨?_⟩;refine zgc (inside_con _ _ _) ⟨?_⟩;refine zq4 ⟨?_⟩;refine zgc (inside_con _ _ _) ⟨?_⟩;refine zq4 ⟨?_⟩;refine zgc (isState_con _) ⟨?_⟩;refine zPick ⟨?_⟩;refine zAssign ⟨?_⟩;refine k2 _ ?_;refine zq1 ⟨?_⟩;exact ret_pure rfl (by first | rfl | simp [apOK,Bool.and_assoc]) (.inl rfl)
theorem apFleet_con (fl:List TA) (hl:fl.length≤1048576) (hls:∀t∈fl,t.1.size≤9223372036854775807):Con Try.prog 62 [.sl (fl.map (fun t:TA=>V.agg [V.str t.1,V.int .i64 t.2.1,V.int .i64 t.2.2.1,V.int .i64 t.2.2.2.1,V.int .i64 t.2.2.2.2]))] [] (.bool (fleetB fl)) []:=by
 refine v_con [.tmp 2] [] Try.func62 rfl rfl rfl (by simp [Try.ntmps62]) ?_;intro Q0 n0 r0;simp only [Try.ntmps62,envFrom,Nat.reduceAdd];have T:=Tys.mk (ai Ty.t3 (ai Ty.t4 (ai Ty.t9 (ai Ty.t36 Ty.t60))));have F:=Fc.mk True.intro;refine yR [0] ⟨?_⟩;refine v_seq ?_;intros;refine yR [0,5,6,7] ⟨?_⟩;refine v_block ?_;intro Q4 n4 x4 e4 r4;refine v_loop (fun i=>⟨[(0,.sl (fl.map (fun t:TA=>V.agg [V.str t.1,V.int .i64 t.2.1,V.int .i64 t.2.2.1,V.int .i64 t.2.2.2.1,V.int .i64 t.2.2.2.2]))),(5,.sl (fl.map (fun t:TA=>V.agg [V.str t.1,V.int .i64 t.2.1,V.int .i64 t.2.2.1,V.int .i64 t.2.2.2.1,V.int .i64 t.2.2.2.2]))),(6,.int .i64 fl.length),(7,.int .i64 (Nat.cast i))],[],false,34,0⟩) (fun i=>i≤fl.length∧chainAt apOK apBf fl i=chainAt apOK apBf fl 0) (fun i=>fl.length - i) 0 ?_ ?_ ?_
 ·refine weak_of [0,5,6,7] ?_;simp only [keep_mk,keepE_nil,keepE_cons,look_cons,look_nil,Nat.reduceEqDiff,reduceIte];rfl
 ·exact ⟨qlg _,rfl⟩
 ·rintro i hok5 Q5 n5 e5 r5;obtain ⟨hi1,hR⟩:=hok5;refine yR [0,5,6,7,8] ⟨?_⟩;refine v_seq ?_;intros;refine v_condS _ rfl ?_ ?_
  ·intro hc0;have hlt:i < fl.length:=by omega
   obtain ⟨⟨x0,x1,x2,x3,x4⟩,hx⟩:∃x:TA,fl[i]? =some x:=⟨fl[i]'(by omega),qla (by omega)⟩;have hsx:=hls _ (qlb hx);simp only [] at hsx;rcases Nat.eq_zero_or_pos i with h0 | h0
   ·skip;have hi0:¬((0:Int) < (i:Int)):=by omega
    have hst:chainAt apOK apBf fl i=(apOK (x0,x1,x2,x3,x4) && chainAt apOK apBf fl (i+1)):=by subst h0;exact chain_zero hx
    refine zn [0,5,6,7] ⟨?_⟩;refine v_seq ?_;intros;refine v_block ?_;intros;have F:=Fc.mk (ai (gdm hx) (ai hi0 (ai @decide_false @Bool.and_false)));refine yR [0,3,4,5,6,7] ⟨?_⟩;refine v_seq ?_;intro Q12 n12 e12 r12;refine v_draw (by kernel_rfl) ?_;intro K13 q13 k13;show aAny _ _ _ _ 18 (Array.replicate 18 false) _;refine zdLoad q13 true 0 12 ?_;refine zoc 1 (apGood_con x0 x1 x2 x3 x4 hsx) ⟨?_⟩;refine zdUnOp q13 true 2 14 ?_;refine zdMove q13 true 3 15 ?_;refine zdgMove q13 true 4 16 ?_;refine zdgBinOp q13 true 5 17 ?_;refine zdgMove q13 true 6 18 ?_;refine zdgMove q13 true 7 19 ?_;refine zdgMove q13 true 8 20 ?_;refine zdgBinOpW q13 true 9 21 ?_;refine zdgIndexAddr q13 true 10 22 ?_;refine zdgFieldAddr q13 true 11 23 ?_;refine zdgLoad q13 true 12 24 ?_;refine zdgFieldAddr q13 true 13 25 ?_;refine zdgLoad q13 true 14 26 ?_;refine zdgBinOp q13 true 15 27 ?_;refine zdgPick q13 true 16 28 ?_;refine zdPick q13 true 17 29 ?_;refine aAny_done (by kernel_rfl) ?_;refine k13 _ ?_;refine n12 _ _ (weak_keep [0,5,6,7,29] _) ?_;refine zk ⟨?_⟩;refine v_condS _ rfl ?_ ?_
    ·intro hc1;refine yR [2] ⟨?_⟩;refine zr ⟨?_⟩;exact ret_pure rfl (by rw [fleetB,←hR,hst];clear hR hst;(try simp at hc1);first | (simp [hc1];done) | (rcases hc1 with h | h<;>simp [h,apBf];done) | (simp_all [apBf];done)) (.inl rfl)
    ·intro hc1;refine zn [0,5,6,7] ⟨?_⟩;refine yV ⟨?_⟩;refine n5 _ (i+1) ?_ ?_ ?_
     ·refine weak_bothS [0,5,6,7] [] ⟨?_⟩;rfl
     ·exact ⟨by omega,by rw [←hR,hst];clear hR hst;(try simp at hc1);first | (simp [hc1];done) | (simp_all [apBf];done)⟩
     ·show _ < _;omega
   ·skip;obtain ⟨⟨y0,y1,y2,y3,y4⟩,hy⟩:∃x:TA,fl[i - 1]? =some x:=⟨fl[i - 1]'(by omega),qla (by omega)⟩;have hi0:(0:Int) < i:=by omega
    have hk:((i:Int) - 1).toNat=i - 1:=by omega
    have hst:=chain_succ (ok:=apOK) (bf:=apBf) h0 hy hx;refine zn [0,5,6,7] ⟨?_⟩;refine v_seq ?_;intros;refine v_block ?_;intros;have F:=Fc.mk (ai (gdm hx) (ai hi0 (ai hk (ai (gdm hy) (ai @decide_true @Bool.and_true)))));refine yR [0,3,4,5,6,7] ⟨?_⟩;refine v_seq ?_;intro Q20 n20 e20 r20;refine v_draw (by kernel_rfl) ?_;intro K21 q21 k21;show aAny _ _ _ _ 18 (Array.replicate 18 false) _;refine zdLoad q21 true 0 12 ?_;refine zoc 1 (apGood_con x0 x1 x2 x3 x4 hsx) ⟨?_⟩;refine zdUnOp q21 true 2 14 ?_;refine zdMove q21 true 3 15 ?_;refine zdgMove q21 true 4 16 ?_;refine zdgBinOp q21 true 5 17 ?_;refine zdgMove q21 true 6 18 ?_;refine zdgMove q21 true 7 19 ?_;refine zdgMove q21 true 8 20 ?_;refine zdgBinOpW q21 true 9 21 ?_;refine zdgIndexAddr q21 true 10 22 ?_;refine zdgFieldAddr q21 true 11 23 ?_;refine zdgLoad q21 true 12 24 ?_;refine zdgFieldAddr q21 true 13 25 ?_;refine zdgLoad q21 true 14 26 ?_;refine zdgBinOp q21 true 15 27 ?_;refine zdgPick q21 true 16 28 ?_;refine zdPick q21 true 17 29 ?_;refine aAny_done (by kernel_rfl) ?_;refine k21 _ ?_;refine n20 _ _ (weak_keep [0,5,6,7,29] _) ?_;refine zk ⟨?_⟩;refine v_condS _ rfl ?_ ?_
    ·intro hc1;refine yR [2] ⟨?_⟩;refine zr ⟨?_⟩;exact ret_pure rfl (by rw [fleetB,←hR,hst];clear hR hst;(try simp at hc1);first | (simp [hc1];done) | (rcases hc1 with h | h<;>simp [h,apBf];done) | (simp_all [apBf];done)) (.inl rfl)
    ·intro hc1;refine zn [0,5,6,7] ⟨?_⟩;refine yV ⟨?_⟩;refine n5 _ (i+1) ?_ ?_ ?_
     ·refine weak_bothS [0,5,6,7] [] ⟨?_⟩;rfl
     ·exact ⟨by omega,by rw [←hR,hst];clear hR hst;(try simp at hc1);first | (simp [hc1];done) | (simp_all [apBf];done)⟩
     ·show _ < _;omega
  ·intro hc0;refine zn [0] ⟨?_⟩;refine yR [2] ⟨?_⟩;refine zr ⟨?_⟩;exact ret_pure rfl (by rw [fleetB,←hR,chain_end (by omega)];simp) (.inl rfl)
theorem isFleet_con (fl:List TA) (hl:fl.length≤1048576) (hls:∀t∈fl,t.1.size≤9223372036854775807):Con Try.prog 50 [.sl (fl.map (fun t:TA=>V.agg [V.str t.1,V.int .i64 t.2.1,V.int .i64 t.2.2.1,V.int .i64 t.2.2.2.1,V.int .i64 t.2.2.2.2]))] [] (.bool (fleetB fl)) []:=by
 refine v_con [.tmp 2] [] Try.func50 rfl rfl rfl (by simp [Try.ntmps50]) ?_;intro Q0 n0 r0;simp only [Try.ntmps50,envFrom,Nat.reduceAdd];have T:=Tys.mk (ai Ty.t3 (ai Ty.t4 (ai Ty.t9 (ai Ty.t36 Ty.t60))));have F:=Fc.mk True.intro;refine yR [0] ⟨?_⟩;refine v_seq ?_;intros;refine yR [0,5,6,7] ⟨?_⟩;refine v_block ?_;intro Q4 n4 x4 e4 r4;refine v_loop (fun i=>⟨[(0,.sl (fl.map (fun t:TA=>V.agg [V.str t.1,V.int .i64 t.2.1,V.int .i64 t.2.2.1,V.int .i64 t.2.2.2.1,V.int .i64 t.2.2.2.2]))),(5,.sl (fl.map (fun t:TA=>V.agg [V.str t.1,V.int .i64 t.2.1,V.int .i64 t.2.2.1,V.int .i64 t.2.2.2.1,V.int .i64 t.2.2.2.2]))),(6,.int .i64 fl.length),(7,.int .i64 (Nat.cast i))],[],false,34,0⟩) (fun i=>i≤fl.length∧chainAt apOK apBf fl i=chainAt apOK apBf fl 0) (fun i=>fl.length - i) 0 ?_ ?_ ?_
 ·refine weak_of [0,5,6,7] ?_;simp only [keep_mk,keepE_nil,keepE_cons,look_cons,look_nil,Nat.reduceEqDiff,reduceIte];rfl
 ·exact ⟨qlg _,rfl⟩
 ·rintro i hok5 Q5 n5 e5 r5;obtain ⟨hi1,hR⟩:=hok5;refine yR [0,5,6,7,8] ⟨?_⟩;refine v_seq ?_;intros;refine v_condS _ rfl ?_ ?_
  ·intro hc0;have hlt:i < fl.length:=by omega
   obtain ⟨⟨x0,x1,x2,x3,x4⟩,hx⟩:∃x:TA,fl[i]? =some x:=⟨fl[i]'(by omega),qla (by omega)⟩;have hsx:=hls _ (qlb hx);simp only [] at hsx;rcases Nat.eq_zero_or_pos i with h0 | h0
   ·skip;have hi0:¬((0:Int) < (i:Int)):=by omega
    have hst:chainAt apOK apBf fl i=(apOK (x0,x1,x2,x3,x4) && chainAt apOK apBf fl (i+1)):=by subst h0;exact chain_zero hx
    refine zn [0,5,6,7] ⟨?_⟩;refine v_seq ?_;intros;refine v_block ?_;intros;have F:=Fc.mk (ai (gdm hx) (ai hi0 (ai @decide_false @Bool.and_false)));refine yR [0,3,4,5,6,7] ⟨?_⟩;refine v_seq ?_;intro Q12 n12 e12 r12;refine v_draw (by kernel_rfl) ?_;intro K13 q13 k13;show aAny _ _ _ _ 18 (Array.replicate 18 false) _;refine zdLoad q13 true 0 12 ?_;refine zoc 1 (isAppliance_con x0 x1 x2 x3 x4 hsx) ⟨?_⟩;refine zdUnOp q13 true 2 14 ?_;refine zdMove q13 true 3 15 ?_;refine zdgMove q13 true 4 16 ?_;refine zdgBinOp q13 true 5 17 ?_;refine zdgMove q13 true 6 18 ?_;refine zdgMove q13 true 7 19 ?_;refine zdgMove q13 true 8 20 ?_;refine zdgBinOpW q13 true 9 21 ?_;refine zdgIndexAddr q13 true 10 22 ?_;refine zdgFieldAddr q13 true 11 23 ?_;refine zdgLoad q13 true 12 24 ?_;refine zdgFieldAddr q13 true 13 25 ?_;refine zdgLoad q13 true 14 26 ?_;refine zdgBinOp q13 true 15 27 ?_;refine zdgPick q13 true 16 28 ?_;refine zdPick q13 true 17 29 ?_;refine aAny_done (by kernel_rfl) ?_;refine k13 _ ?_;refine n12 _ _ (weak_keep [0,5,6,7,29] _) ?_;refine zk ⟨?_⟩;refine v_condS _ rfl ?_ ?_
    ·intro hc1;refine yR [2] ⟨?_⟩;refine zr ⟨?_⟩;exact ret_pure rfl (by rw [fleetB,←hR,hst];clear hR hst;(try simp at hc1);first | (simp [hc1];done) | (rcases hc1 with h | h<;>simp [h,apBf];done) | (simp_all [apBf];done)) (.inl rfl)
    ·intro hc1;refine zn [0,5,6,7] ⟨?_⟩;refine yV ⟨?_⟩;refine n5 _ (i+1) ?_ ?_ ?_
     ·refine weak_bothS [0,5,6,7] [] ⟨?_⟩;rfl
     ·exact ⟨by omega,by rw [←hR,hst];clear hR hst;(try simp at hc1);first | (simp [hc1];done) | (simp_all [apBf];done)⟩
     ·show _ < _;omega
   ·skip;obtain ⟨⟨y0,y1,y2,y3,y4⟩,hy⟩:∃x:TA,fl[i - 1]? =some x:=⟨fl[i - 1]'(by omega),qla (by omega)⟩;have hi0:(0:Int) < i:=by omega
    have hk:((i:Int) - 1).toNat=i - 1:=by omega
    have hst:=chain_succ (ok:=apOK) (bf:=apBf) h0 hy hx;refine zn [0,5,6,7] ⟨?_⟩;refine v_seq ?_;intros;refine v_block ?_;intros;have F:=Fc.mk (ai (gdm hx) (ai hi0 (ai hk (ai (gdm hy) (ai @decide_true @Bool.and_true)))));refine yR [0,3,4,5,6,7] ⟨?_⟩;refine v_seq ?_;intro Q20 n20 e20 r20;refine v_draw (by kernel_rfl) ?_;intro K21 q21 k21;show aAny _ _ _ _ 18 (Array.replicate 18 false) _;refine zdLoad q21 true 0 12 ?_;refine zoc 1 (isAppliance_con x0 x1 x2 x3 x4 hsx) ⟨?_⟩;refine zdUnOp q21 true 2 14 ?_;refine zdMove q21 true 3 15 ?_;refine zdgMove q21 true 4 16 ?_;refine zdgBinOp q21 true 5 17 ?_;refine zdgMove q21 true 6 18 ?_;refine zdgMove q21 true 7 19 ?_;refine zdgMove q21 true 8 20 ?_;refine zdgBinOpW q21 true 9 21 ?_;refine zdgIndexAddr q21 true 10 22 ?_;refine zdgFieldAddr q21 true 11 23 ?_;refine zdgLoad q21 true 12 24 ?_;refine zdgFieldAddr q21 true 13 25 ?_;refine zdgLoad q21 true 14 26 ?_;refine zdgBinOp q21 true 15 27 ?_;refine zdgPick q21 true 16 28 ?_;refine zdPick q21 true 17 29 ?_;refine aAny_done (by kernel_rfl) ?_;refine k21 _ ?_;refine n20 _ _ (weak_keep [0,5,6,7,29] _) ?_;refine zk ⟨?_⟩;refine v_condS _ rfl ?_ ?_
    ·intro hc1;refine yR [2] ⟨?_⟩;refine zr ⟨?_⟩;exact ret_pure rfl (by rw [fleetB,←hR,hst];clear hR hst;(try simp at hc1);first | (simp [hc1];done) | (rcases hc1 with h | h<;>simp [h,apBf];done) | (simp_all [apBf];done)) (.inl rfl)
    ·intro hc1;refine zn [0,5,6,7] ⟨?_⟩;refine yV ⟨?_⟩;refine n5 _ (i+1) ?_ ?_ ?_
     ·refine weak_bothS [0,5,6,7] [] ⟨?_⟩;rfl
     ·exact ⟨by omega,by rw [←hR,hst];clear hR hst;(try simp at hc1);first | (simp [hc1];done) | (simp_all [apBf];done)⟩
     ·show _ < _;omega
  ·intro hc0;refine zn [0] ⟨?_⟩;refine yR [2] ⟨?_⟩;refine zr ⟨?_⟩;exact ret_pure rfl (by rw [fleetB,←hR,chain_end (by omega)];simp) (.inl rfl)
end Go.Proofs.Ytmhaafinhpopmaa
