/- What functions compute. No condition. -/
import Derived.Test.YtaefoaghpehbpaaGreatDoorUz
import Derived.Test.YtaefoaghpehbpaaGreatDoorUty
import Derived.Test.YtaefoaghpehbpaaGreatDoorUmG
import Derived.Test.YtaefoaghpehbpaaGreatDoorX3
import Derived.Test.YtaefoaghpehbpaaGreatDoorX1
import Derived.Test.YtaefoaghpehbpaaGreatDoorX4
set_option linter.unusedSimpArgs false
set_option linter.unusedVariables false
set_option linter.defProp false
namespace Go.Proofs.YtaefoaghpehbpaaGreatDoor
open Go Go.Vm
set_option maxHeartbeats 1000000 in
theorem szTown_con (n:Int) (ss:List (Int×Int×Int)) (m:Int) (hn:0≤m∧m≤1048576) (hl:ss.length≤9223372036854775807):Con Tryz.prog 6 [.agg [.int .i64 n,.sl (ss.map (fun t:Int×Int×Int=>V.agg [V.int .i64 t.1,V.int .i64 t.2.1,V.int .i64 t.2.2]))],.int .i64 m] [] (.int .i64 (if m - (ss.length:Int) < 0 then -1 else m - (ss.length:Int))) []:=by
 refine v_con [.tmp 4] [] Tryz.func6 rfl rfl rfl (by simp [Tryz.ntmps6]) ?_
 intro Q0 n0 r0
 simp only [Tryz.ntmps6,envFrom,Nat.reduceAdd]
 have T:=Tys.mk (And.intro Ty.t3 (And.intro Ty.t22 (And.intro Ty.t24 Ty.t155)))
 have F:=Fc.mk True.intro
 refine v_seqR [1,2] ?_;intro K1 k1;refine zq9 ⟨?_⟩;refine k1 _ ?_;refine zk ⟨?_⟩;refine v_seqR [1] ?_;intro K2 k2;refine zq26 ⟨?_⟩;refine zc (szStreetS_con m ss hn hl) ⟨?_⟩;refine zAssign ⟨?_⟩;refine k2 _ ?_;refine zk ⟨?_⟩;refine v_seq ?_;intro Q3 n3 e3 r3;refine v_seqR [1,10] ?_;intro K4 k4;refine zq13 ⟨?_⟩;refine k4 _ ?_;refine zk ⟨?_⟩;refine v_condS _ rfl ?_ ?_
 ·intro hc0
  refine v_seqR [4] ?_;intro K6 k6;refine zAssign ⟨?_⟩;refine k6 _ ?_;refine zk ⟨?_⟩;refine v_ret ?_;refine r3 _ ?_;refine r0 _ ?_;refine zf ⟨?_⟩
  exact ret_pure rfl (by split at hc0<;>first | omega | (simp only [*];done) | (rw [if_pos (by omega)])) (.inl rfl)
 ·intro hc0
  refine v_skip ?_;refine n3 _ _ (weak_keep [1] _) ?_;refine zk ⟨?_⟩;refine v_seqR [4] ?_;intro K7 k7;refine zq8 ⟨?_⟩;refine k7 _ ?_;refine zk ⟨?_⟩;refine v_ret ?_;refine r0 _ ?_;refine zf ⟨?_⟩
  exact ret_pure rfl rfl (.inl rfl)
set_option maxHeartbeats 1000000 in
theorem toTown_con (n:Int) (ss:List (Int×Int×Int)) (hl:ss.length≤1048576):Con Tryz.prog 9 [.agg [.int .i64 n,.sl (ss.map (fun t:Int×Int×Int=>V.agg [V.int .i64 t.1,V.int .i64 t.2.1,V.int .i64 t.2.2]))]] [] (.agg [.int .i64 n,.ref 0]) [.arr (ss.map (fun t:Int×Int×Int=>V.agg [V.int .i64 t.1,V.int .i64 t.2.1,V.int .i64 t.2.2])) .flat]:=by
 refine v_con [.cell 2 36] [] Tryz.func9 rfl rfl rfl (by simp [Tryz.ntmps9]) ?_
 intro Q0 n0 r0
 simp only [Tryz.ntmps9,envFrom,Nat.reduceAdd]
 have T:=Tys.mk (And.intro Ty.t3 (And.intro Ty.t22 (And.intro Ty.t24 (And.intro Ty.t34 (And.intro Ty.t36 (And.intro Ty.t153 Ty.t155))))))
 have F:=Fc.mk True.intro
 refine v_seqR [1,2] ?_;intro K1 k1;refine zq50 ⟨?_⟩;refine k1 _ ?_;refine zk ⟨?_⟩;refine v_seqR [1,2,3] ?_;intro K2 k2;refine zAlloc ⟨?_⟩;refine k2 _ ?_;refine zk ⟨?_⟩;refine v_seqR [1,2,3] ?_;intro K3 k3;refine zq30 ⟨?_⟩;refine k3 _ ?_;refine zk ⟨?_⟩;refine v_seqR [2,3] ?_;intro K4 k4;refine zq1 ⟨?_⟩;refine zc (toStreetS_con ss hl) ⟨?_⟩;refine zq24 ⟨?_⟩;refine k4 _ ?_;refine zk ⟨?_⟩;refine v_seqR [2] ?_;intro K5 k5;refine zq49 ⟨?_⟩;refine k5 _ ?_;refine zk ⟨?_⟩;refine v_ret ?_;refine r0 _ ?_;refine zf ⟨?_⟩
 simp only [zE,zL,zO,zN,aStepM,optable,set_some,Nat.reduceEqDiff,reduceIte,Nat.reduceLT,implies_true,forall_const,reduceCtorEq,V.ofValue,V.ofScalar,V.un,V.gd,aLoad,row_mk,Blk.row,PartOK,Go.Vm.part,V.cells,V.noSl,V.noRef,Nat.reduceAdd,Nat.reduceLeDiff,Nat.reduceMul,Tryz.underlying3,Ty.c3,Ty.a3,Tryz.underlying34,Ty.c34,Ty.a34,Tryz.underlying36,Ty.c36,Ty.a36]
 exact ret_gen [5] rfl rfl (by decide) rfl (by simp) (by simp [Blk.kindIs]) rfl
set_option maxHeartbeats 1000000 in
theorem eqTown_con (n:Int) (ss:List (Int×Int×Int)) (hl:ss.length≤1048576):Con Tryz.prog 12 [.agg [.int .i64 n,.sl (ss.map (fun t:Int×Int×Int=>V.agg [V.int .i64 t.1,V.int .i64 t.2.1,V.int .i64 t.2.2]))],.agg [.int .i64 n,.sl (ss.map (fun t:Int×Int×Int=>V.agg [V.int .i64 t.1,V.int .i64 t.2.1,V.int .i64 t.2.2]))]] [] (.bool true) []:=by
 refine v_con [.tmp 4] [] Tryz.func12 rfl rfl rfl (by simp [Tryz.ntmps12]) ?_
 intro Q0 n0 r0
 simp only [Tryz.ntmps12,envFrom,Nat.reduceAdd]
 have T:=Tys.mk (And.intro Ty.t3 (And.intro Ty.t4 (And.intro Ty.t34 (And.intro Ty.t36 Ty.t153))))
 have F:=Fc.mk True.intro
 refine v_seqR [2,3] ?_;intro K1 k1;refine zq32 ⟨?_⟩;refine k1 _ ?_;refine zk ⟨?_⟩;refine v_seq ?_;intro Q2 n2 e2 r2;refine v_seqR [2,3,9] ?_;intro K3 k3;refine zq27 ⟨?_⟩;refine k3 _ ?_;refine zk ⟨?_⟩;refine v_cond _ rfl ?_ ?_
 ·intro hc0
  exfalso;simp at hc0
 ·intro hc0
  try simp only [zC,reduceCtorEq] at hc0
  refine v_skip ?_;refine n2 _ _ (weak_keep [2,3] _) ?_;refine zk ⟨?_⟩;refine v_seq ?_;intro Q5 n5 e5 r5;refine v_seqR [15] ?_;intro K6 k6;refine zq19 ⟨?_⟩;refine zc (eqStreetS_con ss ss hl) ⟨?_⟩;refine zUnOp ⟨?_⟩;refine k6 _ ?_;refine zk ⟨?_⟩;refine v_cond _ rfl ?_ ?_
  ·intro hc1
   exfalso;simp at hc1
  ·intro hc1
   try simp only [zC,reduceCtorEq] at hc1
   refine v_skip ?_;refine n5 _ _ (weak_keep [] _) ?_;refine zk ⟨?_⟩;refine v_seqR [4] ?_;intro K8 k8;refine zAssign ⟨?_⟩;refine k8 _ ?_;refine zk ⟨?_⟩;refine v_ret ?_;refine r0 _ ?_;refine zf ⟨?_⟩
   exact ret_pure rfl rfl (.inl rfl)
def apOK (x:(ByteArray×Int×Int×Int×Int)):Bool:=nameB x.1 && (decide (0≤x.2.1) && decide (x.2.1≤3)) && (decide (0≤x.2.2.1) && decide (x.2.2.1≤13)) && (decide (1≤x.2.2.2.1) && decide (x.2.2.2.1≤9)) && (decide (0≤x.2.2.2.2) && decide (x.2.2.2.2≤5))
def apBf (x y:(ByteArray×Int×Int×Int×Int)):Bool:=strLt x.1 y.1
def fleetB (l:List (ByteArray×Int×Int×Int×Int)):Bool:=chainAt apOK apBf l 0 && decide ((l.length:Int)≤12)
theorem fleet_len {l:List (ByteArray×Int×Int×Int×Int)} (h:fleetB l=true):l.length≤12:=by
  simp only [fleetB,Bool.and_eq_true,decide_eq_true_eq] at h
  omega
set_option maxHeartbeats 1000000 in
theorem apState_con (n:Int):Con Tryz.prog 149 [.int .i64 n] [] (.bool (decide (0≤n) && decide (n≤5))) []:=by
 refine v_con [.tmp 2] [] Tryz.func149 rfl rfl rfl (by simp [Tryz.ntmps149]) ?_
 intro Q0 n0 r0
 simp only [Tryz.ntmps149,envFrom,Nat.reduceAdd]
 have T:=Tys.mk (And.intro Ty.t3 Ty.t4)
 have F:=Fc.mk True.intro
 refine v_seqR [0] ?_;intro K1 k1;refine zAssign ⟨?_⟩;refine k1 _ ?_;refine zk ⟨?_⟩;refine v_seqR [2] ?_;intro K2 k2;refine zMove ⟨?_⟩;refine zc (l1In_con _ _ _) ⟨?_⟩;refine zAssign ⟨?_⟩;refine k2 _ ?_;refine zk ⟨?_⟩;refine v_ret ?_;refine r0 _ ?_;refine zf ⟨?_⟩
 exact ret_pure rfl (by first | rfl | simp) (.inl rfl)
set_option maxHeartbeats 1000000 in
theorem isState_con (n:Int):Con Tryz.prog 201 [.int .i64 n] [] (.bool (decide (0≤n) && decide (n≤5))) []:=by
 refine v_con [.tmp 2] [] Tryz.func201 rfl rfl rfl (by simp [Tryz.ntmps201]) ?_
 intro Q0 n0 r0
 simp only [Tryz.ntmps201,envFrom,Nat.reduceAdd]
 have T:=Tys.mk (And.intro Ty.t3 Ty.t4)
 have F:=Fc.mk True.intro
 refine v_seqR [0] ?_;intro K1 k1;refine zAssign ⟨?_⟩;refine k1 _ ?_;refine zk ⟨?_⟩;refine v_seqR [2] ?_;intro K2 k2;refine zMove ⟨?_⟩;refine zc (inside_con _ _ _) ⟨?_⟩;refine zAssign ⟨?_⟩;refine k2 _ ?_;refine zk ⟨?_⟩;refine v_ret ?_;refine r0 _ ?_;refine zf ⟨?_⟩
 exact ret_pure rfl (by first | rfl | simp) (.inl rfl)
set_option maxHeartbeats 1000000 in
theorem apNode_con (n:Int):Con Tryz.prog 169 [.int .i64 n] [] (.bool (decide (0≤n) && decide (n≤13))) []:=by
 refine v_con [.tmp 2] [] Tryz.func169 rfl rfl rfl (by simp [Tryz.ntmps169]) ?_
 intro Q0 n0 r0
 simp only [Tryz.ntmps169,envFrom,Nat.reduceAdd]
 have T:=Tys.mk (And.intro Ty.t3 Ty.t4)
 have F:=Fc.mk True.intro
 refine v_seqR [0] ?_;intro K1 k1;refine zAssign ⟨?_⟩;refine k1 _ ?_;refine zk ⟨?_⟩;refine v_seqR [2] ?_;intro K2 k2;refine zMove ⟨?_⟩;refine zc (l1In_con _ _ _) ⟨?_⟩;refine zAssign ⟨?_⟩;refine k2 _ ?_;refine zk ⟨?_⟩;refine v_ret ?_;refine r0 _ ?_;refine zf ⟨?_⟩
 exact ret_pure rfl (by first | rfl | simp) (.inl rfl)
set_option maxHeartbeats 1000000 in
theorem apGood_con (x0:ByteArray) (x1:Int) (x2:Int) (x3:Int) (x4:Int) (hs:x0.size≤9223372036854775807):Con Tryz.prog 97 [.agg [V.str x0,V.int .i64 x1,V.int .i64 x2,V.int .i64 x3,V.int .i64 x4]] [] (.bool (apOK (x0,x1,x2,x3,x4))) []:=by
 refine v_con [.tmp 2] [] Tryz.func97 rfl rfl rfl (by simp [Tryz.ntmps97]) ?_
 intro Q0 n0 r0
 simp only [Tryz.ntmps97,envFrom,Nat.reduceAdd]
 have T:=Tys.mk (And.intro Ty.t3 (And.intro Ty.t4 (And.intro Ty.t9 Ty.t76)))
 have F:=Fc.mk True.intro
 refine v_seqR [1] ?_;intro K1 k1;refine zq9 ⟨?_⟩;refine k1 _ ?_;refine zk ⟨?_⟩;refine v_seqR [2] ?_;intro K2 k2;refine zq1 ⟨?_⟩;refine zc (apName_con _ hs) ⟨?_⟩;refine zq16 ⟨?_⟩;refine zgc (l1In_con _ _ _) ⟨?_⟩;refine zq28 ⟨?_⟩;refine zgc (apNode_con _) ⟨?_⟩;refine zq28 ⟨?_⟩;refine zgc (l1In_con _ _ _) ⟨?_⟩;refine zq28 ⟨?_⟩;refine zgc (apState_con _) ⟨?_⟩;refine zq29 ⟨?_⟩;refine k2 _ ?_;refine zk ⟨?_⟩;refine v_ret ?_;refine r0 _ ?_;refine zf ⟨?_⟩
 exact ret_pure rfl (by first | rfl | simp [apOK,Bool.and_assoc]) (.inl rfl)
set_option maxHeartbeats 1000000 in
theorem isAppliance_con (x0:ByteArray) (x1:Int) (x2:Int) (x3:Int) (x4:Int) (hs:x0.size≤9223372036854775807):Con Tryz.prog 214 [.agg [V.str x0,V.int .i64 x1,V.int .i64 x2,V.int .i64 x3,V.int .i64 x4]] [] (.bool (apOK (x0,x1,x2,x3,x4))) []:=by
 refine v_con [.tmp 2] [] Tryz.func214 rfl rfl rfl (by simp [Tryz.ntmps214]) ?_
 intro Q0 n0 r0
 simp only [Tryz.ntmps214,envFrom,Nat.reduceAdd]
 have T:=Tys.mk (And.intro Ty.t3 (And.intro Ty.t4 (And.intro Ty.t9 Ty.t76)))
 have F:=Fc.mk True.intro
 refine v_seqR [1] ?_;intro K1 k1;refine zq9 ⟨?_⟩;refine k1 _ ?_;refine zk ⟨?_⟩;refine v_seqR [2] ?_;intro K2 k2;refine zq1 ⟨?_⟩;refine zc (isName_con _ hs) ⟨?_⟩;refine zq16 ⟨?_⟩;refine zgc (inside_con _ _ _) ⟨?_⟩;refine zq28 ⟨?_⟩;refine zgc (inside_con _ _ _) ⟨?_⟩;refine zq28 ⟨?_⟩;refine zgc (inside_con _ _ _) ⟨?_⟩;refine zq28 ⟨?_⟩;refine zgc (isState_con _) ⟨?_⟩;refine zq29 ⟨?_⟩;refine k2 _ ?_;refine zk ⟨?_⟩;refine v_ret ?_;refine r0 _ ?_;refine zf ⟨?_⟩
 exact ret_pure rfl (by first | rfl | simp [apOK,Bool.and_assoc]) (.inl rfl)
set_option maxHeartbeats 1000000 in
theorem apFleet_con (fl:List (ByteArray×Int×Int×Int×Int)) (hl:fl.length≤1048576) (hls:∀t∈fl,t.1.size≤9223372036854775807):Con Tryz.prog 108 [.sl (fl.map (fun t:ByteArray×Int×Int×Int×Int=>V.agg [V.str t.1,V.int .i64 t.2.1,V.int .i64 t.2.2.1,V.int .i64 t.2.2.2.1,V.int .i64 t.2.2.2.2]))] [] (.bool (fleetB fl)) []:=by
 refine v_con [.tmp 2] [] Tryz.func108 rfl rfl rfl (by simp [Tryz.ntmps108]) ?_
 intro Q0 n0 r0
 simp only [Tryz.ntmps108,envFrom,Nat.reduceAdd]
 have T:=Tys.mk (And.intro Ty.t3 (And.intro Ty.t4 (And.intro Ty.t9 (And.intro Ty.t38 Ty.t76))))
 have F:=Fc.mk True.intro
 refine v_seqR [0] ?_;intro K1 k1;refine zAssign ⟨?_⟩;refine k1 _ ?_;refine zk ⟨?_⟩;refine v_seq ?_;intro Q2 n2 e2 r2;refine v_seqR [0,5,6,7] ?_;intro K3 k3;refine zq15 ⟨?_⟩;refine k3 _ ?_;refine zk ⟨?_⟩;refine v_block ?_;intro Q4 n4 x4 e4 r4;refine v_loop (fun i=>⟨[(0,.sl (fl.map (fun t:ByteArray×Int×Int×Int×Int=>V.agg [V.str t.1,V.int .i64 t.2.1,V.int .i64 t.2.2.1,V.int .i64 t.2.2.2.1,V.int .i64 t.2.2.2.2]))),(5,.sl (fl.map (fun t:ByteArray×Int×Int×Int×Int=>V.agg [V.str t.1,V.int .i64 t.2.1,V.int .i64 t.2.2.1,V.int .i64 t.2.2.2.1,V.int .i64 t.2.2.2.2]))),(6,.int .i64 fl.length),(7,.int .i64 (Nat.cast i))],[],false,34,0⟩) (fun i=>i≤fl.length∧chainAt apOK apBf fl i=chainAt apOK apBf fl 0) (fun i=>fl.length - i) 0 ?_ ?_ ?_
 ·refine weak_of [0,5,6,7] ?_
  simp only [keep_mk,keepE_nil,keepE_cons,look_cons,look_nil,Nat.reduceEqDiff,reduceIte]
  rfl
 ·exact ⟨Nat.zero_le _,rfl⟩
 ·rintro i hok5 Q5 n5 e5 r5
  obtain ⟨hi1,hR⟩:=hok5
  refine v_seqR [0,5,6,7,8] ?_;intro K6 k6;refine zBinOp ⟨?_⟩;refine k6 _ ?_;refine zk ⟨?_⟩;refine v_seq ?_;intro Q7 n7 e7 r7;refine v_condS _ rfl ?_ ?_
  ·intro hc0
   have hlt:i < fl.length:=by omega
   obtain ⟨⟨x0,x1,x2,x3,x4⟩,hx⟩:∃x:ByteArray×Int×Int×Int×Int,fl[i]? =some x:=⟨fl[i]'(by omega),List.getElem?_eq_getElem (by omega)⟩
   have hsx:=hls _ (List.mem_of_getElem? hx)
   simp only [] at hsx
   rcases Nat.eq_zero_or_pos i with h0 | h0
   ·skip
    have hi0:¬((0:Int) < (i:Int)):=by omega
    have hst:chainAt apOK apBf fl i=(apOK (x0,x1,x2,x3,x4) && chainAt apOK apBf fl (i+1)):=by subst h0;exact chain_zero hx
    refine v_skip ?_;refine n7 _ _ (weak_keep [0,5,6,7] _) ?_;refine zk ⟨?_⟩;refine v_seq ?_;intro Q9 n9 e9 r9;refine v_block ?_;intro Q10 n10 x10 e10 r10;refine v_seqR [0,3,4,5,6,7] ?_;intro K11 k11
    have F:=Fc.mk (And.intro (fun f=>getD_map (f:=f) hx) (And.intro hi0 (And.intro @decide_false @Bool.and_false)))
    refine zq23 ⟨?_⟩;refine k11 _ ?_;refine zk ⟨?_⟩;refine v_seq ?_;intro Q12 n12 e12 r12;refine v_draw (by kernel_rfl) ?_;intro K13 q13 k13
    show aAny _ _ _ _ 18 (Array.replicate 18 false) _
    refine zdLoad q13 true 0 12 ?_;refine zoc 1 (apGood_con x0 x1 x2 x3 x4 hsx) ⟨?_⟩;refine zdUnOp q13 true 2 14 ?_;refine zdMove q13 true 3 15 ?_;refine zdgMove q13 true 4 16 ?_;refine zdgBinOp q13 true 5 17 ?_;refine zdgMove q13 true 6 18 ?_;refine zdgMove q13 true 7 19 ?_;refine zdgMove q13 true 8 20 ?_;refine zdgBinOpW q13 true 9 21 ?_;refine zdgIndexAddr q13 true 10 22 ?_;refine zdgFieldAddr q13 true 11 23 ?_;refine zdgLoad q13 true 12 24 ?_;refine zdgFieldAddr q13 true 13 25 ?_;refine zdgLoad q13 true 14 26 ?_;refine zdgBinOp q13 true 15 27 ?_;refine zdgPick q13 true 16 28 ?_;refine zdPick q13 true 17 29 ?_;refine aAny_done (by kernel_rfl) ?_;refine k13 _ ?_;refine n12 _ _ (weak_keep [0,5,6,7,29] _) ?_;refine zk ⟨?_⟩;refine v_condS _ rfl ?_ ?_
    ·intro hc1
     refine v_seqR [2] ?_;intro K15 k15;refine zAssign ⟨?_⟩;refine k15 _ ?_;refine zk ⟨?_⟩;refine v_ret ?_;refine r10 _ ?_;refine r9 _ ?_;refine r5 _ ?_;refine r4 _ ?_;refine r2 _ ?_;refine r0 _ ?_;refine zf ⟨?_⟩
     exact ret_pure rfl (by rw [fleetB,←hR,hst];clear hR hst;(try simp at hc1);first | (simp [hc1];done) | (rcases hc1 with h | h<;>simp [h,apBf];done) | (simp_all [apBf];done)) (.inl rfl)
    ·intro hc1
     refine v_skip ?_;refine n10 _ ?_;refine n9 _ _ (weak_keep [0,5,6,7] _) ?_;refine zk ⟨?_⟩;refine v_region ?_;intro K16 k16;refine zq5 ⟨?_⟩;refine k16 _ ?_;refine n5 _ (i+1) ?_ ?_ ?_
     ·refine weak_bothS [0,5,6,7] [] ⟨?_⟩
      rfl
     ·exact ⟨by omega,by rw [←hR,hst];clear hR hst;(try simp at hc1);first | (simp [hc1];done) | (simp_all [apBf];done)⟩
     ·show _ < _;omega
   ·skip
    obtain ⟨⟨y0,y1,y2,y3,y4⟩,hy⟩:∃x:ByteArray×Int×Int×Int×Int,fl[i - 1]? =some x:=⟨fl[i - 1]'(by omega),List.getElem?_eq_getElem (by omega)⟩
    have hi0:(0:Int) < i:=by omega
    have hk:((i:Int) - 1).toNat=i - 1:=by omega
    have hst:=chain_succ (ok:=apOK) (bf:=apBf) h0 hy hx
    refine v_skip ?_;refine n7 _ _ (weak_keep [0,5,6,7] _) ?_;refine zk ⟨?_⟩;refine v_seq ?_;intro Q17 n17 e17 r17;refine v_block ?_;intro Q18 n18 x18 e18 r18;refine v_seqR [0,3,4,5,6,7] ?_;intro K19 k19
    have F:=Fc.mk (And.intro (fun f=>getD_map (f:=f) hx) (And.intro hi0 (And.intro hk (And.intro (fun f=>getD_map (f:=f) hy) (And.intro @decide_true @Bool.and_true)))))
    refine zq23 ⟨?_⟩;refine k19 _ ?_;refine zk ⟨?_⟩;refine v_seq ?_;intro Q20 n20 e20 r20;refine v_draw (by kernel_rfl) ?_;intro K21 q21 k21
    show aAny _ _ _ _ 18 (Array.replicate 18 false) _
    refine zdLoad q21 true 0 12 ?_;refine zoc 1 (apGood_con x0 x1 x2 x3 x4 hsx) ⟨?_⟩;refine zdUnOp q21 true 2 14 ?_;refine zdMove q21 true 3 15 ?_;refine zdgMove q21 true 4 16 ?_;refine zdgBinOp q21 true 5 17 ?_;refine zdgMove q21 true 6 18 ?_;refine zdgMove q21 true 7 19 ?_;refine zdgMove q21 true 8 20 ?_;refine zdgBinOpW q21 true 9 21 ?_;refine zdgIndexAddr q21 true 10 22 ?_;refine zdgFieldAddr q21 true 11 23 ?_;refine zdgLoad q21 true 12 24 ?_;refine zdgFieldAddr q21 true 13 25 ?_;refine zdgLoad q21 true 14 26 ?_;refine zdgBinOp q21 true 15 27 ?_;refine zdgPick q21 true 16 28 ?_;refine zdPick q21 true 17 29 ?_;refine aAny_done (by kernel_rfl) ?_;refine k21 _ ?_;refine n20 _ _ (weak_keep [0,5,6,7,29] _) ?_;refine zk ⟨?_⟩;refine v_condS _ rfl ?_ ?_
    ·intro hc1
     refine v_seqR [2] ?_;intro K23 k23;refine zAssign ⟨?_⟩;refine k23 _ ?_;refine zk ⟨?_⟩;refine v_ret ?_;refine r18 _ ?_;refine r17 _ ?_;refine r5 _ ?_;refine r4 _ ?_;refine r2 _ ?_;refine r0 _ ?_;refine zf ⟨?_⟩
     exact ret_pure rfl (by rw [fleetB,←hR,hst];clear hR hst;(try simp at hc1);first | (simp [hc1];done) | (rcases hc1 with h | h<;>simp [h,apBf];done) | (simp_all [apBf];done)) (.inl rfl)
    ·intro hc1
     refine v_skip ?_;refine n18 _ ?_;refine n17 _ _ (weak_keep [0,5,6,7] _) ?_;refine zk ⟨?_⟩;refine v_region ?_;intro K24 k24;refine zq5 ⟨?_⟩;refine k24 _ ?_;refine n5 _ (i+1) ?_ ?_ ?_
     ·refine weak_bothS [0,5,6,7] [] ⟨?_⟩
      rfl
     ·exact ⟨by omega,by rw [←hR,hst];clear hR hst;(try simp at hc1);first | (simp [hc1];done) | (simp_all [apBf];done)⟩
     ·show _ < _;omega
  ·intro hc0
   refine v_exit ?_;refine e7 _ _ ?_;refine e5 _ _ ?_;refine x4 _ ?_;refine n2 _ _ (weak_keep [0] _) ?_;refine zk ⟨?_⟩;refine v_seqR [2] ?_;intro K25 k25;refine zq40 ⟨?_⟩;refine zAssign ⟨?_⟩;refine k25 _ ?_;refine zk ⟨?_⟩;refine v_ret ?_;refine r0 _ ?_;refine zf ⟨?_⟩
   exact ret_pure rfl (by rw [fleetB,←hR,chain_end (by omega)];simp) (.inl rfl)
set_option maxHeartbeats 1000000 in
theorem isFleet_con (fl:List (ByteArray×Int×Int×Int×Int)) (hl:fl.length≤1048576) (hls:∀t∈fl,t.1.size≤9223372036854775807):Con Tryz.prog 181 [.sl (fl.map (fun t:ByteArray×Int×Int×Int×Int=>V.agg [V.str t.1,V.int .i64 t.2.1,V.int .i64 t.2.2.1,V.int .i64 t.2.2.2.1,V.int .i64 t.2.2.2.2]))] [] (.bool (fleetB fl)) []:=by
 refine v_con [.tmp 2] [] Tryz.func181 rfl rfl rfl (by simp [Tryz.ntmps181]) ?_
 intro Q0 n0 r0
 simp only [Tryz.ntmps181,envFrom,Nat.reduceAdd]
 have T:=Tys.mk (And.intro Ty.t3 (And.intro Ty.t4 (And.intro Ty.t9 (And.intro Ty.t38 Ty.t76))))
 have F:=Fc.mk True.intro
 refine v_seqR [0] ?_;intro K1 k1;refine zAssign ⟨?_⟩;refine k1 _ ?_;refine zk ⟨?_⟩;refine v_seq ?_;intro Q2 n2 e2 r2;refine v_seqR [0,5,6,7] ?_;intro K3 k3;refine zq15 ⟨?_⟩;refine k3 _ ?_;refine zk ⟨?_⟩;refine v_block ?_;intro Q4 n4 x4 e4 r4;refine v_loop (fun i=>⟨[(0,.sl (fl.map (fun t:ByteArray×Int×Int×Int×Int=>V.agg [V.str t.1,V.int .i64 t.2.1,V.int .i64 t.2.2.1,V.int .i64 t.2.2.2.1,V.int .i64 t.2.2.2.2]))),(5,.sl (fl.map (fun t:ByteArray×Int×Int×Int×Int=>V.agg [V.str t.1,V.int .i64 t.2.1,V.int .i64 t.2.2.1,V.int .i64 t.2.2.2.1,V.int .i64 t.2.2.2.2]))),(6,.int .i64 fl.length),(7,.int .i64 (Nat.cast i))],[],false,34,0⟩) (fun i=>i≤fl.length∧chainAt apOK apBf fl i=chainAt apOK apBf fl 0) (fun i=>fl.length - i) 0 ?_ ?_ ?_
 ·refine weak_of [0,5,6,7] ?_
  simp only [keep_mk,keepE_nil,keepE_cons,look_cons,look_nil,Nat.reduceEqDiff,reduceIte]
  rfl
 ·exact ⟨Nat.zero_le _,rfl⟩
 ·rintro i hok5 Q5 n5 e5 r5
  obtain ⟨hi1,hR⟩:=hok5
  refine v_seqR [0,5,6,7,8] ?_;intro K6 k6;refine zBinOp ⟨?_⟩;refine k6 _ ?_;refine zk ⟨?_⟩;refine v_seq ?_;intro Q7 n7 e7 r7;refine v_condS _ rfl ?_ ?_
  ·intro hc0
   have hlt:i < fl.length:=by omega
   obtain ⟨⟨x0,x1,x2,x3,x4⟩,hx⟩:∃x:ByteArray×Int×Int×Int×Int,fl[i]? =some x:=⟨fl[i]'(by omega),List.getElem?_eq_getElem (by omega)⟩
   have hsx:=hls _ (List.mem_of_getElem? hx)
   simp only [] at hsx
   rcases Nat.eq_zero_or_pos i with h0 | h0
   ·skip
    have hi0:¬((0:Int) < (i:Int)):=by omega
    have hst:chainAt apOK apBf fl i=(apOK (x0,x1,x2,x3,x4) && chainAt apOK apBf fl (i+1)):=by subst h0;exact chain_zero hx
    refine v_skip ?_;refine n7 _ _ (weak_keep [0,5,6,7] _) ?_;refine zk ⟨?_⟩;refine v_seq ?_;intro Q9 n9 e9 r9;refine v_block ?_;intro Q10 n10 x10 e10 r10;refine v_seqR [0,3,4,5,6,7] ?_;intro K11 k11
    have F:=Fc.mk (And.intro (fun f=>getD_map (f:=f) hx) (And.intro hi0 (And.intro @decide_false @Bool.and_false)))
    refine zq23 ⟨?_⟩;refine k11 _ ?_;refine zk ⟨?_⟩;refine v_seq ?_;intro Q12 n12 e12 r12;refine v_draw (by kernel_rfl) ?_;intro K13 q13 k13
    show aAny _ _ _ _ 18 (Array.replicate 18 false) _
    refine zdLoad q13 true 0 12 ?_;refine zoc 1 (isAppliance_con x0 x1 x2 x3 x4 hsx) ⟨?_⟩;refine zdUnOp q13 true 2 14 ?_;refine zdMove q13 true 3 15 ?_;refine zdgMove q13 true 4 16 ?_;refine zdgBinOp q13 true 5 17 ?_;refine zdgMove q13 true 6 18 ?_;refine zdgMove q13 true 7 19 ?_;refine zdgMove q13 true 8 20 ?_;refine zdgBinOpW q13 true 9 21 ?_;refine zdgIndexAddr q13 true 10 22 ?_;refine zdgFieldAddr q13 true 11 23 ?_;refine zdgLoad q13 true 12 24 ?_;refine zdgFieldAddr q13 true 13 25 ?_;refine zdgLoad q13 true 14 26 ?_;refine zdgBinOp q13 true 15 27 ?_;refine zdgPick q13 true 16 28 ?_;refine zdPick q13 true 17 29 ?_;refine aAny_done (by kernel_rfl) ?_;refine k13 _ ?_;refine n12 _ _ (weak_keep [0,5,6,7,29] _) ?_;refine zk ⟨?_⟩;refine v_condS _ rfl ?_ ?_
    ·intro hc1
     refine v_seqR [2] ?_;intro K15 k15;refine zAssign ⟨?_⟩;refine k15 _ ?_;refine zk ⟨?_⟩;refine v_ret ?_;refine r10 _ ?_;refine r9 _ ?_;refine r5 _ ?_;refine r4 _ ?_;refine r2 _ ?_;refine r0 _ ?_;refine zf ⟨?_⟩
     exact ret_pure rfl (by rw [fleetB,←hR,hst];clear hR hst;(try simp at hc1);first | (simp [hc1];done) | (rcases hc1 with h | h<;>simp [h,apBf];done) | (simp_all [apBf];done)) (.inl rfl)
    ·intro hc1
     refine v_skip ?_;refine n10 _ ?_;refine n9 _ _ (weak_keep [0,5,6,7] _) ?_;refine zk ⟨?_⟩;refine v_region ?_;intro K16 k16;refine zq5 ⟨?_⟩;refine k16 _ ?_;refine n5 _ (i+1) ?_ ?_ ?_
     ·refine weak_bothS [0,5,6,7] [] ⟨?_⟩
      rfl
     ·exact ⟨by omega,by rw [←hR,hst];clear hR hst;(try simp at hc1);first | (simp [hc1];done) | (simp_all [apBf];done)⟩
     ·show _ < _;omega
   ·skip
    obtain ⟨⟨y0,y1,y2,y3,y4⟩,hy⟩:∃x:ByteArray×Int×Int×Int×Int,fl[i - 1]? =some x:=⟨fl[i - 1]'(by omega),List.getElem?_eq_getElem (by omega)⟩
    have hi0:(0:Int) < i:=by omega
    have hk:((i:Int) - 1).toNat=i - 1:=by omega
    have hst:=chain_succ (ok:=apOK) (bf:=apBf) h0 hy hx
    refine v_skip ?_;refine n7 _ _ (weak_keep [0,5,6,7] _) ?_;refine zk ⟨?_⟩;refine v_seq ?_;intro Q17 n17 e17 r17;refine v_block ?_;intro Q18 n18 x18 e18 r18;refine v_seqR [0,3,4,5,6,7] ?_;intro K19 k19
    have F:=Fc.mk (And.intro (fun f=>getD_map (f:=f) hx) (And.intro hi0 (And.intro hk (And.intro (fun f=>getD_map (f:=f) hy) (And.intro @decide_true @Bool.and_true)))))
    refine zq23 ⟨?_⟩;refine k19 _ ?_;refine zk ⟨?_⟩;refine v_seq ?_;intro Q20 n20 e20 r20;refine v_draw (by kernel_rfl) ?_;intro K21 q21 k21
    show aAny _ _ _ _ 18 (Array.replicate 18 false) _
    refine zdLoad q21 true 0 12 ?_;refine zoc 1 (isAppliance_con x0 x1 x2 x3 x4 hsx) ⟨?_⟩;refine zdUnOp q21 true 2 14 ?_;refine zdMove q21 true 3 15 ?_;refine zdgMove q21 true 4 16 ?_;refine zdgBinOp q21 true 5 17 ?_;refine zdgMove q21 true 6 18 ?_;refine zdgMove q21 true 7 19 ?_;refine zdgMove q21 true 8 20 ?_;refine zdgBinOpW q21 true 9 21 ?_;refine zdgIndexAddr q21 true 10 22 ?_;refine zdgFieldAddr q21 true 11 23 ?_;refine zdgLoad q21 true 12 24 ?_;refine zdgFieldAddr q21 true 13 25 ?_;refine zdgLoad q21 true 14 26 ?_;refine zdgBinOp q21 true 15 27 ?_;refine zdgPick q21 true 16 28 ?_;refine zdPick q21 true 17 29 ?_;refine aAny_done (by kernel_rfl) ?_;refine k21 _ ?_;refine n20 _ _ (weak_keep [0,5,6,7,29] _) ?_;refine zk ⟨?_⟩;refine v_condS _ rfl ?_ ?_
    ·intro hc1
     refine v_seqR [2] ?_;intro K23 k23;refine zAssign ⟨?_⟩;refine k23 _ ?_;refine zk ⟨?_⟩;refine v_ret ?_;refine r18 _ ?_;refine r17 _ ?_;refine r5 _ ?_;refine r4 _ ?_;refine r2 _ ?_;refine r0 _ ?_;refine zf ⟨?_⟩
     exact ret_pure rfl (by rw [fleetB,←hR,hst];clear hR hst;(try simp at hc1);first | (simp [hc1];done) | (rcases hc1 with h | h<;>simp [h,apBf];done) | (simp_all [apBf];done)) (.inl rfl)
    ·intro hc1
     refine v_skip ?_;refine n18 _ ?_;refine n17 _ _ (weak_keep [0,5,6,7] _) ?_;refine zk ⟨?_⟩;refine v_region ?_;intro K24 k24;refine zq5 ⟨?_⟩;refine k24 _ ?_;refine n5 _ (i+1) ?_ ?_ ?_
     ·refine weak_bothS [0,5,6,7] [] ⟨?_⟩
      rfl
     ·exact ⟨by omega,by rw [←hR,hst];clear hR hst;(try simp at hc1);first | (simp [hc1];done) | (simp_all [apBf];done)⟩
     ·show _ < _;omega
  ·intro hc0
   refine v_exit ?_;refine e7 _ _ ?_;refine e5 _ _ ?_;refine x4 _ ?_;refine n2 _ _ (weak_keep [0] _) ?_;refine zk ⟨?_⟩;refine v_seqR [2] ?_;intro K25 k25;refine zq40 ⟨?_⟩;refine zAssign ⟨?_⟩;refine k25 _ ?_;refine zk ⟨?_⟩;refine v_ret ?_;refine r0 _ ?_;refine zf ⟨?_⟩
   exact ret_pure rfl (by rw [fleetB,←hR,chain_end (by omega)];simp) (.inl rfl)
def tmL (n:Int) (ss:List (Int×Int×Int)) (node:Int):List Int:=Tm.times n.toNat ss node.toNat
theorem strOK_facts {n:Int} {x:(Int×Int×Int)} (h1:1≤n∧n≤14) (h:strOK n x=true):0≤x.1∧x.1 < n∧0≤x.2.1∧x.2.1 < n∧x.1 < x.2.1∧1≤x.2.2∧x.2.2≤3600:=by
  simp only [strOK,hasB,Bool.and_eq_true,decide_eq_true_eq,wrap64 (show -9223372036854775808≤n - 1 by omega) (show n - 1≤9223372036854775807 by omega)] at h
  omega
theorem edges_good {m:Nat} {ss:List (Int×Int×Int)} (hm:1≤m∧m≤14) (h:∀s∈ss,strOK (m:Int) s=true):∀e∈Tm.edges ss,Tm.Good m e∧e.2.2≤3600:=by
  intro e he
  obtain ⟨s,hs,he⟩:=Tm.edges_mem he
  have:=strOK_facts (by omega) (h s hs)
  rcases he with rfl | rfl<;>(unfold Tm.Good;simp only [];refine ⟨⟨?_,?_,?_,?_⟩,?_⟩<;>omega)
def fillI (m i:Nat):List Int:=List.replicate i (-1)++List.replicate (m - i) 0
theorem fillI_zero (m:Nat):(fillI m 0).map (V.int .i64)=List.replicate m (V.int .i64 0):=by simp [fillI]
theorem fillI_len {m i:Nat} (h:i≤m):(fillI m i).length=m:=by simp [fillI];omega
theorem fillI_set {m i:Nat} (h:i < m):(fillI m i).set i (-1)=fillI m (i+1):=by
  rw [fillI,List.set_append_right _ _ (by simp),List.length_replicate,Nat.sub_self,show m - i=(m - (i+1))+1 by omega,List.replicate_succ,List.set_cons_zero,fillI,List.replicate_succ',List.append_assoc];rfl
theorem fillI_end {m i:Nat} (h:i=m):fillI m i=List.replicate m (-1):=by subst h;simp [fillI]
theorem times_len (n:Int) (ss:List (Int×Int×Int)) (node:Int):(tmL n ss node).length=n.toNat:=Tm.iter_len (Tm.start_len ..) _
theorem within_times {m u:Nat} {ss:List (Int×Int×Int)}:Tm.within m u (Tm.edges ss) m 0=Tm.times m ss u:=rfl
theorem tm_facts {n node:Int} {ss:List (Int×Int×Int)} (hn:1≤n∧n≤14) (hu:0≤node∧node < n) (hss:∀s∈ss,strOK n s=true) (hsl:ss.length≤40):∀v,-1≤Tm.at_ (tmL n ss node) v∧Tm.at_ (tmL n ss node) v≤4608000:=by
  obtain ⟨m,rfl⟩:=Int.eq_ofNat_of_zero_le (show 0≤n by omega)
  obtain ⟨u,rfl⟩:=Int.eq_ofNat_of_zero_le hu.1
  have h:=Tm.within_facts (n:=m) (node:=u) (es:=Tm.edges ss) (by omega) (edges_good (by omega) hss) (by rw [Tm.edges_len];omega) m 0 (by omega)
  exact h.2
def crewMin (k:Int):Int:=if k=0 then 4 else if k=1 then 2 else if k=2 then 3 else 2
def availB (x:(ByteArray×Int×Int×Int×Int)):Bool:=(decide (x.2.2.2.2=0) || decide (x.2.2.2.2=4)) && decide (crewMin x.2.1≤x.2.2.2.1)
theorem avail_no {x:(ByteArray×Int×Int×Int×Int)} (h0:¬x.2.2.2.2=0) (h4:¬x.2.2.2.2=4):availB x=false:=by rw [availB,decide_eq_false h0,decide_eq_false h4];rfl
theorem avail_yes {x:(ByteArray×Int×Int×Int×Int)} (h:x.2.2.2.2=0∨x.2.2.2.2=4):availB x=decide (crewMin x.2.1≤x.2.2.2.1):=by
  rw [availB]
  rcases h with h | h<;>simp [h]
theorem ap_kind {x:(ByteArray×Int×Int×Int×Int)} (h:apOK x=true):0≤x.2.1∧x.2.1≤3∧0≤x.2.2.1∧x.2.2.1≤13:=by
  simp only [apOK,Bool.and_eq_true,decide_eq_true_eq] at h
  omega
set_option maxHeartbeats 1000000 in
theorem indexFuncAppliance_con (l:List (ByteArray×Int×Int×Int×Int)) (g:Nat) (caps:List V) (p:ByteArray×Int×Int×Int×Int→Bool) (hl:l.length≤1048576) (hc:Caps caps) (hg:∀x0 x1 x2 x3 x4,(x0,x1,x2,x3,x4)∈l→Con Tryz.prog g (V.agg [V.str x0,V.int .i64 x1,V.int .i64 x2,V.int .i64 x3,V.int .i64 x4]::caps) [] (.bool (p (x0,x1,x2,x3,x4))) []):Con Tryz.prog 183 [.sl (l.map (fun t:ByteArray×Int×Int×Int×Int=>V.agg [V.str t.1,V.int .i64 t.2.1,V.int .i64 t.2.2.1,V.int .i64 t.2.2.2.1,V.int .i64 t.2.2.2.2])),.fn g caps] [] (.int .i64 (firstP p 0 l)) []:=by
 refine v_con [.tmp 4] [] Tryz.func183 rfl rfl rfl (by simp [Tryz.ntmps183]) ?_
 intro Q0 n0 r0
 simp only [Tryz.ntmps183,envFrom,Nat.reduceAdd]
 have T:=Tys.mk (And.intro Ty.t3 (And.intro Ty.t4 (And.intro Ty.t9 (And.intro Ty.t38 Ty.t76))))
 have F:=Fc.mk True.intro
 refine v_seqR [0,1] ?_;intro K1 k1;refine zAssign ⟨?_⟩;refine k1 _ ?_;refine zk ⟨?_⟩;refine v_seq ?_;intro Q2 n2 e2 r2;refine v_seqR [0,1,7,8] ?_;intro K3 k3;refine zq15 ⟨?_⟩;refine k3 _ ?_;refine zk ⟨?_⟩;refine v_block ?_;intro Q4 n4 x4 e4 r4;refine v_loop (fun i=>⟨[(0,.sl (l.map (fun t:ByteArray×Int×Int×Int×Int=>V.agg [V.str t.1,V.int .i64 t.2.1,V.int .i64 t.2.2.1,V.int .i64 t.2.2.2.1,V.int .i64 t.2.2.2.2]))),(1,.fn g caps),(7,.int .i64 l.length),(8,.int .i64 (Nat.cast i))],[],false,19,0⟩) (fun i=>i≤l.length∧firstP p i (l.drop i)=firstP p 0 l) (fun i=>l.length - i) 0 ?_ ?_ ?_
 ·refine weak_of [0,1,7,8] ?_
  simp only [keep_mk,keepE_nil,keepE_cons,look_cons,look_nil,Nat.reduceEqDiff,reduceIte]
  rfl
 ·exact ⟨Nat.zero_le _,rfl⟩
 ·rintro i hok5 Q5 n5 e5 r5
  obtain ⟨hi1,hR⟩:=hok5
  refine v_seqR [0,1,7,8,9] ?_;intro K6 k6;refine zBinOp ⟨?_⟩;refine k6 _ ?_;refine zk ⟨?_⟩;refine v_seq ?_;intro Q7 n7 e7 r7;refine v_condS _ rfl ?_ ?_
  ·intro hc0
   have hlt:i < l.length:=by omega
   obtain ⟨⟨x0,x1,x2,x3,x4⟩,hx⟩:∃x:ByteArray×Int×Int×Int×Int,l[i]? =some x:=⟨l[i]'(by omega),List.getElem?_eq_getElem (by omega)⟩
   have hst:=first_step (p:=p) hx
   refine v_skip ?_;refine n7 _ _ (weak_keep [0,1,7,8] _) ?_;refine zk ⟨?_⟩;refine v_seq ?_;intro Q9 n9 e9 r9;refine v_block ?_;intro Q10 n10 x10 e10 r10;refine v_seqR [0,1,5,7,8] ?_;intro K11 k11
   have F:=Fc.mk (fun f=>getD_map (f:=f) hx)
   refine zq8 ⟨?_⟩;refine k11 _ ?_;refine zk ⟨?_⟩;refine v_seqR [0,1,5,7,8,16] ?_;intro K12 k12;refine zq20 ⟨?_⟩;refine zq4 ⟨?_⟩;refine zcc (hg x0 x1 x2 x3 x4 (List.mem_of_getElem? hx)) ⟨?_⟩;refine k12 _ ?_;refine zk ⟨?_⟩;refine v_condS _ rfl ?_ ?_
   ·intro hc1
    refine v_seqR [4] ?_;intro K14 k14;refine zq8 ⟨?_⟩;refine k14 _ ?_;refine zk ⟨?_⟩;refine v_ret ?_;refine r10 _ ?_;refine r9 _ ?_;refine r5 _ ?_;refine r4 _ ?_;refine r2 _ ?_;refine r0 _ ?_;refine zf ⟨?_⟩
    exact ret_pure rfl (by rw [←hR,hst,if_pos hc1]) (.inl rfl)
   ·intro hc1
    refine v_skip ?_;refine n10 _ ?_;refine n9 _ _ (weak_keep [0,1,7,8] _) ?_;refine zk ⟨?_⟩;refine v_region ?_;intro K15 k15;refine zq5 ⟨?_⟩;refine k15 _ ?_;refine n5 _ (i+1) ?_ ?_ ?_
    ·refine weak_bothC [0,1,7,8] [] ⟨?_⟩
     rfl
    ·exact ⟨by omega,by rw [←hR,hst,if_neg (by simp [hc1])]⟩
    ·show _ < _;omega
  ·intro hc0
   refine v_exit ?_;refine e7 _ _ ?_;refine e5 _ _ ?_;refine x4 _ ?_;refine n2 _ _ (weak_keep [] _) ?_;refine zk ⟨?_⟩;refine v_seqR [4] ?_;intro K16 k16;refine zAssign ⟨?_⟩;refine k16 _ ?_;refine zk ⟨?_⟩;refine v_ret ?_;refine r0 _ ?_;refine zf ⟨?_⟩
   exact ret_pure rfl (by rw [←hR,first_end (by omega)]) (.inl rfl)
set_option maxHeartbeats 1000000 in
theorem containsFuncAppliance_con (l:List (ByteArray×Int×Int×Int×Int)) (g:Nat) (caps:List V) (p:ByteArray×Int×Int×Int×Int→Bool) (hl:l.length≤1048576) (hc:Caps caps) (hg:∀x0 x1 x2 x3 x4,(x0,x1,x2,x3,x4)∈l→Con Tryz.prog g (V.agg [V.str x0,V.int .i64 x1,V.int .i64 x2,V.int .i64 x3,V.int .i64 x4]::caps) [] (.bool (p (x0,x1,x2,x3,x4))) []):Con Tryz.prog 111 [.sl (l.map (fun t:ByteArray×Int×Int×Int×Int=>V.agg [V.str t.1,V.int .i64 t.2.1,V.int .i64 t.2.2.1,V.int .i64 t.2.2.2.1,V.int .i64 t.2.2.2.2])),.fn g caps] [] (.bool (l.any p)) []:=by
 refine v_con [.tmp 4] [] Tryz.func111 rfl rfl rfl (by simp [Tryz.ntmps111]) ?_
 intro Q0 n0 r0
 simp only [Tryz.ntmps111,envFrom,Nat.reduceAdd]
 have T:=Tys.mk (And.intro Ty.t3 (And.intro Ty.t9 (And.intro Ty.t38 Ty.t76)))
 have F:=Fc.mk True.intro
 refine v_seqR [0,1] ?_;intro K1 k1;refine zAssign ⟨?_⟩;refine k1 _ ?_;refine zk ⟨?_⟩;refine v_seqR [4] ?_;intro K2 k2;refine zq2 ⟨?_⟩;refine zcc (indexFuncAppliance_con l g caps p hl hc hg) ⟨?_⟩;refine zBinOp ⟨?_⟩;refine zAssign ⟨?_⟩;refine k2 _ ?_;refine zk ⟨?_⟩;refine v_ret ?_;refine r0 _ ?_;refine zf ⟨?_⟩
 exact ret_pure rfl (by rw [first_any]) (.inl rfl)
end Go.Proofs.YtaefoaghpehbpaaGreatDoor
