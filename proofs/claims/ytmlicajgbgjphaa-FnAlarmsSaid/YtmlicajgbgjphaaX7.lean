/- What functions compute. No condition. -/
import Derived.Test.YtmlicajgbgjphaaUty
import Derived.Test.YtmlicajgbgjphaaUmG
import Derived.Test.YtmlicajgbgjphaaX6
import Derived.Test.YtmlicajgbgjphaaX5
import Derived.Test.YtmlicajgbgjphaaX3
import Derived.Test.YtmlicajgbgjphaaX2
set_option linter.unusedSimpArgs false
set_option linter.unusedVariables false
set_option linter.defProp false
namespace Go.Proofs.Ytmlicajgbgjphaa
open Go Go.Vm

set_option maxHeartbeats 6000000 in
theorem lawFnAlarms_con (c1 c2 : List Int) (hc1 : ∀ x ∈ c1, 0 ≤ x ∧ x ≤ 255) (hc2 : ∀ x ∈ c2, 0 ≤ x ∧ x ≤ 255) (hn1 : c1.length ≤ 9223372036854775807) (hn2 : c2.length ≤ 9223372036854775807) : Con Try.prog 4 [.sl (c1.map (V.int .u8)), .sl (c2.map (V.int .u8))] [] (.bool true) [] := by
 refine v_con [.tmp 4] [] Try.func4 rfl rfl rfl (by simp [Try.ntmps4]) ?_
 intro Q0 n0 r0
 simp only [Try.ntmps4, envFrom, Nat.reduceAdd]
 have T := Tys.mk (And.intro Ty.t3 (And.intro Ty.t4 (And.intro Ty.t5 (And.intro Ty.t22 (And.intro Ty.t31 (And.intro Ty.t43 (And.intro Ty.t44 (And.intro Ty.t62 Ty.t64))))))))
 have F := Fc.mk True.intro
 refine v_seqR [0,1] ?_; intro K1 k1
 refine zAssign ⟨?_⟩
 refine k1 _ ?_
 refine zk ⟨?_⟩
 refine v_seq ?_; intro Q2 n2 e2 r2
 refine v_seqR [0,1,52] ?_; intro K3 k3
 refine zMove ⟨?_⟩
 refine zLen ⟨?_⟩
 refine zMove ⟨?_⟩
 refine zLen ⟨?_⟩
 refine zBinOpW ⟨?_⟩
 refine zBinOp ⟨?_⟩
 refine k3 _ ?_
 refine zk ⟨?_⟩
 refine v_condS _ rfl ?_ ?_
 ·intro hc0
  refine v_seqR [4] ?_; intro K5 k5
  refine zAssign ⟨?_⟩
  refine k5 _ ?_
  refine zk ⟨?_⟩
  refine v_ret ?_
  refine r2 _ ?_
  refine r0 _ ?_
  refine zf ⟨?_⟩
  exact ret_pure rfl rfl (.inl rfl)
 ·intro hc0
  refine v_skip ?_
  refine n2 _ _ (weak_keep [0, 1] _) ?_
  refine zk ⟨?_⟩
  refine v_seqR [1,5,6,7] ?_; intro K6 k6
  refine zMove ⟨?_⟩
  refine v_op ?_; intro K k
  simp only [zE, zM, aStepM, optable, set_some, Nat.reduceEqDiff, reduceIte, Nat.reduceLT, implies_true, forall_const, reduceCtorEq, V.ofValue, V.ofScalar, V.un, V.gd, aExec, lentIds, lendOf, ‹Tys _›.h, ‹Fc _›.h]
  repeat (refine andC ?_)
  refine aCall_newXA (drawFirstAlarm_con c1 hc1 hn1) ?_
  rintro _ _ ⟨l, s, w, ⟨hql, hqs, hqw⟩, rfl, rfl⟩
  refine ⟨by first | exact .inl ⟨rfl, by simp [Blk.kindIs, fillK_fd]⟩ | exact .inr (by simp [V.coldIn, V.cold, idx]), ?_⟩
  refine k _ ?_; clear k K
  simp only [zY, zW, set_some, Nat.reduceEqDiff, reduceIte, rho_one, rho_s, V.ren, V.renL, List.set_cons_zero, List.set_cons_succ, rho, Nat.reduceAdd, Nat.add_zero]
  have hfd := first_dec l s w
  refine zMove ⟨?_⟩
  refine zExtract ⟨?_⟩
  refine zExtract ⟨?_⟩
  refine zExtract ⟨?_⟩
  refine zAssign ⟨?_⟩
  refine zAssign ⟨?_⟩
  refine zAssign ⟨?_⟩
  refine k6 _ ?_
  refine zk ⟨?_⟩
  refine v_seqR [1,5,6,7,8,9,10] ?_; intro K7 k7
  refine zMove ⟨?_⟩
  refine zMove ⟨?_⟩
  refine zMove ⟨?_⟩
  refine zc (implFirstAlarm_con l s w (by omega) (by omega)) ⟨?_⟩
  refine zMove ⟨?_⟩
  refine zExtract ⟨?_⟩
  refine zExtract ⟨?_⟩
  refine zExtract ⟨?_⟩
  refine zAssign ⟨?_⟩
  refine zAssign ⟨?_⟩
  refine zAssign ⟨?_⟩
  refine k7 _ ?_
  refine zk ⟨?_⟩
  refine v_seqR [1,5,6,7,8,9,10,11,12,13] ?_; intro K8 k8
  refine zMove ⟨?_⟩
  refine zMove ⟨?_⟩
  refine zMove ⟨?_⟩
  refine zc (specFirstAlarm_con l s w (by omega) (by omega)) ⟨?_⟩
  refine zMove ⟨?_⟩
  refine zExtract ⟨?_⟩
  refine zExtract ⟨?_⟩
  refine zExtract ⟨?_⟩
  refine zAssign ⟨?_⟩
  refine zAssign ⟨?_⟩
  refine zAssign ⟨?_⟩
  refine k8 _ ?_
  refine zk ⟨?_⟩
  refine v_seqR [1,5,6,7,8,9,10,11,12,13,14,15] ?_; intro K9 k9
  refine zMove ⟨?_⟩
  refine zMove ⟨?_⟩
  refine zMove ⟨?_⟩
  refine zc (implAlarmZones_con l s w (by omega) (by omega)) ⟨?_⟩
  refine zMove ⟨?_⟩
  refine zExtract ⟨?_⟩
  refine zExtract ⟨?_⟩
  refine zAssign ⟨?_⟩
  refine zAssign ⟨?_⟩
  refine k9 _ ?_
  refine zk ⟨?_⟩
  refine v_seqR [1,5,6,7,8,9,10,11,12,13,14,15,16,17] ?_; intro K10 k10
  refine zMove ⟨?_⟩
  refine zMove ⟨?_⟩
  refine zMove ⟨?_⟩
  refine zc (specAlarmZones_con l s w (by omega) (by omega)) ⟨?_⟩
  refine zMove ⟨?_⟩
  refine zExtract ⟨?_⟩
  refine zExtract ⟨?_⟩
  refine zAssign ⟨?_⟩
  refine zAssign ⟨?_⟩
  refine k10 _ ?_
  refine zk ⟨?_⟩
  refine v_seqR [1,5,6,7,8,9,10,11,12,13,14,15,16,17,18,19] ?_; intro K11 k11
  refine zMove ⟨?_⟩
  refine zMove ⟨?_⟩
  refine zMove ⟨?_⟩
  refine zc (implFalseSignals_con l s w (by omega) (by omega)) ⟨?_⟩
  refine zMove ⟨?_⟩
  refine zExtract ⟨?_⟩
  refine zExtract ⟨?_⟩
  refine zAssign ⟨?_⟩
  refine zAssign ⟨?_⟩
  refine k11 _ ?_
  refine zk ⟨?_⟩
  refine v_seqR [1,5,6,7,8,9,10,11,12,13,14,15,16,17,18,19,20,21] ?_; intro K12 k12
  refine zMove ⟨?_⟩
  refine zMove ⟨?_⟩
  refine zMove ⟨?_⟩
  refine zc (specFalseSignals_con l s w (by omega) (by omega)) ⟨?_⟩
  refine zMove ⟨?_⟩
  refine zExtract ⟨?_⟩
  refine zExtract ⟨?_⟩
  refine zAssign ⟨?_⟩
  refine zAssign ⟨?_⟩
  refine k12 _ ?_
  refine zk ⟨?_⟩
  refine v_seqR [1,5,6,7,8,9,10,11,12,13,14,15,16,17,18,19,20,21,22,23] ?_; intro K13 k13
  refine zMove ⟨?_⟩
  refine zMove ⟨?_⟩
  refine zc (implLiveSignals_con l s (by omega) (by omega)) ⟨?_⟩
  refine zMove ⟨?_⟩
  refine zExtract ⟨?_⟩
  refine zExtract ⟨?_⟩
  refine zAssign ⟨?_⟩
  refine zAssign ⟨?_⟩
  refine k13 _ ?_
  refine zk ⟨?_⟩
  refine v_seqR [1,5,6,7,8,9,10,11,12,13,14,15,16,17,18,19,20,21,22,23,24,25] ?_; intro K14 k14
  refine zMove ⟨?_⟩
  refine zMove ⟨?_⟩
  refine zc (specLiveSignals_con l s (by omega) (by omega)) ⟨?_⟩
  refine zMove ⟨?_⟩
  refine zExtract ⟨?_⟩
  refine zExtract ⟨?_⟩
  refine zAssign ⟨?_⟩
  refine zAssign ⟨?_⟩
  refine k14 _ ?_
  refine zk ⟨?_⟩
  refine v_seqR [5,6,7,8,9,10,11,12,13,14,15,16,17,18,19,20,21,22,23,24,25,26,27,28,29] ?_; intro K15 k15
  refine zMove ⟨?_⟩
  refine v_op ?_; intro K k
  simp only [zE, zM, aStepM, optable, set_some, Nat.reduceEqDiff, reduceIte, Nat.reduceLT, implies_true, forall_const, reduceCtorEq, V.ofValue, V.ofScalar, V.un, V.gd, aExec, lentIds, lendOf, ‹Tys _›.h, ‹Fc _›.h]
  repeat (refine andC ?_)
  refine aCall_newXA (drawZoneAlarm_con c2 hc2 hn2) ?_
  rintro _ _ ⟨u, t, z, m, ⟨hqu, hqt, hqz, hqm⟩, rfl, rfl⟩
  refine ⟨by first | exact .inl ⟨rfl, by simp [Blk.kindIs, fillK_fd]⟩ | exact .inr (by simp [V.coldIn, V.cold, idx]), ?_⟩
  refine k _ ?_; clear k K
  simp only [zY, zW, set_some, Nat.reduceEqDiff, reduceIte, rho_one, rho_s, V.ren, V.renL, List.set_cons_zero, List.set_cons_succ, rho, Nat.reduceAdd, Nat.add_zero]
  refine zMove ⟨?_⟩
  refine zExtract ⟨?_⟩
  refine zExtract ⟨?_⟩
  refine zExtract ⟨?_⟩
  refine zExtract ⟨?_⟩
  refine zAssign ⟨?_⟩
  refine zAssign ⟨?_⟩
  refine zAssign ⟨?_⟩
  refine zAssign ⟨?_⟩
  refine k15 _ ?_
  refine zk ⟨?_⟩
  refine v_seqR [5,6,7,8,9,10,11,12,13,14,15,16,17,18,19,20,21,22,23,24,25,26,27,28,29,30,31] ?_; intro K16 k16
  refine zMove ⟨?_⟩
  refine zMove ⟨?_⟩
  refine zMove ⟨?_⟩
  refine zMove ⟨?_⟩
  refine zc (implZoneAlarm_con u t z m (by omega) (by omega)) ⟨?_⟩
  refine zMove ⟨?_⟩
  refine zExtract ⟨?_⟩
  refine zExtract ⟨?_⟩
  refine zAssign ⟨?_⟩
  refine zAssign ⟨?_⟩
  refine k16 _ ?_
  refine zk ⟨?_⟩
  refine v_seqR [5,6,7,8,9,10,11,12,13,14,15,16,17,18,19,20,21,22,23,24,25,26,27,28,29,30,31,32,33] ?_; intro K17 k17
  refine zMove ⟨?_⟩
  refine zMove ⟨?_⟩
  refine zMove ⟨?_⟩
  refine zMove ⟨?_⟩
  refine zc (specZoneAlarm_con u t z m (by omega) (by omega)) ⟨?_⟩
  refine zMove ⟨?_⟩
  refine zExtract ⟨?_⟩
  refine zExtract ⟨?_⟩
  refine zAssign ⟨?_⟩
  refine zAssign ⟨?_⟩
  refine k17 _ ?_
  refine zk ⟨?_⟩
  refine v_seq ?_; intro Q18 n18 e18 r18
  refine v_seqR [5,6,7,11,12,15,16,20,24,26,27,28,29,31,32,223] ?_; intro K19 k19
  refine zMove ⟨?_⟩
  refine zMove ⟨?_⟩
  refine zBinOp ⟨?_⟩
  refine zMove ⟨?_⟩
  refine zgMove ⟨?_⟩
  refine zgMove ⟨?_⟩
  refine zgBinOp ⟨?_⟩
  refine zPick ⟨?_⟩
  refine zMove ⟨?_⟩
  refine zgMove ⟨?_⟩
  refine zgMove ⟨?_⟩
  refine zgBinOp ⟨?_⟩
  refine zPick ⟨?_⟩
  refine zMove ⟨?_⟩
  refine zgMove ⟨?_⟩
  refine zgMove ⟨?_⟩
  refine zgBinOp ⟨?_⟩
  refine zPick ⟨?_⟩
  refine zMove ⟨?_⟩
  refine zgMove ⟨?_⟩
  refine zgMove ⟨?_⟩
  refine zgc (qInts_con (zonesR l s w) (by have := zonesR_len l s w; omega)) ⟨?_⟩
  refine zgUnOp ⟨?_⟩
  refine zPick ⟨?_⟩
  refine zMove ⟨?_⟩
  refine zgMove ⟨?_⟩
  refine zgMove ⟨?_⟩
  refine zgBinOp ⟨?_⟩
  refine zPick ⟨?_⟩
  refine zMove ⟨?_⟩
  refine zgMove ⟨?_⟩
  refine zgMove ⟨?_⟩
  refine zgc (qSignals_con (falseR l s w) (Nat.le_trans (falseR_len l s w) (by omega))) ⟨?_⟩
  refine zgUnOp ⟨?_⟩
  refine zPick ⟨?_⟩
  refine zMove ⟨?_⟩
  refine zgMove ⟨?_⟩
  refine zgMove ⟨?_⟩
  refine zgBinOp ⟨?_⟩
  refine zPick ⟨?_⟩
  refine zMove ⟨?_⟩
  refine zgMove ⟨?_⟩
  refine zgMove ⟨?_⟩
  refine zgc (qSignals_con (liveR l s) (Nat.le_trans (liveR_len l s) (by omega))) ⟨?_⟩
  refine zgUnOp ⟨?_⟩
  refine zPick ⟨?_⟩
  refine zMove ⟨?_⟩
  refine zgMove ⟨?_⟩
  refine zgMove ⟨?_⟩
  refine zgBinOp ⟨?_⟩
  refine zPick ⟨?_⟩
  refine zMove ⟨?_⟩
  refine zgMove ⟨?_⟩
  refine zgMove ⟨?_⟩
  refine zgBinOp ⟨?_⟩
  refine zPick ⟨?_⟩
  refine zMove ⟨?_⟩
  refine zgMove ⟨?_⟩
  refine zgMove ⟨?_⟩
  refine zgBinOp ⟨?_⟩
  refine zPick ⟨?_⟩
  refine zMove ⟨?_⟩
  refine zgMove ⟨?_⟩
  refine zgMove ⟨?_⟩
  refine zgMove ⟨?_⟩
  refine zgMove ⟨?_⟩
  refine zgLen ⟨?_⟩
  refine zgBinOp ⟨?_⟩
  refine zgPick ⟨?_⟩
  refine zgBinOp ⟨?_⟩
  refine zPick ⟨?_⟩
  refine zMove ⟨?_⟩
  refine zgMove ⟨?_⟩
  refine zgMove ⟨?_⟩
  refine zgMove ⟨?_⟩
  refine zgMove ⟨?_⟩
  refine zgMove ⟨?_⟩
  refine zgc (implAreDetectors_con l (by omega)) ⟨?_⟩
  refine zgPick ⟨?_⟩
  refine zgMove ⟨?_⟩
  refine zgMove ⟨?_⟩
  refine zgc (implAreSignals_con s (by omega)) ⟨?_⟩
  refine zgPick ⟨?_⟩
  refine zgUnOp ⟨?_⟩
  refine zgPick ⟨?_⟩
  refine zPick ⟨?_⟩
  refine k19 _ ?_
  refine zk ⟨?_⟩
  refine v_cond _ rfl ?_ ?_
  ·intro hc1
   exfalso; rw [hfd] at hc1
   revert hc1
   cases h1 : askB l s w with
   |false => simp
   |true => (have h2 := ask_parts h1; simp [h2.1, h2.2.1])
  ·intro hc1
   try simp only [zC, reduceCtorEq] at hc1
   refine v_skip ?_
   refine n18 _ _ (weak_keep [5, 6, 7, 11, 12, 15, 16, 20, 24, 26, 27, 28, 29, 31, 32] _) ?_
   refine zk ⟨?_⟩
   refine v_seq ?_; intro Q21 n21 e21 r21
   refine v_seqR [5,6,7,11,12,16,20,24,26,27,28,29,31,32,224] ?_; intro K22 k22
   refine zMove ⟨?_⟩
   refine k22 _ ?_
   refine zk ⟨?_⟩
   refine v_condS _ rfl ?_ ?_
   ·intro hc2
    have hask : askB l s w = true := hc2
    refine v_seq ?_; intro Q24 n24 e24 r24
    refine v_seqR [5,6,7,11,12,16,20,24,26,27,28,29,31,32,34] ?_; intro K25 k25
    refine zAssign ⟨?_⟩
    refine k25 _ ?_
    refine zk ⟨?_⟩
    refine v_block ?_; intro Q26 n26 x26 e26 r26
    refine v_loop (fun i => ⟨[(5, .ref 0), (6, .ref 1), (7, .int .i64 w), (11, .int .i64 (firstR l s w).1), (12, .int .i64 (firstR l s w).2), (16, .ref 2), (20, .ref 3), (24, .ref 4), (26, .ref 5), (27, .ref 6), (28, .int .i64 z), (29, .int .i64 m), (31, .bool (zaB u t z m)), (32, .int .i64 (zaV u t z m)), (34, .int .i64 (Nat.cast i + 1))], [.arr (l.map (fun t : Int × Int × Int × Bool => V.agg [V.int .i64 t.1, V.int .i64 t.2.1, V.int .i64 t.2.2.1, V.bool t.2.2.2])) .flat, .arr (s.map (fun t : Int × Int => V.agg [V.int .i64 t.1, V.int .i64 t.2])) .flat, .arr ((zonesR l s w).map (V.int .i64)) .flat, .arr ((falseR l s w).map (fun t : Int × Int => V.agg [V.int .i64 t.1, V.int .i64 t.2])) .flat, .arr ((liveR l s).map (fun t : Int × Int => V.agg [V.int .i64 t.1, V.int .i64 t.2])) .flat, .arr (u.map (fun t : Int × Int × Int × Bool => V.agg [V.int .i64 t.1, V.int .i64 t.2.1, V.int .i64 t.2.2.1, V.bool t.2.2.2])) .flat, .arr (t.map (fun t : Int × Int => V.agg [V.int .i64 t.1, V.int .i64 t.2])) .flat], false, 358, 0⟩) (fun i => i ≤ 9) (fun i => 9 - i) (0 : Nat) ?_ ?_ ?_
    ·refine weak_bothS [5, 6, 7, 11, 12, 16, 20, 24, 26, 27, 28, 29, 31, 32, 34] [0, 1, 3, 5, 7, 8, 9] ⟨?_⟩
     rfl
    ·exact Nat.zero_le _
    ·rintro i hok27 Q27 n27 e27 r27
     have hi9 : i ≤ 9 := hok27
     refine v_seq ?_; intro Q28 n28 e28 r28
     refine v_seqR [5,6,7,11,12,16,20,24,26,27,28,29,31,32,34,226] ?_; intro K29 k29
     refine zMove ⟨?_⟩
     refine zBinOp ⟨?_⟩
     refine k29 _ ?_
     refine zk ⟨?_⟩
     refine v_condS _ rfl ?_ ?_
     ·intro hc3
      have hlt : i < 9 := by omega
      have hzf := zone_first (z := (i : Int) + 1) hask (by omega) (by omega)
      have hzh := zone_has (z := (i : Int) + 1) hask (by omega) (by omega)
      rcases Bool.eq_false_or_eq_true (zaB l s ((i : Int) + 1) w) with hb | hb
      ·skip
       have hzd := hzh.symm.trans hb
       refine v_skip ?_
       refine n28 _ _ (weak_keep [5, 6, 7, 11, 12, 16, 20, 24, 26, 27, 28, 29, 31, 32, 34] _) ?_
       refine zk ⟨?_⟩
       refine v_seq ?_; intro Q31 n31 e31 r31
       refine v_block ?_; intro Q32 n32 x32 e32 r32
       refine v_seqR [5,6,7,11,12,16,20,24,26,27,28,29,31,32,34,35,36] ?_; intro K33 k33
       have F := Fc.mk (And.intro hb hzd)
       refine zMove ⟨?_⟩
       refine zMove ⟨?_⟩
       refine zMove ⟨?_⟩
       refine zMove ⟨?_⟩
       refine zc (implZoneAlarm_con l s ((i : Int) + 1) w (by omega) (by omega)) ⟨?_⟩
       refine zMove ⟨?_⟩
       refine zExtract ⟨?_⟩
       refine zExtract ⟨?_⟩
       refine zAssign ⟨?_⟩
       refine zAssign ⟨?_⟩
       refine k33 _ ?_
       refine zk ⟨?_⟩
       refine v_seqR [5,6,7,11,12,16,20,24,26,27,28,29,31,32,34,35,36,37,38] ?_; intro K34 k34
       refine zMove ⟨?_⟩
       refine zMove ⟨?_⟩
       refine zMove ⟨?_⟩
       refine zMove ⟨?_⟩
       refine zc (specZoneAlarm_con l s ((i : Int) + 1) w (by omega) (by omega)) ⟨?_⟩
       refine zMove ⟨?_⟩
       refine zExtract ⟨?_⟩
       refine zExtract ⟨?_⟩
       refine zAssign ⟨?_⟩
       refine zAssign ⟨?_⟩
       refine k34 _ ?_
       refine zk ⟨?_⟩
       refine v_seqR [5,6,7,11,12,16,20,24,26,27,28,29,31,32,34,277] ?_; intro K35 k35
       refine zMove ⟨?_⟩
       refine zMove ⟨?_⟩
       refine zBinOp ⟨?_⟩
       refine zMove ⟨?_⟩
       refine zgMove ⟨?_⟩
       refine zgMove ⟨?_⟩
       refine zgBinOp ⟨?_⟩
       refine zPick ⟨?_⟩
       refine zMove ⟨?_⟩
       refine zgMove ⟨?_⟩
       refine zgMove ⟨?_⟩
       refine zgMove ⟨?_⟩
       refine zgc (qHas_con (zonesR l s w) ((i : Int) + 1) (by have := zonesR_len l s w; omega)) ⟨?_⟩
       refine zgBinOp ⟨?_⟩
       refine zPick ⟨?_⟩
       refine zMove ⟨?_⟩
       refine zgMove ⟨?_⟩
       refine zgMove ⟨?_⟩
       refine zgMove ⟨?_⟩
       refine zgMove ⟨?_⟩
       refine zgBinOp ⟨?_⟩
       refine zgMove ⟨?_⟩
       refine zgMove ⟨?_⟩
       refine zgMove ⟨?_⟩
       refine zgBinOp ⟨?_⟩
       refine zgMove ⟨?_⟩
       refine zgMove ⟨?_⟩
       refine zgMove ⟨?_⟩
       refine zgBinOp ⟨?_⟩
       refine zgPick ⟨?_⟩
       refine zgPick ⟨?_⟩
       refine zgPick ⟨?_⟩
       refine zPick ⟨?_⟩
       refine k35 _ ?_
       refine zk ⟨?_⟩
       refine v_cond _ rfl ?_ ?_
       ·intro hc4
        exfalso; have h2 := hzf hb
        first | (simp at hc4; done) | (simp at hc4; omega)
       ·intro hc4
        try simp only [zC, reduceCtorEq] at hc4
        refine v_skip ?_
        refine n32 _ ?_
        refine n31 _ _ (weak_keep [5, 6, 7, 11, 12, 16, 20, 24, 26, 27, 28, 29, 31, 32, 34] _) ?_
        refine zk ⟨?_⟩
        refine v_region ?_; intro K37 k37
        refine zMove ⟨?_⟩
        refine zBinOpW ⟨?_⟩
        refine zAssign ⟨?_⟩
        refine k37 _ ?_
        refine n27 _ (i + 1) ?_ ?_ ?_
        ·refine weak_bothS [5, 6, 7, 11, 12, 16, 20, 24, 26, 27, 28, 29, 31, 32, 34] [0, 1, 2, 3, 4, 5, 6] ⟨?_⟩
         rfl
        ·exact hlt
        ·show _ < _; omega
      ·skip
       have hzd := hzh.symm.trans hb
       refine v_skip ?_
       refine n28 _ _ (weak_keep [5, 6, 7, 11, 12, 16, 20, 24, 26, 27, 28, 29, 31, 32, 34] _) ?_
       refine zk ⟨?_⟩
       refine v_seq ?_; intro Q38 n38 e38 r38
       refine v_block ?_; intro Q39 n39 x39 e39 r39
       refine v_seqR [5,6,7,11,12,16,20,24,26,27,28,29,31,32,34,35,36] ?_; intro K40 k40
       have F := Fc.mk (And.intro hb hzd)
       refine zMove ⟨?_⟩
       refine zMove ⟨?_⟩
       refine zMove ⟨?_⟩
       refine zMove ⟨?_⟩
       refine zc (implZoneAlarm_con l s ((i : Int) + 1) w (by omega) (by omega)) ⟨?_⟩
       refine zMove ⟨?_⟩
       refine zExtract ⟨?_⟩
       refine zExtract ⟨?_⟩
       refine zAssign ⟨?_⟩
       refine zAssign ⟨?_⟩
       refine k40 _ ?_
       refine zk ⟨?_⟩
       refine v_seqR [5,6,7,11,12,16,20,24,26,27,28,29,31,32,34,35,36,37,38] ?_; intro K41 k41
       refine zMove ⟨?_⟩
       refine zMove ⟨?_⟩
       refine zMove ⟨?_⟩
       refine zMove ⟨?_⟩
       refine zc (specZoneAlarm_con l s ((i : Int) + 1) w (by omega) (by omega)) ⟨?_⟩
       refine zMove ⟨?_⟩
       refine zExtract ⟨?_⟩
       refine zExtract ⟨?_⟩
       refine zAssign ⟨?_⟩
       refine zAssign ⟨?_⟩
       refine k41 _ ?_
       refine zk ⟨?_⟩
       refine v_seqR [5,6,7,11,12,16,20,24,26,27,28,29,31,32,34,277] ?_; intro K42 k42
       refine zMove ⟨?_⟩
       refine zMove ⟨?_⟩
       refine zBinOp ⟨?_⟩
       refine zMove ⟨?_⟩
       refine zgMove ⟨?_⟩
       refine zgMove ⟨?_⟩
       refine zgBinOp ⟨?_⟩
       refine zPick ⟨?_⟩
       refine zMove ⟨?_⟩
       refine zgMove ⟨?_⟩
       refine zgMove ⟨?_⟩
       refine zgMove ⟨?_⟩
       refine zgc (qHas_con (zonesR l s w) ((i : Int) + 1) (by have := zonesR_len l s w; omega)) ⟨?_⟩
       refine zgBinOp ⟨?_⟩
       refine zPick ⟨?_⟩
       refine zMove ⟨?_⟩
       refine zgMove ⟨?_⟩
       refine zgMove ⟨?_⟩
       refine zgMove ⟨?_⟩
       refine zgMove ⟨?_⟩
       refine zgBinOp ⟨?_⟩
       refine zgMove ⟨?_⟩
       refine zgMove ⟨?_⟩
       refine zgMove ⟨?_⟩
       refine zgBinOp ⟨?_⟩
       refine zgMove ⟨?_⟩
       refine zgMove ⟨?_⟩
       refine zgMove ⟨?_⟩
       refine zgBinOp ⟨?_⟩
       refine zgPick ⟨?_⟩
       refine zgPick ⟨?_⟩
       refine zgPick ⟨?_⟩
       refine zPick ⟨?_⟩
       refine k42 _ ?_
       refine zk ⟨?_⟩
       refine v_cond _ rfl ?_ ?_
       ·intro hc4
        exfalso; simp at hc4
       ·intro hc4
        try simp only [zC, reduceCtorEq] at hc4
        refine v_skip ?_
        refine n39 _ ?_
        refine n38 _ _ (weak_keep [5, 6, 7, 11, 12, 16, 20, 24, 26, 27, 28, 29, 31, 32, 34] _) ?_
        refine zk ⟨?_⟩
        refine v_region ?_; intro K44 k44
        refine zMove ⟨?_⟩
        refine zBinOpW ⟨?_⟩
        refine zAssign ⟨?_⟩
        refine k44 _ ?_
        refine n27 _ (i + 1) ?_ ?_ ?_
        ·refine weak_bothS [5, 6, 7, 11, 12, 16, 20, 24, 26, 27, 28, 29, 31, 32, 34] [0, 1, 2, 3, 4, 5, 6] ⟨?_⟩
         rfl
        ·exact hlt
        ·show _ < _; omega
     ·intro hc3
      refine v_exit ?_
      refine e28 _ _ ?_
      refine e27 _ _ ?_
      refine x26 _ ?_
      refine n24 _ _ (weak_keep [5, 6, 16, 20, 24, 26, 27, 28, 29, 31, 32] _) ?_
      refine zk ⟨?_⟩
      refine v_seq ?_; intro Q45 n45 e45 r45
      refine v_seqR [5,16,20,26,27,28,29,31,32,289] ?_; intro K46 k46
      refine zMove ⟨?_⟩
      refine zLen ⟨?_⟩
      refine zMove ⟨?_⟩
      refine zLen ⟨?_⟩
      refine zBinOp ⟨?_⟩
      refine zMove ⟨?_⟩
      refine zgMove ⟨?_⟩
      refine zgLen ⟨?_⟩
      refine zgMove ⟨?_⟩
      refine zgLen ⟨?_⟩
      refine zgBinOp ⟨?_⟩
      refine zPick ⟨?_⟩
      refine k46 _ ?_
      refine zk ⟨?_⟩
      refine v_cond _ rfl ?_ ?_
      ·intro hc5
       exfalso; have h1 := wrong_len hask
       have h2 := liveR_len l s
       first | (simp at hc5; done) | (simp at hc5; omega)
      ·intro hc5
       try simp only [zC, reduceCtorEq] at hc5
       refine v_skip ?_
       refine n45 _ _ (weak_keep [5, 16, 20, 26, 27, 28, 29, 31, 32] _) ?_
       refine zk ⟨?_⟩
       refine v_seqR [5,16,26,27,28,29,31,32,290,291,292] ?_; intro K48 k48
       refine zMove ⟨?_⟩
       refine zLen ⟨?_⟩
       refine zMove ⟨?_⟩
       refine k48 _ ?_
       refine zk ⟨?_⟩
       refine v_block ?_; intro Q49 n49 x49 e49 r49
       refine v_loop (fun j => ⟨[(5, .ref 0), (16, .ref 1), (26, .ref 3), (27, .ref 4), (28, .int .i64 z), (29, .int .i64 m), (31, .bool (zaB u t z m)), (32, .int .i64 (zaV u t z m)), (290, .ref 2), (291, .int .i64 (falseR l s w).length), (292, .int .i64 (Nat.cast j))], [.arr (l.map (fun t : Int × Int × Int × Bool => V.agg [V.int .i64 t.1, V.int .i64 t.2.1, V.int .i64 t.2.2.1, V.bool t.2.2.2])) .flat, .arr ((zonesR l s w).map (V.int .i64)) .flat, .arr ((falseR l s w).map (fun t : Int × Int => V.agg [V.int .i64 t.1, V.int .i64 t.2])) .flat, .arr (u.map (fun t : Int × Int × Int × Bool => V.agg [V.int .i64 t.1, V.int .i64 t.2.1, V.int .i64 t.2.2.1, V.bool t.2.2.2])) .flat, .arr (t.map (fun t : Int × Int => V.agg [V.int .i64 t.1, V.int .i64 t.2])) .flat], false, 358, 0⟩) (fun j => j ≤ (falseR l s w).length) (fun j => (falseR l s w).length - j) 0 ?_ ?_ ?_
       ·refine weak_bothS [5, 16, 26, 27, 28, 29, 31, 32, 290, 291, 292] [0, 2, 3, 5, 6] ⟨?_⟩
        rfl
       ·exact Nat.zero_le _
       ·rintro j hok50 Q50 n50 e50 r50
        have hj1 : j ≤ (falseR l s w).length := hok50
        refine v_seqR [5,16,26,27,28,29,31,32,290,291,292,293] ?_; intro K51 k51
        refine zBinOp ⟨?_⟩
        refine k51 _ ?_
        refine zk ⟨?_⟩
        refine v_seq ?_; intro Q52 n52 e52 r52
        refine v_condS _ rfl ?_ ?_
        ·intro hc6
         have hfb : (falseR l s w).length ≤ 61 := Nat.le_trans (falseR_len l s w) hqs
         have hltj : j < (falseR l s w).length := by simpa using hc6
         obtain ⟨⟨x0, x1⟩, hx⟩ : ∃ x : Int × Int, (falseR l s w)[j]? = some x := ⟨(falseR l s w)[j]'(by omega), List.getElem?_eq_getElem (by omega)⟩
         refine v_skip ?_
         refine n52 _ _ (weak_keep [5, 16, 26, 27, 28, 29, 31, 32, 290, 291, 292] _) ?_
         refine zk ⟨?_⟩
         refine v_seq ?_; intro Q54 n54 e54 r54
         refine v_block ?_; intro Q55 n55 x55 e55 r55
         refine v_seqR [5,16,26,27,28,29,31,32,40,290,291,292] ?_; intro K56 k56
         have F := Fc.mk (fun f => getD_map (f := f) hx)
         refine zIndexAddr ⟨?_⟩
         refine zLoad ⟨?_⟩
         refine zAlloc ⟨?_⟩
         refine zStore ⟨?_⟩
         refine k56 _ ?_
         refine zk ⟨?_⟩
         refine v_seqR [5,16,26,27,28,29,31,32,40,290,291,292,296,297,298] ?_; intro K57 k57
         refine zMove ⟨?_⟩
         refine zLen ⟨?_⟩
         refine zMove ⟨?_⟩
         refine k57 _ ?_
         refine zk ⟨?_⟩
         refine v_block ?_; intro Q58 n58 x58 e58 r58
         refine v_loop (fun k1 => ⟨[(5, .ref 0), (16, .ref 1), (26, .ref 3), (27, .ref 4), (28, .int .i64 z), (29, .int .i64 m), (31, .bool (zaB u t z m)), (32, .int .i64 (zaV u t z m)), (40, .ptr 5 0 0), (290, .ref 2), (291, .int .i64 (falseR l s w).length), (292, .int .i64 (Nat.cast j)), (296, .ref 0), (297, .int .i64 l.length), (298, .int .i64 (Nat.cast k1))], [.arr (l.map (fun t : Int × Int × Int × Bool => V.agg [V.int .i64 t.1, V.int .i64 t.2.1, V.int .i64 t.2.2.1, V.bool t.2.2.2])) .flat, .arr ((zonesR l s w).map (V.int .i64)) .flat, .arr ((falseR l s w).map (fun t : Int × Int => V.agg [V.int .i64 t.1, V.int .i64 t.2])) .flat, .arr (u.map (fun t : Int × Int × Int × Bool => V.agg [V.int .i64 t.1, V.int .i64 t.2.1, V.int .i64 t.2.2.1, V.bool t.2.2.2])) .flat, .arr (t.map (fun t : Int × Int => V.agg [V.int .i64 t.1, V.int .i64 t.2])) .flat, .box (.agg [V.int .i64 x0, V.int .i64 x1]) .flat], false, 358, 0⟩) (fun k1 => k1 ≤ l.length) (fun k1 => l.length - k1) 0 ?_ ?_ ?_
         ·refine weak_bothS [5, 16, 26, 27, 28, 29, 31, 32, 40, 290, 291, 292, 296, 297, 298] [0, 1, 2, 3, 4, 5] ⟨?_⟩
          rfl
         ·exact Nat.zero_le _
         ·rintro k1 hok59 Q59 n59 e59 r59
          have hk1 : k1 ≤ l.length := hok59
          refine v_seqR [5,16,26,27,28,29,31,32,40,290,291,292,296,297,298,299] ?_; intro K60 k60
          refine zBinOp ⟨?_⟩
          refine k60 _ ?_
          refine zk ⟨?_⟩
          refine v_seq ?_; intro Q61 n61 e61 r61
          refine v_condS _ rfl ?_ ?_
          ·intro hc7
           have hltk : k1 < l.length := by simpa using hc7
           obtain ⟨⟨d0, d1, d2, d3⟩, hd⟩ : ∃ x : Int × Int × Int × Bool, l[k1]? = some x := ⟨l[k1]'(by omega), List.getElem?_eq_getElem (by omega)⟩
           refine v_skip ?_
           refine n61 _ _ (weak_keep [5, 16, 26, 27, 28, 29, 31, 32, 40, 290, 291, 292, 296, 297, 298] _) ?_
           refine zk ⟨?_⟩
           refine v_seq ?_; intro Q63 n63 e63 r63
           refine v_block ?_; intro Q64 n64 x64 e64 r64
           refine v_seqR [5,16,26,27,28,29,31,32,40,42,290,291,292,296,297,298] ?_; intro K65 k65
           have F := Fc.mk (And.intro (fun f => getD_map (f := f) hx) (fun f => getD_map (f := f) hd))
           refine zIndexAddr ⟨?_⟩
           refine zLoad ⟨?_⟩
           refine zAlloc ⟨?_⟩
           refine zStore ⟨?_⟩
           refine k65 _ ?_
           refine zk ⟨?_⟩
           refine v_seqR [5,16,26,27,28,29,31,32,40,290,291,292,296,297,298,316] ?_; intro K66 k66
           refine zFieldAddr ⟨?_⟩
           refine zLoad ⟨?_⟩
           refine zFieldAddr ⟨?_⟩
           refine zLoad ⟨?_⟩
           refine zBinOp ⟨?_⟩
           refine zMove ⟨?_⟩
           refine zgFieldAddr ⟨?_⟩
           refine zgLoad ⟨?_⟩
           refine zgMove ⟨?_⟩
           refine zgMove ⟨?_⟩
           refine zgFieldAddr ⟨?_⟩
           refine zgLoad ⟨?_⟩
           refine zgc (qHas_con (zonesR l s w) d1 (by have := zonesR_len l s w; omega)) ⟨?_⟩
           refine zgPick ⟨?_⟩
           refine zPick ⟨?_⟩
           refine k66 _ ?_
           refine zk ⟨?_⟩
           refine v_cond _ rfl ?_ ?_
           ·intro hc8
            exfalso; have hwd := wrong_det hask (List.mem_of_getElem? hx) (List.mem_of_getElem? hd)
            revert hc8
            by_cases q : d0 = x1
            ·have h2 := hwd q; simp at h2; simp [q, h2.1, h2.2]
            ·simp [q]
           ·intro hc8
            try simp only [zC, reduceCtorEq] at hc8
            refine v_skip ?_
            refine n64 _ ?_
            refine n63 _ _ (weak_keep [5, 16, 26, 27, 28, 29, 31, 32, 40, 290, 291, 292, 296, 297, 298] _) ?_
            refine zk ⟨?_⟩
            refine v_region ?_; intro K68 k68
            refine zBinOpW ⟨?_⟩
            refine zMove ⟨?_⟩
            refine k68 _ ?_
            refine n59 _ (k1 + 1) ?_ ?_ ?_
            ·refine weak_bothS [5, 16, 26, 27, 28, 29, 31, 32, 40, 290, 291, 292, 296, 297, 298] [0, 1, 2, 3, 4, 5] ⟨?_⟩
             rfl
            ·exact hltk
            ·show _ < _; omega
          ·intro hc7
           refine v_exit ?_
           refine e61 _ _ ?_
           refine e59 _ _ ?_
           refine x58 _ ?_
           refine n55 _ ?_
           refine n54 _ _ (weak_keep [5, 16, 26, 27, 28, 29, 31, 32, 290, 291, 292] _) ?_
           refine zk ⟨?_⟩
           refine v_region ?_; intro K69 k69
           refine zBinOpW ⟨?_⟩
           refine zMove ⟨?_⟩
           refine k69 _ ?_
           refine n50 _ (j + 1) ?_ ?_ ?_
           ·refine weak_bothS [5, 16, 26, 27, 28, 29, 31, 32, 290, 291, 292] [0, 1, 2, 3, 4] ⟨?_⟩
            rfl
           ·exact hltj
           ·show _ < _; omega
        ·intro hc6
         refine v_exit ?_
         refine e52 _ _ ?_
         refine e50 _ _ ?_
         refine x49 _ ?_
         refine n21 _ _ (weak_keep [26, 27, 28, 29, 31, 32] _) ?_
         refine zk ⟨?_⟩
         refine v_seq ?_; intro Q70 n70 e70 r70
         refine v_seqR [26,27,28,29,32,323] ?_; intro K71 k71
         refine zMove ⟨?_⟩
         refine zMove ⟨?_⟩
         refine zgMove ⟨?_⟩
         refine zgBinOp ⟨?_⟩
         refine zPick ⟨?_⟩
         refine k71 _ ?_
         refine zk ⟨?_⟩
         refine v_condS _ rfl ?_ ?_
         ·intro hc9
          have hsv : zaB u t z m = true ∧ m < 3600 := by simpa using hc9
          have hwd := wider hsv.1 hsv.2
          refine v_seqR [26,27,28,29,32,43,44] ?_; intro K73 k73
          refine zMove ⟨?_⟩
          refine zMove ⟨?_⟩
          refine zMove ⟨?_⟩
          refine zMove ⟨?_⟩
          refine zBinOpW ⟨?_⟩
          refine zc (implZoneAlarm_con u t z (m + 1) (by omega) (by omega)) ⟨?_⟩
          refine zMove ⟨?_⟩
          refine zExtract ⟨?_⟩
          refine zExtract ⟨?_⟩
          refine zAssign ⟨?_⟩
          refine zAssign ⟨?_⟩
          refine k73 _ ?_
          refine zk ⟨?_⟩
          refine v_seqR [32,43,44,45,46] ?_; intro K74 k74
          refine zMove ⟨?_⟩
          refine zMove ⟨?_⟩
          refine zMove ⟨?_⟩
          refine zMove ⟨?_⟩
          refine zBinOpW ⟨?_⟩
          refine zc (specZoneAlarm_con u t z (m + 1) (by omega) (by omega)) ⟨?_⟩
          refine zMove ⟨?_⟩
          refine zExtract ⟨?_⟩
          refine zExtract ⟨?_⟩
          refine zAssign ⟨?_⟩
          refine zAssign ⟨?_⟩
          refine k74 _ ?_
          refine zk ⟨?_⟩
          refine v_seqR [357] ?_; intro K75 k75
          refine zMove ⟨?_⟩
          refine zUnOp ⟨?_⟩
          refine zMove ⟨?_⟩
          refine zgMove ⟨?_⟩
          refine zgUnOp ⟨?_⟩
          refine zPick ⟨?_⟩
          refine zMove ⟨?_⟩
          refine zgMove ⟨?_⟩
          refine zgMove ⟨?_⟩
          refine zgBinOp ⟨?_⟩
          refine zPick ⟨?_⟩
          refine zMove ⟨?_⟩
          refine zgMove ⟨?_⟩
          refine zgMove ⟨?_⟩
          refine zgBinOp ⟨?_⟩
          refine zPick ⟨?_⟩
          refine k75 _ ?_
          refine zk ⟨?_⟩
          refine v_cond _ rfl ?_ ?_
          ·intro hc10
           exfalso; have h2 := hwd.2
           first | (simp [hwd.1] at hc10; done) | (simp [hwd.1] at hc10; omega)
          ·intro hc10
           try simp only [zC, reduceCtorEq] at hc10
           refine v_skip ?_
           refine n70 _ _ (weak_keep [] _) ?_
           refine zk ⟨?_⟩
           refine v_seqR [4] ?_; intro K77 k77
           refine zAssign ⟨?_⟩
           refine k77 _ ?_
           refine zk ⟨?_⟩
           refine v_ret ?_
           refine r0 _ ?_
           refine zf ⟨?_⟩
           exact ret_pure rfl rfl (.inl rfl)
         ·intro hc9
          refine v_skip ?_
          refine n70 _ _ (weak_keep [] _) ?_
          refine zk ⟨?_⟩
          refine v_seqR [4] ?_; intro K78 k78
          refine zAssign ⟨?_⟩
          refine k78 _ ?_
          refine zk ⟨?_⟩
          refine v_ret ?_
          refine r0 _ ?_
          refine zf ⟨?_⟩
          exact ret_pure rfl rfl (.inl rfl)
   ·intro hc2
    refine v_skip ?_
    refine n21 _ _ (weak_keep [26, 27, 28, 29, 31, 32] _) ?_
    refine zk ⟨?_⟩
    refine v_seq ?_; intro Q79 n79 e79 r79
    refine v_seqR [26,27,28,29,32,323] ?_; intro K80 k80
    refine zMove ⟨?_⟩
    refine zMove ⟨?_⟩
    refine zgMove ⟨?_⟩
    refine zgBinOp ⟨?_⟩
    refine zPick ⟨?_⟩
    refine k80 _ ?_
    refine zk ⟨?_⟩
    refine v_condS _ rfl ?_ ?_
    ·intro hc11
     have hsv : zaB u t z m = true ∧ m < 3600 := by simpa using hc11
     have hwd := wider hsv.1 hsv.2
     refine v_seqR [26,27,28,29,32,43,44] ?_; intro K82 k82
     refine zMove ⟨?_⟩
     refine zMove ⟨?_⟩
     refine zMove ⟨?_⟩
     refine zMove ⟨?_⟩
     refine zBinOpW ⟨?_⟩
     refine zc (implZoneAlarm_con u t z (m + 1) (by omega) (by omega)) ⟨?_⟩
     refine zMove ⟨?_⟩
     refine zExtract ⟨?_⟩
     refine zExtract ⟨?_⟩
     refine zAssign ⟨?_⟩
     refine zAssign ⟨?_⟩
     refine k82 _ ?_
     refine zk ⟨?_⟩
     refine v_seqR [32,43,44,45,46] ?_; intro K83 k83
     refine zMove ⟨?_⟩
     refine zMove ⟨?_⟩
     refine zMove ⟨?_⟩
     refine zMove ⟨?_⟩
     refine zBinOpW ⟨?_⟩
     refine zc (specZoneAlarm_con u t z (m + 1) (by omega) (by omega)) ⟨?_⟩
     refine zMove ⟨?_⟩
     refine zExtract ⟨?_⟩
     refine zExtract ⟨?_⟩
     refine zAssign ⟨?_⟩
     refine zAssign ⟨?_⟩
     refine k83 _ ?_
     refine zk ⟨?_⟩
     refine v_seqR [357] ?_; intro K84 k84
     refine zMove ⟨?_⟩
     refine zUnOp ⟨?_⟩
     refine zMove ⟨?_⟩
     refine zgMove ⟨?_⟩
     refine zgUnOp ⟨?_⟩
     refine zPick ⟨?_⟩
     refine zMove ⟨?_⟩
     refine zgMove ⟨?_⟩
     refine zgMove ⟨?_⟩
     refine zgBinOp ⟨?_⟩
     refine zPick ⟨?_⟩
     refine zMove ⟨?_⟩
     refine zgMove ⟨?_⟩
     refine zgMove ⟨?_⟩
     refine zgBinOp ⟨?_⟩
     refine zPick ⟨?_⟩
     refine k84 _ ?_
     refine zk ⟨?_⟩
     refine v_cond _ rfl ?_ ?_
     ·intro hc12
      exfalso; have h2 := hwd.2
      first | (simp [hwd.1] at hc12; done) | (simp [hwd.1] at hc12; omega)
     ·intro hc12
      try simp only [zC, reduceCtorEq] at hc12
      refine v_skip ?_
      refine n79 _ _ (weak_keep [] _) ?_
      refine zk ⟨?_⟩
      refine v_seqR [4] ?_; intro K86 k86
      refine zAssign ⟨?_⟩
      refine k86 _ ?_
      refine zk ⟨?_⟩
      refine v_ret ?_
      refine r0 _ ?_
      refine zf ⟨?_⟩
      exact ret_pure rfl rfl (.inl rfl)
    ·intro hc11
     refine v_skip ?_
     refine n79 _ _ (weak_keep [] _) ?_
     refine zk ⟨?_⟩
     refine v_seqR [4] ?_; intro K87 k87
     refine zAssign ⟨?_⟩
     refine k87 _ ?_
     refine zk ⟨?_⟩
     refine v_ret ?_
     refine r0 _ ?_
     refine zf ⟨?_⟩
     exact ret_pure rfl rfl (.inl rfl)
end Go.Proofs.Ytmlicajgbgjphaa
