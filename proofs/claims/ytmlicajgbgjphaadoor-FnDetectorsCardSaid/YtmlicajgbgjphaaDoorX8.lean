/- What functions compute. No condition. -/
import Derived.Test.YtmlicajgbgjphaaDoorUty
import Derived.Test.YtmlicajgbgjphaaDoorUmG
import Derived.Test.YtmlicajgbgjphaaDoorX7
import Derived.Test.YtmlicajgbgjphaaDoorX6
import Derived.Test.YtmlicajgbgjphaaDoorX4
import Derived.Test.YtmlicajgbgjphaaDoorX3
set_option linter.unusedSimpArgs false
set_option linter.unusedVariables false
set_option linter.defProp false
namespace Go.Proofs.YtmlicajgbgjphaaDoor
open Go Go.Vm

set_option maxHeartbeats 6000000 in
theorem lawFnDetectors_con (c1 c2 : List Int) (hc1 : ∀ x ∈ c1, 0 ≤ x ∧ x ≤ 255) (hc2 : ∀ x ∈ c2, 0 ≤ x ∧ x ≤ 255) (hn1 : c1.length ≤ 9223372036854775807) (hn2 : c2.length ≤ 9223372036854775807) : Con Tryd.prog 6 [.sl (c1.map (V.int .u8)), .sl (c2.map (V.int .u8))] [] (.bool true) [] := by
 refine v_con [.tmp 4] [] Tryd.func6 rfl rfl rfl (by simp [Tryd.ntmps6]) ?_
 intro Q0 n0 r0
 simp only [Tryd.ntmps6, envFrom, Nat.reduceAdd]
 have T := Tys.mk (And.intro Ty.t3 (And.intro Ty.t4 (And.intro Ty.t5 (And.intro Ty.t9 (And.intro Ty.t33 (And.intro Ty.t43 (And.intro Ty.t48 (And.intro Ty.t51 (And.intro Ty.t61 Ty.t65)))))))))
 have F := Fc.mk True.intro
 refine v_seqR [0,1] ?_; intro K1 k1
 refine zAssign ⟨?_⟩
 refine k1 _ ?_
 refine zk ⟨?_⟩
 refine v_seq ?_; intro Q2 n2 e2 r2
 refine v_seqR [0,1,51] ?_; intro K3 k3
 refine zMove ⟨?_⟩
 refine zLen ⟨?_⟩
 refine zMove ⟨?_⟩
 refine zLen ⟨?_⟩
 refine zBinOpW ⟨?_⟩
 refine zBinOp ⟨?_⟩
 refine k3 _ ?_
 refine zk ⟨?_⟩
 refine v_condS _ rfl ?_ ?_
 ·intro hc0
  refine v_seqR [4] ?_; intro K5 k5
  refine zAssign ⟨?_⟩
  refine k5 _ ?_
  refine zk ⟨?_⟩
  refine v_ret ?_
  refine r2 _ ?_
  refine r0 _ ?_
  refine zf ⟨?_⟩
  exact ret_pure rfl rfl (.inl rfl)
 ·intro hc0
  refine v_skip ?_
  refine n2 _ _ (weak_keep [0, 1] _) ?_
  refine zk ⟨?_⟩
  refine v_seqR [1,5,6,7] ?_; intro K6 k6
  refine zMove ⟨?_⟩
  refine v_op ?_; intro K k
  simp only [zE, zM, aStepM, optable, set_some, Nat.reduceEqDiff, reduceIte, Nat.reduceLT, implies_true, forall_const, reduceCtorEq, V.ofValue, V.ofScalar, V.un, V.gd, aExec, lentIds, lendOf, ‹Tys _›.h, ‹Fc _›.h]
  repeat (refine andC ?_)
  refine aCall_newXA (drawSwitchDetector_con c1 hc1 hn1) ?_
  rintro _ _ ⟨l, n, off, hql, rfl, rfl⟩
  refine ⟨by first | exact .inl ⟨rfl, by simp [Blk.kindIs, fillK_fd]⟩ | exact .inr (by simp [V.coldIn, V.cold, idx]), ?_⟩
  refine k _ ?_; clear k K
  simp only [zY, zW, set_some, Nat.reduceEqDiff, reduceIte, rho_one, rho_s, V.ren, V.renL, List.set_cons_zero, List.set_cons_succ, rho, Nat.reduceAdd, Nat.add_zero]
  have hsr := swR_len l n off
  refine zMove ⟨?_⟩
  refine zExtract ⟨?_⟩
  refine zExtract ⟨?_⟩
  refine zExtract ⟨?_⟩
  refine zAssign ⟨?_⟩
  refine zAssign ⟨?_⟩
  refine zAssign ⟨?_⟩
  refine k6 _ ?_
  refine zk ⟨?_⟩
  refine v_seqR [1,5,6,7,8,9] ?_; intro K7 k7
  refine zMove ⟨?_⟩
  refine zMove ⟨?_⟩
  refine zMove ⟨?_⟩
  refine zc (implSwitch_con l n off (by omega)) ⟨?_⟩
  refine zMove ⟨?_⟩
  refine zExtract ⟨?_⟩
  refine zExtract ⟨?_⟩
  refine zAssign ⟨?_⟩
  refine zAssign ⟨?_⟩
  refine k7 _ ?_
  refine zk ⟨?_⟩
  refine v_seqR [1,5,6,7,8,9,10,11] ?_; intro K8 k8
  refine zMove ⟨?_⟩
  refine zMove ⟨?_⟩
  refine zMove ⟨?_⟩
  refine zc (specSwitch_con l n off (by omega)) ⟨?_⟩
  refine zMove ⟨?_⟩
  refine zExtract ⟨?_⟩
  refine zExtract ⟨?_⟩
  refine zAssign ⟨?_⟩
  refine zAssign ⟨?_⟩
  refine k8 _ ?_
  refine zk ⟨?_⟩
  refine v_seqR [1,5,6,7,8,9,10,11,12,13] ?_; intro K9 k9
  refine zMove ⟨?_⟩
  refine zc (implOpenZones_con l (by omega)) ⟨?_⟩
  refine zMove ⟨?_⟩
  refine zExtract ⟨?_⟩
  refine zExtract ⟨?_⟩
  refine zAssign ⟨?_⟩
  refine zAssign ⟨?_⟩
  refine k9 _ ?_
  refine zk ⟨?_⟩
  refine v_seqR [1,5,6,7,8,9,10,11,12,13,14,15] ?_; intro K10 k10
  refine zMove ⟨?_⟩
  refine zc (specOpenZones_con l (by omega)) ⟨?_⟩
  refine zMove ⟨?_⟩
  refine zExtract ⟨?_⟩
  refine zExtract ⟨?_⟩
  refine zAssign ⟨?_⟩
  refine zAssign ⟨?_⟩
  refine k10 _ ?_
  refine zk ⟨?_⟩
  refine v_seqR [1,5,6,7,8,9,10,11,12,13,14,15,16,17,18,19] ?_; intro K11 k11
  refine zMove ⟨?_⟩
  refine v_op ?_; intro K k
  simp only [zE, zM, aStepM, optable, set_some, Nat.reduceEqDiff, reduceIte, Nat.reduceLT, implies_true, forall_const, reduceCtorEq, V.ofValue, V.ofScalar, V.un, V.gd, aExec, lentIds, lendOf, ‹Tys _›.h, ‹Fc _›.h]
  repeat (refine andC ?_)
  refine aCall_newXA (drawNoisyDetectors_con c2 hc2 hn2) ?_
  rintro _ _ ⟨u, sg, w, m, ⟨hqu, hqs, hqw, hqm⟩, rfl, rfl⟩
  refine ⟨by first | exact .inl ⟨rfl, by simp [Blk.kindIs, fillK_fd]⟩ | exact .inr (by simp [V.coldIn, V.cold, idx]), ?_⟩
  refine k _ ?_; clear k K
  simp only [zY, zW, set_some, Nat.reduceEqDiff, reduceIte, rho_one, rho_s, V.ren, V.renL, List.set_cons_zero, List.set_cons_succ, rho, Nat.reduceAdd, Nat.add_zero]
  have hfr := falseR_len u sg w
  have hnr := noisyR_len u sg w m
  refine zMove ⟨?_⟩
  refine zExtract ⟨?_⟩
  refine zExtract ⟨?_⟩
  refine zExtract ⟨?_⟩
  refine zExtract ⟨?_⟩
  refine zAssign ⟨?_⟩
  refine zAssign ⟨?_⟩
  refine zAssign ⟨?_⟩
  refine zAssign ⟨?_⟩
  refine k11 _ ?_
  refine zk ⟨?_⟩
  refine v_seqR [1,5,6,7,8,9,10,11,12,13,14,15,16,17,18,19,20,21] ?_; intro K12 k12
  refine zMove ⟨?_⟩
  refine zMove ⟨?_⟩
  refine zMove ⟨?_⟩
  refine zMove ⟨?_⟩
  refine zc (implNoisy_con u sg w m (by omega) (by omega)) ⟨?_⟩
  refine zMove ⟨?_⟩
  refine zExtract ⟨?_⟩
  refine zExtract ⟨?_⟩
  refine zAssign ⟨?_⟩
  refine zAssign ⟨?_⟩
  refine k12 _ ?_
  refine zk ⟨?_⟩
  refine v_seqR [1,5,6,7,8,9,10,11,12,13,14,15,16,17,18,19,20,21,22,23] ?_; intro K13 k13
  refine zMove ⟨?_⟩
  refine zMove ⟨?_⟩
  refine zMove ⟨?_⟩
  refine zMove ⟨?_⟩
  refine zc (specNoisy_con u sg w m (by omega) (by omega)) ⟨?_⟩
  refine zMove ⟨?_⟩
  refine zExtract ⟨?_⟩
  refine zExtract ⟨?_⟩
  refine zAssign ⟨?_⟩
  refine zAssign ⟨?_⟩
  refine k13 _ ?_
  refine zk ⟨?_⟩
  refine v_seqR [1,5,6,7,8,9,10,11,12,13,14,15,16,17,18,19,20,21,22,23,24] ?_; intro K14 k14
  refine zMove ⟨?_⟩
  refine v_op ?_; intro K k
  simp only [zE, zM, aStepM, optable, set_some, Nat.reduceEqDiff, reduceIte, Nat.reduceLT, implies_true, forall_const, reduceCtorEq, V.ofValue, V.ofScalar, V.un, V.gd, aExec, lentIds, lendOf, ‹Tys _›.h, ‹Fc _›.h]
  repeat (refine andC ?_)
  refine aCall_newXA (drawDetectorsText_con c2 hc2 hn2) ?_
  rintro _ _ ⟨v, hqv, rfl, rfl⟩
  refine ⟨by first | exact .inl ⟨rfl, by simp [Blk.kindIs, fillK_fd]⟩ | exact .inr (by simp [V.coldIn, V.cold, idx]), ?_⟩
  refine k _ ?_; clear k K
  simp only [zY, zW, set_some, Nat.reduceEqDiff, reduceIte, rho_one, rho_s, V.ren, V.renL, List.set_cons_zero, List.set_cons_succ, rho, Nat.reduceAdd, Nat.add_zero]
  refine zAssign ⟨?_⟩
  refine k14 _ ?_
  refine zk ⟨?_⟩
  refine v_seqR [1,5,6,7,8,9,10,11,12,13,14,15,16,17,18,19,20,21,22,23,24,25,26] ?_; intro K15 k15
  refine zMove ⟨?_⟩
  refine zc (implDetectorsText_con v (by omega)) ⟨?_⟩
  refine zMove ⟨?_⟩
  refine zExtract ⟨?_⟩
  refine zExtract ⟨?_⟩
  refine zAssign ⟨?_⟩
  refine zAssign ⟨?_⟩
  refine k15 _ ?_
  refine zk ⟨?_⟩
  refine v_seqR [1,5,6,7,8,9,10,11,12,13,14,15,16,17,18,19,20,21,22,23,24,25,26,27,28] ?_; intro K16 k16
  refine zMove ⟨?_⟩
  refine zc (specDetectorsText_con v (by omega)) ⟨?_⟩
  refine zMove ⟨?_⟩
  refine zExtract ⟨?_⟩
  refine zExtract ⟨?_⟩
  refine zAssign ⟨?_⟩
  refine zAssign ⟨?_⟩
  refine k16 _ ?_
  refine zk ⟨?_⟩
  refine v_seqR [5,6,7,8,9,10,11,12,13,14,15,16,17,18,19,20,21,22,23,24,25,26,27,28,29] ?_; intro K17 k17
  refine zMove ⟨?_⟩
  refine v_op ?_; intro K k
  simp only [zE, zM, aStepM, optable, set_some, Nat.reduceEqDiff, reduceIte, Nat.reduceLT, implies_true, forall_const, reduceCtorEq, V.ofValue, V.ofScalar, V.un, V.gd, aExec, lentIds, lendOf, ‹Tys _›.h, ‹Fc _›.h]
  repeat (refine andC ?_)
  refine aCall_newXA (drawAreSignals_con c2 hc2 hn2) ?_
  rintro _ _ ⟨ws, hqw2, rfl, rfl⟩
  refine ⟨by first | exact .inl ⟨rfl, by simp [Blk.kindIs, fillK_fd]⟩ | exact .inr (by simp [V.coldIn, V.cold, idx]), ?_⟩
  refine k _ ?_; clear k K
  simp only [zY, zW, set_some, Nat.reduceEqDiff, reduceIte, rho_one, rho_s, V.ren, V.renL, List.set_cons_zero, List.set_cons_succ, rho, Nat.reduceAdd, Nat.add_zero]
  refine zAssign ⟨?_⟩
  refine k17 _ ?_
  refine zk ⟨?_⟩
  refine v_seq ?_; intro Q18 n18 e18 r18
  refine v_seqR [5,6,7,8,9,10,14,16,17,18,19,21,22,179] ?_; intro K19 k19
  refine zMove ⟨?_⟩
  refine zMove ⟨?_⟩
  refine zBinOp ⟨?_⟩
  refine zMove ⟨?_⟩
  refine zgMove ⟨?_⟩
  refine zgMove ⟨?_⟩
  refine zgc (qDetectors_con (swR l n off) (by omega)) ⟨?_⟩
  refine zgUnOp ⟨?_⟩
  refine zPick ⟨?_⟩
  refine zMove ⟨?_⟩
  refine zgMove ⟨?_⟩
  refine zgMove ⟨?_⟩
  refine zgBinOp ⟨?_⟩
  refine zPick ⟨?_⟩
  refine zMove ⟨?_⟩
  refine zgMove ⟨?_⟩
  refine zgMove ⟨?_⟩
  refine zgc (qInts_con (ozR l) (Nat.le_trans (ozR_len l) (by omega))) ⟨?_⟩
  refine zgUnOp ⟨?_⟩
  refine zPick ⟨?_⟩
  refine zMove ⟨?_⟩
  refine zgMove ⟨?_⟩
  refine zgMove ⟨?_⟩
  refine zgBinOp ⟨?_⟩
  refine zPick ⟨?_⟩
  refine zMove ⟨?_⟩
  refine zgMove ⟨?_⟩
  refine zgMove ⟨?_⟩
  refine zgc (qInts_con (noisyR u sg w m) (by omega)) ⟨?_⟩
  refine zgUnOp ⟨?_⟩
  refine zPick ⟨?_⟩
  refine zMove ⟨?_⟩
  refine zgMove ⟨?_⟩
  refine zgMove ⟨?_⟩
  refine zgBinOp ⟨?_⟩
  refine zPick ⟨?_⟩
  refine zMove ⟨?_⟩
  refine zgMove ⟨?_⟩
  refine zgMove ⟨?_⟩
  refine zgBinOp ⟨?_⟩
  refine zPick ⟨?_⟩
  refine zMove ⟨?_⟩
  refine zgMove ⟨?_⟩
  refine zgMove ⟨?_⟩
  refine zgc (implAreDetectors_con v (by omega)) ⟨?_⟩
  refine zgBinOp ⟨?_⟩
  refine zPick ⟨?_⟩
  refine zMove ⟨?_⟩
  refine zgMove ⟨?_⟩
  refine zgc (implAreSignals_con ws (by omega)) ⟨?_⟩
  refine zgMove ⟨?_⟩
  refine zgc (specAreSignals_con ws (by omega)) ⟨?_⟩
  refine zgBinOp ⟨?_⟩
  refine zPick ⟨?_⟩
  refine zMove ⟨?_⟩
  refine zgMove ⟨?_⟩
  refine zgMove ⟨?_⟩
  refine zgMove ⟨?_⟩
  refine zgUnOp ⟨?_⟩
  refine zgPick ⟨?_⟩
  refine zPick ⟨?_⟩
  refine k19 _ ?_
  refine zk ⟨?_⟩
  refine v_cond _ rfl ?_ ?_
  ·intro hc1
   exfalso; revert hc1
   cases h1 : swB l n with
   |false => simp
   |true => (have h2 : dsB l = true := (by rw [swB, Bool.and_eq_true] at h1; exact h1.1); simp [h2])
  ·intro hc1
   try simp only [zC, reduceCtorEq] at hc1
   refine v_skip ?_
   refine n18 _ _ (weak_keep [5, 6, 7, 8, 9, 10, 14, 16, 17, 18, 19, 21, 22] _) ?_
   refine zk ⟨?_⟩
   refine v_join (A := Unit) (fun u0 => ⟨[(16, .ref 0), (17, .ref 1), (18, .int .i64 w), (19, .int .i64 m), (21, .bool (noisyB u sg w m)), (22, .ref 2)], [.arr (u.map (fun t : Int × Int × Int × Bool => V.agg [V.int .i64 t.1, V.int .i64 t.2.1, V.int .i64 t.2.2.1, V.bool t.2.2.2])) .flat, .arr (sg.map (fun t : Int × Int => V.agg [V.int .i64 t.1, V.int .i64 t.2])) .flat, .arr ((noisyR u sg w m).map (V.int .i64)) .flat], false, 300, 0⟩) (fun u0 => True) ?_ ?_
   ·intro Q21 n21 e21 r21
    refine v_seqR [5,6,7,8,10,14,16,17,18,19,21,22,180] ?_; intro K22 k22
    refine zMove ⟨?_⟩
    refine k22 _ ?_
    refine zk ⟨?_⟩
    refine v_condS _ rfl ?_ ?_
    ·intro hc2
     have hok : swB l n = true := hc2
     have hoz := oz_sw hok off
     have hd2 := hoz.1
     refine v_seq ?_; intro Q24 n24 e24 r24
     refine v_seqR [5,6,7,8,10,14,16,17,18,19,21,22,181,182,183] ?_; intro K25 k25
     have F := Fc.mk hd2
     refine zMove ⟨?_⟩
     refine zLen ⟨?_⟩
     refine zMove ⟨?_⟩
     refine k25 _ ?_
     refine zk ⟨?_⟩
     refine v_block ?_; intro Q26 n26 x26 e26 r26
     refine v_loop (fun i => ⟨[(5, .ref 0), (6, .int .i64 n), (7, .bool off), (8, .ref 1), (10, .ref 2), (14, .ref 3), (16, .ref 4), (17, .ref 5), (18, .int .i64 w), (19, .int .i64 m), (21, .bool (noisyB u sg w m)), (22, .ref 6), (181, .ref 0), (182, .int .i64 l.length), (183, .int .i64 (Nat.cast i))], [.arr (l.map (fun t : Int × Int × Int × Bool => V.agg [V.int .i64 t.1, V.int .i64 t.2.1, V.int .i64 t.2.2.1, V.bool t.2.2.2])) .flat, .arr ((swR l n off).map (fun t : Int × Int × Int × Bool => V.agg [V.int .i64 t.1, V.int .i64 t.2.1, V.int .i64 t.2.2.1, V.bool t.2.2.2])) .flat, .arr ((swR l n off).map (fun t : Int × Int × Int × Bool => V.agg [V.int .i64 t.1, V.int .i64 t.2.1, V.int .i64 t.2.2.1, V.bool t.2.2.2])) .flat, .arr ((ozR l).map (V.int .i64)) .flat, .arr (u.map (fun t : Int × Int × Int × Bool => V.agg [V.int .i64 t.1, V.int .i64 t.2.1, V.int .i64 t.2.2.1, V.bool t.2.2.2])) .flat, .arr (sg.map (fun t : Int × Int => V.agg [V.int .i64 t.1, V.int .i64 t.2])) .flat, .arr ((noisyR u sg w m).map (V.int .i64)) .flat], false, 300, 0⟩) (fun i => i ≤ l.length) (fun i => l.length - i) (0 : Nat) ?_ ?_ ?_
     ·refine weak_bothS [5, 6, 7, 8, 10, 14, 16, 17, 18, 19, 21, 22, 181, 182, 183] [0, 1, 2, 4, 5, 6, 8] ⟨?_⟩
      rfl
     ·exact Nat.zero_le _
     ·rintro i hok27 Q27 n27 e27 r27
      have hi1 : i ≤ l.length := hok27
      refine v_seqR [5,6,7,8,10,14,16,17,18,19,21,22,181,182,183,184] ?_; intro K28 k28
      refine zBinOp ⟨?_⟩
      refine k28 _ ?_
      refine zk ⟨?_⟩
      refine v_seq ?_; intro Q29 n29 e29 r29
      refine v_condS _ rfl ?_ ?_
      ·intro hc3
       have hlt : i < l.length := by omega
       obtain ⟨⟨x0, x1, x2, x3⟩, hx⟩ : ∃ x : Int × Int × Int × Bool, l[i]? = some x := ⟨l[i]'(by omega), List.getElem?_eq_getElem (by omega)⟩
       have hsw := swR_at hok off hx
       have hsl := (List.getElem?_eq_some_iff.1 hsw).1
       refine v_skip ?_
       refine n29 _ _ (weak_keep [5, 6, 7, 8, 10, 14, 16, 17, 18, 19, 21, 22, 181, 182, 183] _) ?_
       refine zk ⟨?_⟩
       refine v_seq ?_; intro Q31 n31 e31 r31
       refine v_block ?_; intro Q32 n32 x32 e32 r32
       refine v_seqR [5,6,7,8,10,14,16,17,18,19,21,22,30,31,181,182,183] ?_; intro K33 k33
       have F := Fc.mk (And.intro hd2 (fun f => getD_map (f := f) hx))
       refine zMove ⟨?_⟩
       refine zIndexAddr ⟨?_⟩
       refine zLoad ⟨?_⟩
       refine zAlloc ⟨?_⟩
       refine zAssign ⟨?_⟩
       refine zStore ⟨?_⟩
       refine k33 _ ?_
       refine zk ⟨?_⟩
       refine v_seqR [5,6,7,8,10,14,16,17,18,19,21,22,30,31,32,181,182,183] ?_; intro K34 k34
       refine zLoad ⟨?_⟩
       refine zAlloc ⟨?_⟩
       refine zStore ⟨?_⟩
       refine k34 _ ?_
       refine zk ⟨?_⟩
       refine v_seq ?_; intro Q35 n35 e35 r35
       refine v_seqR [5,6,7,8,10,14,16,17,18,19,21,22,30,31,32,181,182,183,192] ?_; intro K36 k36
       refine zFieldAddr ⟨?_⟩
       refine zLoad ⟨?_⟩
       refine zMove ⟨?_⟩
       refine zBinOp ⟨?_⟩
       refine k36 _ ?_
       refine zk ⟨?_⟩
       refine v_condS _ rfl ?_ ?_
       ·intro hc4
        have hxn : x0 = n := hc4
        have hbk := sw_back hok off hx hxn
        have hsw1 : (swR l n off)[i]? = some (x0, x1, x2, off) := by rw [hsw, if_pos hxn]; rfl
        refine v_seqR [5,6,7,8,10,14,16,17,18,19,21,22,30,31,32,181,182,183] ?_; intro K38 k38
        have F := Fc.mk (And.intro hd2 (And.intro (fun f => getD_map (f := f) hx) (fun f => getD_map (f := f) hsw1)))
        refine zMove ⟨?_⟩
        refine zFieldAddr ⟨?_⟩
        refine zStore ⟨?_⟩
        refine k38 _ ?_
        refine zk ⟨?_⟩
        refine v_seqR [5,6,7,8,10,14,16,17,18,19,21,22,30,32,33,34,181,182,183] ?_; intro K39 k39
        refine zMove ⟨?_⟩
        refine zMove ⟨?_⟩
        refine zFieldAddr ⟨?_⟩
        refine zLoad ⟨?_⟩
        refine zc ((by have q := implSwitch_con (swR l n off) n x3 (by omega); rw [hbk.1, hbk.2] at q; exact q)) ⟨?_⟩
        refine zMove ⟨?_⟩
        refine zExtract ⟨?_⟩
        refine zExtract ⟨?_⟩
        refine zAssign ⟨?_⟩
        refine zAssign ⟨?_⟩
        refine k39 _ ?_
        refine zk ⟨?_⟩
        refine v_seqR [5,6,7,8,10,14,16,17,18,19,21,22,30,32,181,182,183,210] ?_; intro K40 k40
        refine zMove ⟨?_⟩
        refine zUnOp ⟨?_⟩
        refine zMove ⟨?_⟩
        refine zgMove ⟨?_⟩
        refine zgMove ⟨?_⟩
        refine zgc (qDetectors_con l (by omega)) ⟨?_⟩
        refine zgUnOp ⟨?_⟩
        refine zPick ⟨?_⟩
        refine k40 _ ?_
        refine zk ⟨?_⟩
        refine v_cond _ rfl ?_ ?_
        ·intro hc5
         exfalso; simp at hc5
        ·intro hc5
         try simp only [zC, reduceCtorEq] at hc5
         refine v_skip ?_
         refine n35 _ _ (weak_keep [5, 6, 7, 8, 10, 14, 16, 17, 18, 19, 21, 22, 30, 32, 181, 182, 183] _) ?_
         refine zk ⟨?_⟩
         refine v_seq ?_; intro Q42 n42 e42 r42
         refine v_draw (by kernel_rfl) ?_; intro K43 q43 k43
         show aAny _ _ _ _ 6 (Array.replicate 6 false) _
         refine zdMove q43 true 0 211 ?_
         refine zdMove q43 true 1 212 ?_
         refine zdIndexAddr q43 true 2 213 ?_
         refine zdLoadX q43 true 3 214 ?_
         refine zdLoadX q43 true 4 215 ?_
         refine zdBinOp q43 true 5 216 ?_
         refine aAny_done (by kernel_rfl) ?_
         refine k43 _ ?_
         refine n42 _ _ (weak_keep [5, 6, 7, 8, 10, 14, 16, 17, 18, 19, 21, 22, 181, 182, 183, 216] _) ?_
         refine zk ⟨?_⟩
         refine v_cond _ rfl ?_ ?_
         ·intro hc6
          exfalso; simp at hc6
         ·intro hc6
          try simp only [zC, reduceCtorEq] at hc6
          refine v_skip ?_
          refine n32 _ ?_
          refine n31 _ _ (weak_keep [5, 6, 7, 8, 10, 14, 16, 17, 18, 19, 21, 22, 181, 182, 183] _) ?_
          refine zk ⟨?_⟩
          refine v_region ?_; intro K45 k45
          refine zBinOpW ⟨?_⟩
          refine zMove ⟨?_⟩
          refine k45 _ ?_
          refine n27 _ (i + 1) ?_ ?_ ?_
          ·refine weak_bothS [5, 6, 7, 8, 10, 14, 16, 17, 18, 19, 21, 22, 181, 182, 183] [0, 1, 2, 3, 4, 5, 6] ⟨?_⟩
           rfl
          ·exact hlt
          ·show _ < _; omega
       ·intro hc4
        have hxn : ¬ x0 = n := hc4
        have hsw1 : (swR l n off)[i]? = some (x0, x1, x2, x3) := by rw [hsw, if_neg hxn]
        refine v_skip ?_
        refine n35 _ _ (weak_keep [5, 6, 7, 8, 10, 14, 16, 17, 18, 19, 21, 22, 30, 32, 181, 182, 183] _) ?_
        refine zk ⟨?_⟩
        refine v_seq ?_; intro Q46 n46 e46 r46
        refine v_draw (by kernel_rfl) ?_; intro K47 q47 k47
        show aAny _ _ _ _ 6 (Array.replicate 6 false) _
        have F := Fc.mk (And.intro hd2 (And.intro (fun f => getD_map (f := f) hx) (fun f => getD_map (f := f) hsw1)))
        refine zdMove q47 true 0 211 ?_
        refine zdMove q47 true 1 212 ?_
        refine zdIndexAddr q47 true 2 213 ?_
        refine zdLoadX q47 true 3 214 ?_
        refine zdLoadX q47 true 4 215 ?_
        refine zdBinOp q47 true 5 216 ?_
        refine aAny_done (by kernel_rfl) ?_
        refine k47 _ ?_
        refine n46 _ _ (weak_keep [5, 6, 7, 8, 10, 14, 16, 17, 18, 19, 21, 22, 181, 182, 183, 216] _) ?_
        refine zk ⟨?_⟩
        refine v_cond _ rfl ?_ ?_
        ·intro hc7
         exfalso; simp at hc7
        ·intro hc7
         try simp only [zC, reduceCtorEq] at hc7
         refine v_skip ?_
         refine n32 _ ?_
         refine n31 _ _ (weak_keep [5, 6, 7, 8, 10, 14, 16, 17, 18, 19, 21, 22, 181, 182, 183] _) ?_
         refine zk ⟨?_⟩
         refine v_region ?_; intro K49 k49
         refine zBinOpW ⟨?_⟩
         refine zMove ⟨?_⟩
         refine k49 _ ?_
         refine n27 _ (i + 1) ?_ ?_ ?_
         ·refine weak_bothS [5, 6, 7, 8, 10, 14, 16, 17, 18, 19, 21, 22, 181, 182, 183] [0, 1, 2, 3, 4, 5, 6] ⟨?_⟩
          rfl
         ·exact hlt
         ·show _ < _; omega
      ·intro hc3
       have hX1 : (bif off then decide (((ozR (swR l n off)).length : Int) < ((ozR l).length : Int)) else false) = false := by
        cases ho : off with
        |false => rfl
        |true =>
         have q := hoz.2.1 ho
         rw [ho] at q
         show decide _ = false
         exact decide_eq_false (by omega)
       have hX2 : (bif !off then decide (((ozR l).length : Int) < ((ozR (swR l n off)).length : Int)) else false) = false := by
        cases ho : off with
        |true => rfl
        |false =>
         have q := hoz.2.2 ho
         rw [ho] at q
         show decide _ = false
         exact decide_eq_false (by omega)
       refine v_exit ?_
       refine e29 _ _ ?_
       refine e27 _ _ ?_
       refine x26 _ ?_
       refine n24 _ _ (weak_keep [7, 8, 10, 14, 16, 17, 18, 19, 21, 22] _) ?_
       refine zk ⟨?_⟩
       refine v_seqR [7,10,14,16,17,18,19,21,22,35,36] ?_; intro K50 k50
       have F := Fc.mk (And.intro hd2 (And.intro hX1 (And.intro hX2 (And.intro @Bool.not_true @Bool.not_false))))
       refine zMove ⟨?_⟩
       refine zc (implOpenZones_con (swR l n off) (by omega)) ⟨?_⟩
       refine zMove ⟨?_⟩
       refine zExtract ⟨?_⟩
       refine zExtract ⟨?_⟩
       refine zAssign ⟨?_⟩
       refine zAssign ⟨?_⟩
       refine k50 _ ?_
       refine zk ⟨?_⟩
       refine v_seqR [7,14,16,17,18,19,21,22,35,36,37,38] ?_; intro K51 k51
       refine zMove ⟨?_⟩
       refine zc (specOpenZones_con (swR l n off) (by omega)) ⟨?_⟩
       refine zMove ⟨?_⟩
       refine zExtract ⟨?_⟩
       refine zExtract ⟨?_⟩
       refine zAssign ⟨?_⟩
       refine zAssign ⟨?_⟩
       refine k51 _ ?_
       refine zk ⟨?_⟩
       refine v_seqR [16,17,18,19,21,22,260] ?_; intro K52 k52
       refine zMove ⟨?_⟩
       refine zUnOp ⟨?_⟩
       refine zMove ⟨?_⟩
       refine zgMove ⟨?_⟩
       refine zgUnOp ⟨?_⟩
       refine zPick ⟨?_⟩
       refine zMove ⟨?_⟩
       refine zgMove ⟨?_⟩
       refine zgMove ⟨?_⟩
       refine zgc (qInts_con (ozR (swR l n off)) (Nat.le_trans (ozR_len _) (by omega))) ⟨?_⟩
       refine zgUnOp ⟨?_⟩
       refine zPick ⟨?_⟩
       refine zMove ⟨?_⟩
       refine zgMove ⟨?_⟩
       refine zgMove ⟨?_⟩
       refine zgMove ⟨?_⟩
       refine zgLen ⟨?_⟩
       refine zgMove ⟨?_⟩
       refine zgLen ⟨?_⟩
       refine zgBinOp ⟨?_⟩
       refine zgPick ⟨?_⟩
       refine zPick ⟨?_⟩
       refine zMove ⟨?_⟩
       refine zgMove ⟨?_⟩
       refine zgUnOp ⟨?_⟩
       refine zgMove ⟨?_⟩
       refine zgMove ⟨?_⟩
       refine zgLen ⟨?_⟩
       refine zgMove ⟨?_⟩
       refine zgLen ⟨?_⟩
       refine zgBinOp ⟨?_⟩
       refine zgPick ⟨?_⟩
       refine zPick ⟨?_⟩
       refine k52 _ ?_
       refine zk ⟨?_⟩
       refine v_cond _ rfl ?_ ?_
       ·intro hc8
        exfalso; simp at hc8
       ·intro hc8
        try simp only [zC, reduceCtorEq] at hc8
        refine v_skip ?_
        refine n21 () _ ?_ ?_
        ·trivial
        ·refine weak_both [16, 17, 18, 19, 21, 22] [4, 5, 6] (by decide) (by simp) ?_ ?_ ?_
         ·simp [keep_mk, keepE_nil, keepE_cons, look_cons, V.only, V.onlyL, idx] <;> (first | rfl | decide)
         ·simp [Blk.kindIs, fillK_mix]
         simp only [keep_mk, keepE_nil, keepE_cons, look_cons, look_nil, Nat.reduceEqDiff, reduceIte, St.comp, List.map_cons, List.map_nil, V.ren, V.renL, idx, List.getD_cons_zero, List.getD_cons_succ, Nat.reduceBEq, cond_true, cond_false, Option.map_some, Option.getD_some, Nat.reduceAdd, Nat.beq_eq_true_eq]
         all_goals rfl
    ·intro hc2
     refine v_skip ?_
     refine n21 () _ ?_ ?_
     ·trivial
     ·refine weak_both [16, 17, 18, 19, 21, 22] [5, 6, 8] (by decide) (by simp) ?_ ?_ ?_
      ·simp [keep_mk, keepE_nil, keepE_cons, look_cons, V.only, V.onlyL, idx] <;> (first | rfl | decide)
      ·simp [Blk.kindIs, fillK_mix]
      simp only [keep_mk, keepE_nil, keepE_cons, look_cons, look_nil, Nat.reduceEqDiff, reduceIte, St.comp, List.map_cons, List.map_nil, V.ren, V.renL, idx, List.getD_cons_zero, List.getD_cons_succ, Nat.reduceBEq, cond_true, cond_false, Option.map_some, Option.getD_some, Nat.reduceAdd, Nat.beq_eq_true_eq]
      all_goals rfl
   ·rintro u0 hok21
    have _hu : True := hok21
    refine v_seq ?_; intro Q54 n54 e54 r54
    refine v_seqR [16,17,18,19,22,261] ?_; intro K55 k55
    have F := Fc.mk True.intro
    refine zMove ⟨?_⟩
    refine k55 _ ?_
    refine zk ⟨?_⟩
    refine v_condS _ rfl ?_ ?_
    ·intro hc9
     have hnb : noisyB u sg w m = true := hc9
     have hask := (noisy_parts hnb).1
     refine v_seqR [16,19,22,39,40] ?_; intro K57 k57
     refine zMove ⟨?_⟩
     refine zMove ⟨?_⟩
     refine zMove ⟨?_⟩
     refine zc (specFalseSignals_con u sg w (by omega) (by omega)) ⟨?_⟩
     refine zMove ⟨?_⟩
     refine zExtract ⟨?_⟩
     refine zExtract ⟨?_⟩
     refine zAssign ⟨?_⟩
     refine zAssign ⟨?_⟩
     refine k57 _ ?_
     refine zk ⟨?_⟩
     refine v_seq ?_; intro Q58 n58 e58 r58
     refine v_seqR [16,19,22,39,270] ?_; intro K59 k59
     refine zMove ⟨?_⟩
     refine zUnOp ⟨?_⟩
     refine k59 _ ?_
     refine zk ⟨?_⟩
     refine v_cond _ rfl ?_ ?_
     ·intro hc10
      exfalso; simp [hask] at hc10
     ·intro hc10
      try simp only [zC, reduceCtorEq] at hc10
      refine v_skip ?_
      refine n58 _ _ (weak_keep [16, 19, 22, 39] _) ?_
      refine zk ⟨?_⟩
      refine v_seqR [19,22,39,271,272,273] ?_; intro K61 k61
      refine zMove ⟨?_⟩
      refine zLen ⟨?_⟩
      refine zMove ⟨?_⟩
      refine k61 _ ?_
      refine zk ⟨?_⟩
      refine v_block ?_; intro Q62 n62 x62 e62 r62
      refine v_loop (fun k => ⟨[(19, .int .i64 m), (22, .ref 1), (39, .ref 2), (271, .ref 0), (272, .int .i64 u.length), (273, .int .i64 (Nat.cast k))], [.arr (u.map (fun t : Int × Int × Int × Bool => V.agg [V.int .i64 t.1, V.int .i64 t.2.1, V.int .i64 t.2.2.1, V.bool t.2.2.2])) .flat, .arr ((noisyR u sg w m).map (V.int .i64)) .flat, .arr ((falseR u sg w).map (fun t : Int × Int => V.agg [V.int .i64 t.1, V.int .i64 t.2])) .flat], false, 300, 0⟩) (fun k => k ≤ u.length) (fun k => u.length - k) (0 : Nat) ?_ ?_ ?_
      ·refine weak_bothS [19, 22, 39, 271, 272, 273] [0, 2, 3] ⟨?_⟩
       rfl
      ·exact Nat.zero_le _
      ·rintro k hok63 Q63 n63 e63 r63
       have hk1 : k ≤ u.length := hok63
       refine v_seqR [19,22,39,271,272,273,274] ?_; intro K64 k64
       refine zBinOp ⟨?_⟩
       refine k64 _ ?_
       refine zk ⟨?_⟩
       refine v_seq ?_; intro Q65 n65 e65 r65
       refine v_condS _ rfl ?_ ?_
       ·intro hc11
        have hltu : k < u.length := by omega
        obtain ⟨⟨d0, d1, d2, d3⟩, hd⟩ : ∃ x : Int × Int × Int × Bool, u[k]? = some x := ⟨u[k]'(by omega), List.getElem?_eq_getElem (by omega)⟩
        refine v_skip ?_
        refine n65 _ _ (weak_keep [19, 22, 39, 271, 272, 273] _) ?_
        refine zk ⟨?_⟩
        refine v_seq ?_; intro Q67 n67 e67 r67
        refine v_block ?_; intro Q68 n68 x68 e68 r68
        refine v_seqR [19,22,39,42,271,272,273] ?_; intro K69 k69
        have F := Fc.mk (fun f => getD_map (f := f) hd)
        refine zIndexAddr ⟨?_⟩
        refine zLoad ⟨?_⟩
        refine zAlloc ⟨?_⟩
        refine zStore ⟨?_⟩
        refine k69 _ ?_
        refine zk ⟨?_⟩
        refine v_seqR [19,22,39,42,43,271,272,273] ?_; intro K70 k70
        refine zAssign ⟨?_⟩
        refine k70 _ ?_
        refine zk ⟨?_⟩
        refine v_seq ?_; intro Q71 n71 e71 r71
        refine v_seqR [19,22,39,42,43,271,272,273,277,278,279] ?_; intro K72 k72
        refine zMove ⟨?_⟩
        refine zLen ⟨?_⟩
        refine zMove ⟨?_⟩
        refine k72 _ ?_
        refine zk ⟨?_⟩
        refine v_block ?_; intro Q73 n73 x73 e73 r73
        refine v_loop (fun q => ⟨[(19, .int .i64 m), (22, .ref 1), (39, .ref 2), (42, .ptr 3 0 0), (43, .int .i64 (Nat.cast q.2)), (271, .ref 0), (272, .int .i64 u.length), (273, .int .i64 (Nat.cast k)), (277, .ref 2), (278, .int .i64 (falseR u sg w).length), (279, .int .i64 (Nat.cast q.1))], [.arr (u.map (fun t : Int × Int × Int × Bool => V.agg [V.int .i64 t.1, V.int .i64 t.2.1, V.int .i64 t.2.2.1, V.bool t.2.2.2])) .flat, .arr ((noisyR u sg w m).map (V.int .i64)) .flat, .arr ((falseR u sg w).map (fun t : Int × Int => V.agg [V.int .i64 t.1, V.int .i64 t.2])) .flat, .box (.agg [V.int .i64 d0, V.int .i64 d1, V.int .i64 d2, V.bool d3]) .flat], false, 300, 0⟩) (fun q => q.1 ≤ (falseR u sg w).length ∧ q.2 = (((falseR u sg w).take q.1).filter fun x => decide (x.2 = d0)).length) (fun q => (falseR u sg w).length - q.1) ((0, 0) : Nat × Nat) ?_ ?_ ?_
        ·refine weak_bothS [19, 22, 39, 42, 43, 271, 272, 273, 277, 278, 279] [0, 1, 2, 3] ⟨?_⟩
         rfl
        ·exact ⟨Nat.zero_le _, rfl⟩
        ·rintro ⟨j, c⟩ hok74 Q74 n74 e74 r74
         obtain ⟨hj1, hC⟩ := hok74
         simp only [] at hj1 hC ⊢
         have hcj : c ≤ j := by rw [hC]; exact Nat.le_trans (List.length_filter_le ..) (List.length_take_le ..)
         refine v_seqR [19,22,39,42,43,271,272,273,277,278,279,280] ?_; intro K75 k75
         refine zBinOp ⟨?_⟩
         refine k75 _ ?_
         refine zk ⟨?_⟩
         refine v_seq ?_; intro Q76 n76 e76 r76
         refine v_condS _ rfl ?_ ?_
         ·intro hc12
          have hltj : j < (falseR u sg w).length := by omega
          obtain ⟨⟨y0, y1⟩, hy⟩ : ∃ x : Int × Int, (falseR u sg w)[j]? = some x := ⟨(falseR u sg w)[j]'(by omega), List.getElem?_eq_getElem (by omega)⟩
          have hct := filter_step (p := fun x : (Int × Int) => decide (x.2 = d0)) hy
          refine v_skip ?_
          refine n76 _ _ (weak_keep [19, 22, 39, 42, 43, 271, 272, 273, 277, 278, 279] _) ?_
          refine zk ⟨?_⟩
          refine v_seq ?_; intro Q78 n78 e78 r78
          refine v_block ?_; intro Q79 n79 x79 e79 r79
          refine v_seqR [19,22,39,42,43,45,271,272,273,277,278,279] ?_; intro K80 k80
          have F := Fc.mk (And.intro (fun f => getD_map (f := f) hd) (fun f => getD_map (f := f) hy))
          refine zIndexAddr ⟨?_⟩
          refine zLoad ⟨?_⟩
          refine zAlloc ⟨?_⟩
          refine zStore ⟨?_⟩
          refine k80 _ ?_
          refine zk ⟨?_⟩
          refine v_seqR [19,22,39,42,43,271,272,273,277,278,279,287] ?_; intro K81 k81
          refine zFieldAddr ⟨?_⟩
          refine zLoad ⟨?_⟩
          refine zFieldAddr ⟨?_⟩
          refine zLoad ⟨?_⟩
          refine zBinOp ⟨?_⟩
          refine k81 _ ?_
          refine zk ⟨?_⟩
          refine v_condS _ rfl ?_ ?_
          ·intro hc13
           refine v_region ?_; intro K83 k83
           refine zMove ⟨?_⟩
           refine zBinOpW ⟨?_⟩
           refine zAssign ⟨?_⟩
           refine k83 _ ?_
           refine n79 _ ?_
           refine n78 _ _ (weak_keep [19, 22, 39, 42, 43, 271, 272, 273, 277, 278, 279] _) ?_
           refine zk ⟨?_⟩
           refine v_region ?_; intro K84 k84
           refine zBinOpW ⟨?_⟩
           refine zMove ⟨?_⟩
           refine k84 _ ?_
           refine n74 _ (j + 1, c + 1) ?_ ?_ ?_
           ·refine weak_bothS [19, 22, 39, 42, 43, 271, 272, 273, 277, 278, 279] [0, 1, 2, 3] ⟨?_⟩
            rfl
           ·exact ⟨hltj, by show c + 1 = _; rw [hct, List.length_append, ← hC, if_pos (decide_eq_true hc13)]; rfl⟩
           ·show _ < _; show (falseR u sg w).length - (j + 1) < (falseR u sg w).length - j; omega
          ·intro hc13
           refine v_skip ?_
           refine n79 _ ?_
           refine n78 _ _ (weak_keep [19, 22, 39, 42, 43, 271, 272, 273, 277, 278, 279] _) ?_
           refine zk ⟨?_⟩
           refine v_region ?_; intro K85 k85
           refine zBinOpW ⟨?_⟩
           refine zMove ⟨?_⟩
           refine k85 _ ?_
           refine n74 _ (j + 1, c) ?_ ?_ ?_
           ·refine weak_bothS [19, 22, 39, 42, 43, 271, 272, 273, 277, 278, 279] [0, 1, 2, 3] ⟨?_⟩
            rfl
           ·exact ⟨hltj, by show c = _; rw [hct, List.length_append, ← hC, if_neg (by simpa using hc13)]; rfl⟩
           ·show _ < _; show (falseR u sg w).length - (j + 1) < (falseR u sg w).length - j; omega
         ·intro hc12
          have hcn : c = ((falseR u sg w).filter fun x => decide (x.2 = d0)).length := by rw [hC, List.take_of_length_le (by omega)]
          have hnh := noisy_has hnb (List.mem_of_getElem? hd)
          dsimp only at hnh
          refine v_exit ?_
          refine e76 _ _ ?_
          refine e74 _ _ ?_
          refine x73 _ ?_
          refine n71 _ _ (weak_keep [19, 22, 39, 42, 43, 271, 272, 273] _) ?_
          refine zk ⟨?_⟩
          refine v_seqR [19,22,39,271,272,273,298] ?_; intro K86 k86
          refine zMove ⟨?_⟩
          refine zFieldAddr ⟨?_⟩
          refine zLoad ⟨?_⟩
          refine zc (qHas_con (noisyR u sg w m) d0 (by omega)) ⟨?_⟩
          refine zMove ⟨?_⟩
          refine zMove ⟨?_⟩
          refine zBinOp ⟨?_⟩
          refine zBinOp ⟨?_⟩
          refine k86 _ ?_
          refine zk ⟨?_⟩
          refine v_cond _ rfl ?_ ?_
          ·intro hc14
           exfalso; revert hc14
           rw [hcn]
           by_cases q : d0 ∈ noisyR u sg w m
           ·have h2 := hnh.1 q; simp [q, h2]
           ·have h2 := mt hnh.2 q; simp [q]; omega
          ·intro hc14
           try simp only [zC, reduceCtorEq] at hc14
           refine v_skip ?_
           refine n68 _ ?_
           refine n67 _ _ (weak_keep [19, 22, 39, 271, 272, 273] _) ?_
           refine zk ⟨?_⟩
           refine v_region ?_; intro K88 k88
           refine zBinOpW ⟨?_⟩
           refine zMove ⟨?_⟩
           refine k88 _ ?_
           refine n63 _ (k + 1) ?_ ?_ ?_
           ·refine weak_bothS [19, 22, 39, 271, 272, 273] [0, 1, 2] ⟨?_⟩
            rfl
           ·exact hltu
           ·show _ < _; omega
       ·intro hc11
        refine v_exit ?_
        refine e65 _ _ ?_
        refine e63 _ _ ?_
        refine x62 _ ?_
        refine n54 _ _ (weak_keep [] _) ?_
        refine zk ⟨?_⟩
        refine v_seqR [4] ?_; intro K89 k89
        refine zAssign ⟨?_⟩
        refine k89 _ ?_
        refine zk ⟨?_⟩
        refine v_ret ?_
        refine r0 _ ?_
        refine zf ⟨?_⟩
        exact ret_pure rfl rfl (.inl rfl)
    ·intro hc9
     refine v_skip ?_
     refine n54 _ _ (weak_keep [] _) ?_
     refine zk ⟨?_⟩
     refine v_seqR [4] ?_; intro K90 k90
     refine zAssign ⟨?_⟩
     refine k90 _ ?_
     refine zk ⟨?_⟩
     refine v_ret ?_
     refine r0 _ ?_
     refine zf ⟨?_⟩
     exact ret_pure rfl rfl (.inl rfl)
end Go.Proofs.YtmlicajgbgjphaaDoor
