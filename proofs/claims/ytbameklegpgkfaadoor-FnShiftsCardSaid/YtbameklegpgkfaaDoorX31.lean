/- What functions compute. No condition. -/
import Derived.Test.YtbameklegpgkfaaDoorUty
import Derived.Test.YtbameklegpgkfaaDoorUmG
import Derived.Test.YtbameklegpgkfaaDoorX30
import Derived.Test.YtbameklegpgkfaaDoorX27
import Derived.Test.YtbameklegpgkfaaDoorX19
import Derived.Test.YtbameklegpgkfaaDoorX29
import Derived.Test.YtbameklegpgkfaaDoorX6
import Derived.Test.YtbameklegpgkfaaDoorX4
import Derived.Test.YtbameklegpgkfaaDoorX23
import Derived.Test.YtbameklegpgkfaaDoorX28
import Derived.Test.YtbameklegpgkfaaDoorX26
set_option linter.unusedSimpArgs false
set_option linter.unusedVariables false
set_option linter.defProp false
namespace Go.Proofs.YtbameklegpgkfaaDoor
open Go Go.Vm

set_option maxRecDepth 8000 in
set_option maxHeartbeats 6000000 in
theorem lawFnShifts_con (c1 c2 : List Int) (hc1 : ∀ x ∈ c1, 0 ≤ x ∧ x ≤ 255) (hc2 : ∀ x ∈ c2, 0 ≤ x ∧ x ≤ 255) (hn1 : c1.length ≤ 9223372036854775807) (hn2 : c2.length ≤ 9223372036854775807) : Con Tryd.prog 3 [.sl (c1.map (V.int .u8)), .sl (c2.map (V.int .u8))] [] (.bool true) [] := by
 refine v_con [.tmp 4] [] Tryd.func3 rfl rfl rfl (by simp [Tryd.ntmps3]) ?_
 intro Q0 n0 r0
 simp only [Tryd.ntmps3, envFrom, Nat.reduceAdd]
 have T := Tys.mk (And.intro Ty.t3 (And.intro Ty.t4 (And.intro Ty.t5 (And.intro Ty.t9 (And.intro Ty.t22 (And.intro Ty.t23 (And.intro Ty.t25 Ty.t36)))))))
 have F := Fc.mk True.intro
 refine v_seqR [0,1] ?_; intro K1 k1
 refine zAssign ⟨?_⟩
 refine k1 _ ?_
 refine zk ⟨?_⟩
 refine v_seq ?_; intro Q2 n2 e2 r2
 refine v_seqR [0,1,60] ?_; intro K3 k3
 refine zMove ⟨?_⟩
 refine zLen ⟨?_⟩
 refine zMove ⟨?_⟩
 refine zLen ⟨?_⟩
 refine zBinOpW ⟨?_⟩
 refine zBinOp ⟨?_⟩
 refine k3 _ ?_
 refine zk ⟨?_⟩
 refine v_condS _ rfl ?_ ?_
 ·intro hc0
  refine v_seqR [4] ?_; intro K5 k5
  refine zAssign ⟨?_⟩
  refine k5 _ ?_
  refine zk ⟨?_⟩
  refine v_ret ?_
  refine r2 _ ?_
  refine r0 _ ?_
  refine zf ⟨?_⟩
  exact ret_pure rfl rfl (by first | exact .inl rfl | exact .inr rfl)
 ·intro hc0
  refine v_skip ?_
  refine n2 _ _ (weak_keep [0, 1] _) ?_
  refine zk ⟨?_⟩
  refine v_seqR [1,5,6,7,8,9,10] ?_; intro K6 k6
  refine zMove ⟨?_⟩
  refine v_op ?_; intro K k
  simp only [zE, zM, aStepM, optable, set_some, Nat.reduceEqDiff, reduceIte, Nat.reduceLT, implies_true, forall_const, reduceCtorEq, V.ofValue, V.ofScalar, V.un, V.gd, aExec, lentIds, lendOf, ‹Tys _›.h, ‹Fc _›.h]
  repeat (refine andC ?_)
  refine aCall_newXA (drawExchangeShifts_con c1 hc1 hn1) ?_
  rintro _ _ ⟨l, p, m, rr, ea, eb, ei, ek, ⟨⟨hql, hqx⟩, hqp, hqm, hqr⟩, rfl, rfl⟩
  refine ⟨by first | exact .inl ⟨rfl, by simp [Blk.kindIs, fillK_fd]⟩ | exact .inr (by simp [V.coldIn, V.cold, idx]), ?_⟩
  refine k _ ?_; clear k K
  simp only [zY, zW, set_some, Nat.reduceEqDiff, reduceIte, rho_one, rho_s, V.ren, V.renL, List.set_cons_zero, List.set_cons_succ, rho, Nat.reduceAdd, Nat.add_zero]
  have hxf := exT_facts (n := 22) (d := l) (a := p) (b := m) (c := rr) (sa := ea) (sb := eb) (x := ei) (y := ek) hql (fun s h => Nat.le_trans (hqx s h) (by omega))
  have h3b : (dutyB p m rr && rosterB l p && !(dutyB p m rr && rosterB l p && !(breachR l p m rr).isSome)) = (breachR l p m rr).isSome := by
   have hbg := breach_duty (d := l) (a := p) (b := m) (c := rr)
   revert hbg
   generalize (breachR l p m rr).isSome = z1
   generalize dutyB p m rr = z2
   generalize rosterB l p = z3
   cases z1 <;> cases z2 <;> cases z3 <;> simp
  have F := Fc.mk (And.intro nbeq (And.intro h3b (And.intro @decide_true (And.intro @Bool.not_true (And.intro @Bool.or_false (And.intro @Bool.false_or @Bool.not_false))))))
  refine zMove ⟨?_⟩
  refine zExtract ⟨?_⟩
  refine zExtract ⟨?_⟩
  refine zExtract ⟨?_⟩
  refine zExtract ⟨?_⟩
  refine zExtract ⟨?_⟩
  refine zExtract ⟨?_⟩
  refine zAlloc ⟨?_⟩
  refine zAssign ⟨?_⟩
  refine zStore ⟨?_⟩
  refine zAssign ⟨?_⟩
  refine zAssign ⟨?_⟩
  refine zAssign ⟨?_⟩
  refine zAssign ⟨?_⟩
  refine k6 _ ?_
  refine zk ⟨?_⟩
  refine v_seqR [1,5,6,7,8,9,10,11,12] ?_; intro K7 k7
  refine zMove ⟨?_⟩
  refine zLoad ⟨?_⟩
  refine zMove ⟨?_⟩
  refine zMove ⟨?_⟩
  refine zMove ⟨?_⟩
  refine zMove ⟨?_⟩
  refine zc (implExch_con l p m rr ea eb ei ek (by omega) (fun s h => Nat.le_trans (hqx s h) (by omega))) ⟨?_⟩
  refine zMove ⟨?_⟩
  refine zExtract ⟨?_⟩
  refine zExtract ⟨?_⟩
  refine zAssign ⟨?_⟩
  refine zAssign ⟨?_⟩
  refine k7 _ ?_
  refine zk ⟨?_⟩
  refine v_seqR [1,5,6,7,8,9,10,11,12,13,14] ?_; intro K8 k8
  refine zMove ⟨?_⟩
  refine zLoad ⟨?_⟩
  refine zMove ⟨?_⟩
  refine zMove ⟨?_⟩
  refine zMove ⟨?_⟩
  refine zMove ⟨?_⟩
  refine zc (specExch_con l p m rr ea eb ei ek (by omega) (fun s h => Nat.le_trans (hqx s h) (by omega))) ⟨?_⟩
  refine zMove ⟨?_⟩
  refine zExtract ⟨?_⟩
  refine zExtract ⟨?_⟩
  refine zAssign ⟨?_⟩
  refine zAssign ⟨?_⟩
  refine k8 _ ?_
  refine zk ⟨?_⟩
  refine v_seqR [1,5,6,7,8,9,10,11,12,13,14,15,16] ?_; intro K9 k9
  refine zMove ⟨?_⟩
  refine zLoad ⟨?_⟩
  refine zc (implKeepsRules_con l p m rr (by omega) (fun s h => Nat.le_trans (hqx s h) (by omega))) ⟨?_⟩
  refine zMove ⟨?_⟩
  refine zExtract ⟨?_⟩
  refine zExtract ⟨?_⟩
  refine zAssign ⟨?_⟩
  refine zAssign ⟨?_⟩
  refine k9 _ ?_
  refine zk ⟨?_⟩
  refine v_seqR [1,5,6,7,8,9,10,11,12,13,14,15,16,17,18] ?_; intro K10 k10
  refine zMove ⟨?_⟩
  refine zLoad ⟨?_⟩
  refine zc (specKeepsRules_con l p m rr (by omega) (fun s h => Nat.le_trans (hqx s h) (by omega))) ⟨?_⟩
  refine zMove ⟨?_⟩
  refine zExtract ⟨?_⟩
  refine zExtract ⟨?_⟩
  refine zAssign ⟨?_⟩
  refine zAssign ⟨?_⟩
  refine k10 _ ?_
  refine zk ⟨?_⟩
  refine v_seqR [1,5,6,7,8,9,10,11,12,13,14,15,16,17,18,19,20,21] ?_; intro K11 k11
  refine zMove ⟨?_⟩
  refine zLoad ⟨?_⟩
  refine zc (implFirstBreach_con l p m rr (by omega) (fun s h => Nat.le_trans (hqx s h) (by omega))) ⟨?_⟩
  refine zMove ⟨?_⟩
  refine zExtract ⟨?_⟩
  refine zExtract ⟨?_⟩
  refine zExtract ⟨?_⟩
  refine zAssign ⟨?_⟩
  refine zAssign ⟨?_⟩
  refine zAssign ⟨?_⟩
  refine k11 _ ?_
  refine zk ⟨?_⟩
  refine v_seqR [1,5,6,7,8,9,10,11,12,13,14,15,16,17,18,19,20,21,22,23,24] ?_; intro K12 k12
  refine zMove ⟨?_⟩
  refine zLoad ⟨?_⟩
  refine zc (specFirstBreach_con l p m rr (by omega) (fun s h => Nat.le_trans (hqx s h) (by omega))) ⟨?_⟩
  refine zMove ⟨?_⟩
  refine zExtract ⟨?_⟩
  refine zExtract ⟨?_⟩
  refine zExtract ⟨?_⟩
  refine zAssign ⟨?_⟩
  refine zAssign ⟨?_⟩
  refine zAssign ⟨?_⟩
  refine k12 _ ?_
  refine zk ⟨?_⟩
  refine v_seqR [5,6,7,8,9,10,11,12,13,14,15,16,17,18,19,20,21,22,23,24,25,26] ?_; intro K13 k13
  refine zMove ⟨?_⟩
  refine v_op ?_; intro K k
  simp only [zE, zM, aStepM, optable, set_some, Nat.reduceEqDiff, reduceIte, Nat.reduceLT, implies_true, forall_const, reduceCtorEq, V.ofValue, V.ofScalar, V.un, V.gd, aExec, lentIds, lendOf, ‹Tys _›.h, ‹Fc _›.h]
  repeat (refine andC ?_)
  refine aCall_newXA (drawShiftsOf_con c2 hc2 hn2) ?_
  rintro _ _ ⟨u, kk2, n, ⟨hul, hux, hun⟩, rfl, rfl⟩
  refine ⟨by first | exact .inl ⟨rfl, by simp [Blk.kindIs, fillK_fd]⟩ | exact .inr (by simp [V.coldIn, V.cold, idx]), ?_⟩
  refine k _ ?_; clear k K
  simp only [zY, zW, set_some, Nat.reduceEqDiff, reduceIte, rho_one, rho_s, V.ren, V.renL, List.set_cons_zero, List.set_cons_succ, rho, Nat.reduceAdd, Nat.add_zero]
  have hsl := shiftsR_len u n
  refine zMove ⟨?_⟩
  refine zExtract ⟨?_⟩
  refine zExtract ⟨?_⟩
  refine zAssign ⟨?_⟩
  refine zAssign ⟨?_⟩
  refine k13 _ ?_
  refine zk ⟨?_⟩
  refine v_seqR [5,6,7,8,9,10,11,12,13,14,15,16,17,18,19,20,21,22,23,24,25,26,27,28] ?_; intro K14 k14
  refine zMove ⟨?_⟩
  refine zMove ⟨?_⟩
  refine zc ((implShiftsOf_con u n (by omega) (fun s h => Nat.le_trans (hux s h) (by omega)) : Con _ _ _ _ _ [.arr ((shiftsR u n).map (V.int .i64)) .flat])) ⟨?_⟩
  refine zMove ⟨?_⟩
  refine zExtract ⟨?_⟩
  refine zExtract ⟨?_⟩
  refine zAssign ⟨?_⟩
  refine zAssign ⟨?_⟩
  refine k14 _ ?_
  refine zk ⟨?_⟩
  refine v_seqR [5,6,7,8,9,10,11,12,13,14,15,16,17,18,19,20,21,22,23,24,25,26,27,28,29,30] ?_; intro K15 k15
  refine zMove ⟨?_⟩
  refine zMove ⟨?_⟩
  refine zc ((specShiftsOf_con u n (by omega) (fun s h => Nat.le_trans (hux s h) (by omega)) : Con _ _ _ _ _ [.arr ((shiftsR u n).map (V.int .i64)) .flat])) ⟨?_⟩
  refine zMove ⟨?_⟩
  refine zExtract ⟨?_⟩
  refine zExtract ⟨?_⟩
  refine zAssign ⟨?_⟩
  refine zAssign ⟨?_⟩
  refine k15 _ ?_
  refine zk ⟨?_⟩
  refine v_seqR [5,6,7,8,9,10,11,12,13,14,15,16,17,18,19,20,21,22,23,24,25,26,27,28,29,30,31,32] ?_; intro K16 k16
  refine zMove ⟨?_⟩
  refine zMove ⟨?_⟩
  refine zc (implSpread_con u n (by omega) (fun s h => Nat.le_trans (hux s h) (by omega))) ⟨?_⟩
  refine zMove ⟨?_⟩
  refine zExtract ⟨?_⟩
  refine zExtract ⟨?_⟩
  refine zAssign ⟨?_⟩
  refine zAssign ⟨?_⟩
  refine k16 _ ?_
  refine zk ⟨?_⟩
  refine v_seqR [5,6,7,8,9,10,11,12,13,14,15,16,17,18,19,20,21,22,23,24,25,26,27,28,29,30,31,32,33,34] ?_; intro K17 k17
  refine zMove ⟨?_⟩
  refine zMove ⟨?_⟩
  refine zc (specSpread_con u n (by omega) (fun s h => Nat.le_trans (hux s h) (by omega))) ⟨?_⟩
  refine zMove ⟨?_⟩
  refine zExtract ⟨?_⟩
  refine zExtract ⟨?_⟩
  refine zAssign ⟨?_⟩
  refine zAssign ⟨?_⟩
  refine k17 _ ?_
  refine zk ⟨?_⟩
  refine v_seqR [5,6,7,8,9,10,11,12,13,14,15,16,17,18,19,20,21,22,23,24,25,26,27,28,29,30,31,32,33,34,35,36] ?_; intro K18 k18
  refine zMove ⟨?_⟩
  refine zMove ⟨?_⟩
  refine zc (implRosterText_con u n (by omega) (fun s h => Nat.le_trans (hux s h) (by omega))) ⟨?_⟩
  refine zMove ⟨?_⟩
  refine zExtract ⟨?_⟩
  refine zExtract ⟨?_⟩
  refine zAssign ⟨?_⟩
  refine zAssign ⟨?_⟩
  refine k18 _ ?_
  refine zk ⟨?_⟩
  refine v_seqR [5,6,7,8,9,10,11,12,13,14,15,16,17,18,19,20,21,22,23,24,25,26,27,28,29,30,31,32,33,34,35,36,37,38] ?_; intro K19 k19
  refine zMove ⟨?_⟩
  refine zMove ⟨?_⟩
  refine zc (specRosterText_con u n (by omega) (fun s h => Nat.le_trans (hux s h) (by omega))) ⟨?_⟩
  refine zMove ⟨?_⟩
  refine zExtract ⟨?_⟩
  refine zExtract ⟨?_⟩
  refine zAssign ⟨?_⟩
  refine zAssign ⟨?_⟩
  refine k19 _ ?_
  refine zk ⟨?_⟩
  refine v_seq ?_; intro Q20 n20 e20 r20
  refine v_seqR [5,6,7,8,9,10,11,12,17,21,22,23,25,28,29,33,37,247] ?_; intro K21 k21
  refine zMove ⟨?_⟩
  refine zMove ⟨?_⟩
  refine zBinOp ⟨?_⟩
  refine zMove ⟨?_⟩
  refine zgMove ⟨?_⟩
  refine zgMove ⟨?_⟩
  refine zgc (qLists_con (orNil (exOK l p m rr ea eb ei ek) (exL l ea eb ei ek)) (by omega) (fun s h => Nat.le_trans (hxf.2 s h) (by omega))) ⟨?_⟩
  refine zgUnOp ⟨?_⟩
  refine zPick ⟨?_⟩
  refine zMove ⟨?_⟩
  refine zgMove ⟨?_⟩
  refine zgMove ⟨?_⟩
  refine zgBinOp ⟨?_⟩
  refine zPick ⟨?_⟩
  refine zMove ⟨?_⟩
  refine zgMove ⟨?_⟩
  refine zgMove ⟨?_⟩
  refine zgBinOp ⟨?_⟩
  refine zPick ⟨?_⟩
  refine zMove ⟨?_⟩
  refine zgMove ⟨?_⟩
  refine zgMove ⟨?_⟩
  refine zgBinOp ⟨?_⟩
  refine zPick ⟨?_⟩
  refine zMove ⟨?_⟩
  refine zgMove ⟨?_⟩
  refine zgMove ⟨?_⟩
  refine zgBinOp ⟨?_⟩
  refine zPick ⟨?_⟩
  refine zMove ⟨?_⟩
  refine zgMove ⟨?_⟩
  refine zgMove ⟨?_⟩
  refine zgBinOp ⟨?_⟩
  refine zPick ⟨?_⟩
  refine zMove ⟨?_⟩
  refine zgMove ⟨?_⟩
  refine zgMove ⟨?_⟩
  refine zgBinOp ⟨?_⟩
  refine zPick ⟨?_⟩
  refine zMove ⟨?_⟩
  refine zgMove ⟨?_⟩
  refine zgMove ⟨?_⟩
  refine zgc (qInts_con (shiftsR u n) hsl) ⟨?_⟩
  refine zgUnOp ⟨?_⟩
  refine zPick ⟨?_⟩
  refine zMove ⟨?_⟩
  refine zgMove ⟨?_⟩
  refine zgMove ⟨?_⟩
  refine zgBinOp ⟨?_⟩
  refine zPick ⟨?_⟩
  refine zMove ⟨?_⟩
  refine zgMove ⟨?_⟩
  refine zgMove ⟨?_⟩
  refine zgBinOp ⟨?_⟩
  refine zPick ⟨?_⟩
  refine zMove ⟨?_⟩
  refine zgMove ⟨?_⟩
  refine zgMove ⟨?_⟩
  refine zgBinOp ⟨?_⟩
  refine zPick ⟨?_⟩
  refine zMove ⟨?_⟩
  refine zgMove ⟨?_⟩
  refine zgMove ⟨?_⟩
  refine zgBinOp ⟨?_⟩
  refine zPick ⟨?_⟩
  refine zMove ⟨?_⟩
  refine zgMove ⟨?_⟩
  refine zgMove ⟨?_⟩
  refine zgMove ⟨?_⟩
  refine zgMove ⟨?_⟩
  refine zgUnOp ⟨?_⟩
  refine zgPick ⟨?_⟩
  refine zgBinOp ⟨?_⟩
  refine zPick ⟨?_⟩
  refine zMove ⟨?_⟩
  refine zgMove ⟨?_⟩
  refine zgMove ⟨?_⟩
  refine zgMove ⟨?_⟩
  refine zgc (implIsRoster_con u n (by omega) (fun s h => Nat.le_trans (hux s h) (by omega))) ⟨?_⟩
  refine zgBinOp ⟨?_⟩
  refine zPick ⟨?_⟩
  refine zMove ⟨?_⟩
  refine zgMove ⟨?_⟩
  refine zgMove ⟨?_⟩
  refine zgBinOp ⟨?_⟩
  refine zPick ⟨?_⟩
  refine zMove ⟨?_⟩
  refine zgMove ⟨?_⟩
  refine zgMove ⟨?_⟩
  refine zgBinOp ⟨?_⟩
  refine zPick ⟨?_⟩
  refine k21 _ ?_
  refine zk ⟨?_⟩
  refine v_cond _ rfl ?_ ?_
  ·intro hc1
   exfalso; have hbg := breach_duty (d := l) (a := p) (b := m) (c := rr)
   revert hc1 hbg
   generalize (breachR l p m rr).isSome = z1
   generalize dutyB p m rr = z2
   generalize rosterB l p = z3
   cases z1 <;> cases z2 <;> cases z3 <;> simp
  ·intro hc1
   try simp only [zC, reduceCtorEq] at hc1
   refine v_skip ?_
   refine n20 _ _ (weak_keep [5, 6, 7, 8, 9, 10, 11, 12, 17, 21, 22, 23, 25, 28, 29, 33, 37] _) ?_
   refine zk ⟨?_⟩
   refine v_join (A := Unit) (fun u0 => ⟨[(5, .sl (l.map (fun l : List Int => V.sl (l.map (V.int .i64))))), (21, .bool (breachR l p m rr).isSome), (22, .int .i64 (brI (breachR l p m rr))), (23, .int .i64 (brX (breachR l p m rr))), (25, .ref 0), (28, .bool (rosterB u n)), (29, .ref 1), (33, .int .i64 (if rosterB u n then spreadV u n else 0)), (37, .str (rTextR u n))], [.arr (u.map (fun l : List Int => V.sl (l.map (V.int .i64)))) (fillK kk2), .arr ((shiftsR u n).map (V.int .i64)) .flat], true, 383, 0⟩) (fun u0 => True) ?_ ?_
   ·intro Q23 n23 e23 r23
    refine v_seq ?_; intro Q24 n24 e24 r24
    refine v_region ?_; intro K25 k25
    refine zMove ⟨?_⟩
    refine k25 _ ?_
    apply n24
    ·apply weak_trans (weak_keep [5, 6, 7, 8, 9, 10, 11, 17, 21, 22, 23, 25, 28, 29, 33, 37, 248] _)
     simp only [keep_mk, keepE_nil, keepE_cons, look_cons, look_nil, Nat.reduceEqDiff, reduceIte]
     exact weak_view
    try simp only [atSlot_cons, atSlot_nil, Nat.reduceEqDiff, reduceIte, List.set_cons_zero, List.set_cons_succ]
    refine v_condS _ rfl ?_ ?_
    ·intro hc2
     have hok : (exOK l p m rr ea eb ei ek) = true := hc2
     have hke := ex_keeps hok
     have hxl : (orNil (exOK l p m rr ea eb ei ek) (exL l ea eb ei ek)) = exL l ea eb ei ek := by rw [hok]; rfl
     have hk1 : rosterB (orNil (exOK l p m rr ea eb ei ek) (exL l ea eb ei ek)) p = true := by rw [hxl]; exact hke.2.2.1
     have hk2 : breachR (orNil (exOK l p m rr ea eb ei ek) (exL l ea eb ei ek)) p m rr = none := by rw [hxl]; exact hke.2.2.2
     have hk3 := hke.1
     have hk4 := hke.2.1
     have hk5 : shiftsOf (orNil (exOK l p m rr ea eb ei ek) (exL l ea eb ei ek)) p = shiftsOf l p := by rw [hxl]; exact ex_shifts hok hql hqx
     have hk6 : (shiftsOf l p).length ≤ 1048576 := by rw [shiftsOf_len]; omega
     refine v_seqR [5,6,7,8,9,10,11,17,21,22,23,25,28,29,33,37,39,40] ?_; intro K27 k27
     have F := Fc.mk (And.intro nbeq (And.intro h3b (And.intro @decide_true (And.intro @Bool.not_true (And.intro @Bool.or_false (And.intro @Bool.false_or (And.intro @Bool.not_false (And.intro hk1 (And.intro hk2 (And.intro hk3 (And.intro hk4 (And.intro @Option.isSome_none.{0} (And.intro @Bool.not_false (And.intro @Bool.not_true @Bool.true_and))))))))))))))
     refine zMove ⟨?_⟩
     refine zLoad ⟨?_⟩
     refine zc (implKeepsRules_con (orNil (exOK l p m rr ea eb ei ek) (exL l ea eb ei ek)) p m rr (by omega) (fun s h => Nat.le_trans (hxf.2 s h) (by omega))) ⟨?_⟩
     refine zMove ⟨?_⟩
     refine zExtract ⟨?_⟩
     refine zExtract ⟨?_⟩
     refine zAssign ⟨?_⟩
     refine zAssign ⟨?_⟩
     refine k27 _ ?_
     refine zk ⟨?_⟩
     refine v_seqR [5,6,7,8,9,10,11,17,21,22,23,25,28,29,33,37,39,40,41,42] ?_; intro K28 k28
     refine zMove ⟨?_⟩
     refine zFieldAddr ⟨?_⟩
     refine zLoad ⟨?_⟩
     refine zc ((by have q := specShiftsOf_con l p (by omega) (fun s h => Nat.le_trans (hqx s h) (by omega)); rw [if_pos hk4] at q; exact q)) ⟨?_⟩
     refine zMove ⟨?_⟩
     refine zExtract ⟨?_⟩
     refine zExtract ⟨?_⟩
     refine zAssign ⟨?_⟩
     refine zAssign ⟨?_⟩
     refine k28 _ ?_
     refine zk ⟨?_⟩
     refine v_seqR [5,6,7,8,9,10,11,17,21,22,23,25,28,29,33,37,39,40,41,42,43,44] ?_; intro K29 k29
     refine zMove ⟨?_⟩
     refine zFieldAddr ⟨?_⟩
     refine zLoad ⟨?_⟩
     refine zc ((by have q := implShiftsOf_con (orNil (exOK l p m rr ea eb ei ek) (exL l ea eb ei ek)) p (by omega) (fun s h => Nat.le_trans (hxf.2 s h) (by omega)); rw [if_pos hk1, hk5] at q; exact q)) ⟨?_⟩
     refine zMove ⟨?_⟩
     refine zExtract ⟨?_⟩
     refine zExtract ⟨?_⟩
     refine zAssign ⟨?_⟩
     refine zAssign ⟨?_⟩
     refine k29 _ ?_
     refine zk ⟨?_⟩
     refine v_seq ?_; intro Q30 n30 e30 r30
     refine v_seqR [5,6,7,8,9,10,11,17,21,22,23,25,28,29,33,37,288] ?_; intro K31 k31
     refine zMove ⟨?_⟩
     refine zUnOp ⟨?_⟩
     refine zMove ⟨?_⟩
     refine zgMove ⟨?_⟩
     refine zgUnOp ⟨?_⟩
     refine zPick ⟨?_⟩
     refine zMove ⟨?_⟩
     refine zgMove ⟨?_⟩
     refine zgUnOp ⟨?_⟩
     refine zPick ⟨?_⟩
     refine zMove ⟨?_⟩
     refine zgMove ⟨?_⟩
     refine zgUnOp ⟨?_⟩
     refine zPick ⟨?_⟩
     refine zMove ⟨?_⟩
     refine zgMove ⟨?_⟩
     refine zgMove ⟨?_⟩
     refine zgc (qInts_con (shiftsOf l p) hk6) ⟨?_⟩
     refine zgUnOp ⟨?_⟩
     refine zPick ⟨?_⟩
     refine k31 _ ?_
     refine zk ⟨?_⟩
     refine v_cond _ rfl ?_ ?_
     ·intro hc3
      exfalso; first | (simp at hc3; done) | (simp [hk1, hk2, hk3, hk4] at hc3; done)
     ·intro hc3
      try simp only [zC, reduceCtorEq] at hc3
      refine v_skip ?_
      refine n30 _ _ (weak_keep [5, 6, 7, 8, 9, 10, 11, 17, 21, 22, 23, 25, 28, 29, 33, 37] _) ?_
      refine zk ⟨?_⟩
      refine v_seqR [5,6,7,8,9,10,11,21,22,23,25,28,29,33,37,289] ?_; intro K33 k33
      refine zMove ⟨?_⟩
      refine k33 _ ?_
      refine zk ⟨?_⟩
      refine v_condS _ rfl ?_ ?_
      ·intro hc4
       have hkn : (breachR l p m rr) = none := by
        cases q : (breachR l p m rr) with
        |none => rfl
        |some z => (exfalso; simp [q] at hc4)
       have hbk := ex_back hok hkn
       have hb1 : exOK (orNil (exOK l p m rr ea eb ei ek) (exL l ea eb ei ek)) p m rr ea eb ek ei = true := by rw [hxl]; exact hbk.1
       have hb2 : exL (orNil (exOK l p m rr ea eb ei ek) (exL l ea eb ei ek)) ea eb ek ei = l := by rw [hxl]; exact hbk.2
       refine v_seqR [5,21,22,23,25,28,29,33,37,45,46] ?_; intro K35 k35
       refine zMove ⟨?_⟩
       refine zLoad ⟨?_⟩
       refine zMove ⟨?_⟩
       refine zMove ⟨?_⟩
       refine zMove ⟨?_⟩
       refine zMove ⟨?_⟩
       refine zc ((by have q := implExch_con (orNil (exOK l p m rr ea eb ei ek) (exL l ea eb ei ek)) p m rr ea eb ek ei (by omega) (fun s h => Nat.le_trans (hxf.2 s h) (by omega)); rw [hb1, orNil_t, hb2] at q; exact q)) ⟨?_⟩
       refine zMove ⟨?_⟩
       refine zExtract ⟨?_⟩
       refine zExtract ⟨?_⟩
       refine zAssign ⟨?_⟩
       refine zAssign ⟨?_⟩
       refine k35 _ ?_
       refine zk ⟨?_⟩
       refine v_seqR [5,21,22,23,25,28,29,33,37,307] ?_; intro K36 k36
       refine zMove ⟨?_⟩
       refine zUnOp ⟨?_⟩
       refine zMove ⟨?_⟩
       refine zgMove ⟨?_⟩
       refine zgMove ⟨?_⟩
       refine zgc (qLists_con l (by omega) (fun s h => Nat.le_trans (hqx s h) (by omega))) ⟨?_⟩
       refine zgUnOp ⟨?_⟩
       refine zPick ⟨?_⟩
       refine k36 _ ?_
       refine zk ⟨?_⟩
       refine v_cond _ rfl ?_ ?_
       ·intro hc5
        exfalso; first | (simp at hc5; done) | (simp [hk1, hk2, hk3, hk4, hb1, hb2] at hc5; done)
       ·intro hc5
        try simp only [zC, reduceCtorEq] at hc5
        refine v_skip ?_
        refine n23 () _ ?_ ?_
        ·trivial
        ·refine weak_both [5, 21, 22, 23, 25, 28, 29, 33, 37] [3, 5] (by decide) (by simp) ?_ ?_ ?_
         ·simp [keep_mk, keepE_nil, keepE_cons, look_cons, V.only, V.onlyL, idx] <;> (first | rfl | decide)
         ·simp [Blk.kindIs, fillK_mix]
         simp only [keep_mk, keepE_nil, keepE_cons, look_cons, look_nil, Nat.reduceEqDiff, reduceIte, St.comp, List.map_cons, List.map_nil, V.ren, V.renL, idx, List.getD_cons_zero, List.getD_cons_succ, Nat.reduceBEq, cond_true, cond_false, Option.map_some, Option.getD_some, Nat.reduceAdd, Nat.beq_eq_true_eq]
         all_goals rfl
      ·intro hc4
       refine v_skip ?_
       refine n23 () _ ?_ ?_
       ·trivial
       ·refine weak_both [5, 21, 22, 23, 25, 28, 29, 33, 37] [3, 5] (by decide) (by simp) ?_ ?_ ?_
        ·simp [keep_mk, keepE_nil, keepE_cons, look_cons, V.only, V.onlyL, idx] <;> (first | rfl | decide)
        ·simp [Blk.kindIs, fillK_mix]
        simp only [keep_mk, keepE_nil, keepE_cons, look_cons, look_nil, Nat.reduceEqDiff, reduceIte, St.comp, List.map_cons, List.map_nil, V.ren, V.renL, idx, List.getD_cons_zero, List.getD_cons_succ, Nat.reduceBEq, cond_true, cond_false, Option.map_some, Option.getD_some, Nat.reduceAdd, Nat.beq_eq_true_eq]
        all_goals rfl
    ·intro hc2
     refine v_skip ?_
     refine n23 () _ ?_ ?_
     ·trivial
     ·refine weak_both [5, 21, 22, 23, 25, 28, 29, 33, 37] [3, 5] (by decide) (by simp) ?_ ?_ ?_
      ·simp [keep_mk, keepE_nil, keepE_cons, look_cons, V.only, V.onlyL, idx] <;> (first | rfl | decide)
      ·simp [Blk.kindIs, fillK_mix]
      simp only [keep_mk, keepE_nil, keepE_cons, look_cons, look_nil, Nat.reduceEqDiff, reduceIte, St.comp, List.map_cons, List.map_nil, V.ren, V.renL, idx, List.getD_cons_zero, List.getD_cons_succ, Nat.reduceBEq, cond_true, cond_false, Option.map_some, Option.getD_some, Nat.reduceAdd, Nat.beq_eq_true_eq]
      all_goals rfl
   ·rintro u0 hok23
    have _hu : True := hok23
    rcases Bool.eq_false_or_eq_true (breachR l p m rr).isSome with hth | hth
    ·skip
     obtain ⟨kb, tb, e1, e2, e3⟩ := breach_in hth
     have hkl := (List.getElem?_eq_some_iff.1 e2).1
     have htb := hqx tb (List.mem_of_getElem? e2)
     have hn0 : ¬ ((kb : Int) < 0) := by omega
     have hn1 : ¬ ((kb : Int) ≥ (l.length : Int)) := by omega
     refine v_join (A := Unit) (fun u0 => ⟨[(25, .ref 0), (28, .bool (rosterB u n)), (29, .ref 1), (33, .int .i64 (if rosterB u n then spreadV u n else 0)), (37, .str (rTextR u n))], [.arr (u.map (fun l : List Int => V.sl (l.map (V.int .i64)))) (fillK kk2), .arr ((shiftsR u n).map (V.int .i64)) .flat], true, 383, 0⟩) (fun u0 => True) ?_ ?_
     ·intro Q38 n38 e38 r38
      refine v_seqR [25,28,29,33,37,327] ?_; intro K39 k39
      have F := Fc.mk (And.intro nbeq (And.intro h3b (And.intro @decide_true (And.intro @Bool.not_true (And.intro @Bool.or_false (And.intro @Bool.false_or (And.intro @Bool.not_false (And.intro hth (And.intro e1 (And.intro (fun f => getD_map (f := f) e2) (And.intro hn0 (And.intro hn1 (And.intro e3 (And.intro @decide_true (And.intro @decide_false (And.intro @Int.toNat_natCast (And.intro @Bool.not_true @Bool.not_false)))))))))))))))))
      refine zMove ⟨?_⟩
      refine zMove ⟨?_⟩
      refine zgMove ⟨?_⟩
      refine zgBinOp ⟨?_⟩
      refine zgMove ⟨?_⟩
      refine zgMove ⟨?_⟩
      refine zgMove ⟨?_⟩
      refine zgLen ⟨?_⟩
      refine zgBinOp ⟨?_⟩
      refine zgPick ⟨?_⟩
      refine zgMove ⟨?_⟩
      refine zgMove ⟨?_⟩
      refine zgMove ⟨?_⟩
      refine zgIndexAddr ⟨?_⟩
      refine zgLoad ⟨?_⟩
      refine zgMove ⟨?_⟩
      refine zgc (qHas_con tb (brX (breachR l p m rr)) (by omega)) ⟨?_⟩
      refine zgUnOp ⟨?_⟩
      refine zgPick ⟨?_⟩
      refine zPick ⟨?_⟩
      refine k39 _ ?_
      refine zk ⟨?_⟩
      refine v_cond _ rfl ?_ ?_
      ·intro hc6
       exfalso; simp at hc6
      ·intro hc6
       try simp only [zC, reduceCtorEq] at hc6
       refine v_skip ?_
       refine n38 () _ ?_ ?_
       ·trivial
       ·refine weak_both [25, 28, 29, 33, 37] [0, 1] (by decide) (by simp) ?_ ?_ ?_
        ·simp [keep_mk, keepE_nil, keepE_cons, look_cons, V.only, V.onlyL, idx] <;> (first | rfl | decide)
        ·simp [Blk.kindIs, fillK_mix]
        simp only [keep_mk, keepE_nil, keepE_cons, look_cons, look_nil, Nat.reduceEqDiff, reduceIte, St.comp, List.map_cons, List.map_nil, V.ren, V.renL, idx, List.getD_cons_zero, List.getD_cons_succ, Nat.reduceBEq, cond_true, cond_false, Option.map_some, Option.getD_some, Nat.reduceAdd, Nat.beq_eq_true_eq]
        all_goals rfl
     ·rintro u0 hok38
      have _hu : True := hok38
      refine v_seq ?_; intro Q41 n41 e41 r41
      refine v_seqR [25,29,33,37,328] ?_; intro K42 k42
      have F := Fc.mk (And.intro nbeq (And.intro h3b (And.intro @decide_true (And.intro @Bool.not_true (And.intro @Bool.or_false (And.intro @Bool.false_or (And.intro @Bool.not_false (And.intro hth (And.intro e1 (And.intro (fun f => getD_map (f := f) e2) (And.intro hn0 (And.intro hn1 (And.intro e3 (And.intro @decide_true (And.intro @decide_false (And.intro @Int.toNat_natCast (And.intro @Bool.not_true @Bool.not_false)))))))))))))))))
      refine zMove ⟨?_⟩
      refine k42 _ ?_
      refine zk ⟨?_⟩
      refine v_condS _ rfl ?_ ?_
      ·intro hc7
       have hfv : rosterB u n = true := hc7
       have hro := roster_in hfv
       have hS : (shiftsR u n) = shiftsOf u n := by rw [shiftsR, if_pos hfv]
       obtain ⟨s0, sl, hs0⟩ := shifts_cons (d := u) hro.1
       have hf0 : (shiftsR u n)[0]? = some s0 := by rw [hS, hs0]; rfl
       have hfl := flat_len u 9 hux
       have hfl2 : u.length * 9 ≤ 22 * 9 := Nat.mul_le_mul_right 9 hul
       have hsb := shifts_bound hro.2.2 (by omega)
       have hsum := shiftsOf_sum hro.2.2 (by omega)
       have hsp := spread_ext hs0
       have htx := roster_text hfv
       have hSl : (shiftsR u n).length ≤ 10 := by rw [hS, shiftsOf_len]; omega
       rw [← hS] at hsb hsum hsp
       refine v_seq ?_; intro Q44 n44 e44 r44
       refine v_draw (by kernel_rfl) ?_; intro K45 q45 k45
       show aAny _ _ _ _ 9 (Array.replicate 9 false) _
       have F := Fc.mk (And.intro nbeq (And.intro h3b (And.intro @decide_true (And.intro @Bool.not_true (And.intro @Bool.or_false (And.intro @Bool.false_or (And.intro @Bool.not_false (And.intro hth (And.intro e1 (And.intro (fun f => getD_map (f := f) e2) (And.intro hn0 (And.intro hn1 (And.intro e3 (And.intro @decide_true (And.intro @decide_false (And.intro @Int.toNat_natCast (And.intro @Bool.not_true (And.intro @Bool.not_false (And.intro (fun f => getD_map (f := f) hf0) hfv)))))))))))))))))))
       refine zdMove q45 true 0 329 ?_
       refine zdIndexAddr q45 true 1 330 ?_
       refine zdLoadX q45 true 2 331 ?_
       refine zdMove q45 true 3 332 ?_
       refine zdIndexAddr q45 true 4 333 ?_
       refine zdLoadX q45 true 5 334 ?_
       refine zoAssign 6 ⟨?_⟩
       refine zoAssign 7 ⟨?_⟩
       refine zoAssign 8 ⟨?_⟩
       refine aAny_done (by kernel_rfl) ?_
       refine k45 _ ?_
       refine n44 _ _ (weak_keep [25, 29, 33, 37, 47, 48, 49] _) ?_
       refine zk ⟨?_⟩
       refine v_seq ?_; intro Q46 n46 e46 r46
       refine v_seqR [25,33,37,47,48,49,335,336,337] ?_; intro K47 k47
       refine zMove ⟨?_⟩
       refine zLen ⟨?_⟩
       refine zMove ⟨?_⟩
       refine k47 _ ?_
       refine zk ⟨?_⟩
       refine v_block ?_; intro Q48 n48 x48 e48 r48
       refine v_loop (fun q => ⟨[(25, .ref 0), (33, .int .i64 (spreadV u n)), (37, .str (rTextR u n)), (47, .int .i64 q.2.1), (48, .int .i64 q.2.2.1), (49, .int .i64 q.2.2.2), (335, .ref 1), (336, .int .i64 (shiftsR u n).length), (337, .int .i64 (Nat.cast q.1))], [.arr (u.map (fun l : List Int => V.sl (l.map (V.int .i64)))) (fillK kk2), .arr ((shiftsR u n).map (V.int .i64)) .flat], true, 383, 0⟩) (fun q => q.1 ≤ (shiftsR u n).length ∧ q.2.1 = ((shiftsR u n).take q.1).sum ∧ (0 ≤ q.2.1 ∧ q.2.1 ≤ 1000 * (q.1 : Int)) ∧ leastL ((shiftsR u n).drop q.1) q.2.2.1 = leastL (shiftsR u n) s0 ∧ mostL ((shiftsR u n).drop q.1) q.2.2.2 = mostL (shiftsR u n) s0) (fun q => (shiftsR u n).length - q.1) ((0, 0, s0, s0) : Nat × Int × Int × Int) ?_ ?_ ?_
       ·refine weak_bothS [25, 33, 37, 47, 48, 49, 335, 336, 337] [0, 1] ⟨?_⟩
        rfl
       ·exact ⟨Nat.zero_le _, rfl, by simp, rfl, rfl⟩
       ·rintro ⟨i, sm, lo, hi⟩ hok49 Q49 n49 e49 r49
        obtain ⟨hi1, hsu, hsbd, hlo, hhi⟩ := hok49
        simp only [] at hi1 hsu hsbd hlo hhi ⊢
        refine v_seqR [25,33,37,47,48,49,335,336,337,338] ?_; intro K50 k50
        refine zBinOp ⟨?_⟩
        refine k50 _ ?_
        refine zk ⟨?_⟩
        refine v_seq ?_; intro Q51 n51 e51 r51
        refine v_condS _ rfl ?_ ?_
        ·intro hc8
         have hlt : i < (shiftsR u n).length := by omega
         obtain ⟨x, hx⟩ : ∃ x, (shiftsR u n)[i]? = some x := ⟨(shiftsR u n)[i], List.getElem?_eq_getElem hlt⟩
         have hxb := hsb x (List.mem_of_getElem? hx)
         have h1s := sum_take hx
         have h2s := least_step hx lo
         have h3s := most_step hx hi
         refine v_skip ?_
         refine n51 _ _ (weak_keep [25, 33, 37, 47, 48, 49, 335, 336, 337] _) ?_
         refine zk ⟨?_⟩
         refine v_seq ?_; intro Q53 n53 e53 r53
         refine v_block ?_; intro Q54 n54 x54 e54 r54
         refine v_seqR [25,33,37,47,48,49,51,335,336,337] ?_; intro K55 k55
         have F := Fc.mk (And.intro nbeq (And.intro h3b (And.intro @decide_true (And.intro @Bool.not_true (And.intro @Bool.or_false (And.intro @Bool.false_or (And.intro @Bool.not_false (And.intro hth (And.intro e1 (And.intro (fun f => getD_map (f := f) e2) (And.intro hn0 (And.intro hn1 (And.intro e3 (And.intro @decide_true (And.intro @decide_false (And.intro @Int.toNat_natCast (And.intro @Bool.not_true (And.intro @Bool.not_false (And.intro (fun f => getD_map (f := f) hf0) (And.intro hfv (fun f => getD_map (f := f) hx)))))))))))))))))))))
         refine zIndexAddr ⟨?_⟩
         refine zLoad ⟨?_⟩
         refine zAssign ⟨?_⟩
         refine k55 _ ?_
         refine zk ⟨?_⟩
         refine v_seqR [25,33,37,47,48,49,51,335,336,337] ?_; intro K56 k56
         refine zMove ⟨?_⟩
         refine zMove ⟨?_⟩
         refine zBinOpW ⟨?_⟩
         refine zAssign ⟨?_⟩
         refine k56 _ ?_
         refine zk ⟨?_⟩
         refine v_seq ?_; intro Q57 n57 e57 r57
         refine v_seqR [25,33,37,47,48,49,51,335,336,337,346] ?_; intro K58 k58
         refine zMove ⟨?_⟩
         refine zMove ⟨?_⟩
         refine zBinOp ⟨?_⟩
         refine k58 _ ?_
         refine zk ⟨?_⟩
         refine v_condS _ rfl ?_ ?_
         ·intro hc9
          refine v_region ?_; intro K60 k60
          refine zMove ⟨?_⟩
          refine zAssign ⟨?_⟩
          refine k60 _ ?_
          refine n57 _ _ (weak_keep [25, 33, 37, 47, 48, 49, 51, 335, 336, 337] _) ?_
          refine zk ⟨?_⟩
          refine v_seqR [25,33,37,47,48,49,51,335,336,337,350] ?_; intro K61 k61
          refine zMove ⟨?_⟩
          refine zMove ⟨?_⟩
          refine zBinOp ⟨?_⟩
          refine k61 _ ?_
          refine zk ⟨?_⟩
          refine v_condS _ rfl ?_ ?_
          ·intro hc10
           refine v_region ?_; intro K63 k63
           refine zMove ⟨?_⟩
           refine zAssign ⟨?_⟩
           refine k63 _ ?_
           refine n54 _ ?_
           refine n53 _ _ (weak_keep [25, 33, 37, 47, 48, 49, 335, 336, 337] _) ?_
           refine zk ⟨?_⟩
           refine v_region ?_; intro K64 k64
           refine zBinOpW ⟨?_⟩
           refine zMove ⟨?_⟩
           refine k64 _ ?_
           refine n49 _ (i + 1, sm + x, x, x) ?_ ?_ ?_
           ·refine weak_bothS [25, 33, 37, 47, 48, 49, 335, 336, 337] [0, 1] ⟨?_⟩
            rfl
           ·exact ⟨hlt, by show sm + x = _; rw [h1s, hsu], by show 0 ≤ sm + x ∧ sm + x ≤ 1000 * ((i + 1 : Nat) : Int); omega, by show leastL _ x = _; rw [← hlo, h2s, if_pos hc9], by show mostL _ x = _; rw [← hhi, h3s, if_pos hc10]⟩
           ·show _ < _; show (shiftsR u n).length - (i + 1) < (shiftsR u n).length - i; omega
          ·intro hc10
           refine v_skip ?_
           refine n54 _ ?_
           refine n53 _ _ (weak_keep [25, 33, 37, 47, 48, 49, 335, 336, 337] _) ?_
           refine zk ⟨?_⟩
           refine v_region ?_; intro K65 k65
           refine zBinOpW ⟨?_⟩
           refine zMove ⟨?_⟩
           refine k65 _ ?_
           refine n49 _ (i + 1, sm + x, x, hi) ?_ ?_ ?_
           ·refine weak_bothS [25, 33, 37, 47, 48, 49, 335, 336, 337] [0, 1] ⟨?_⟩
            rfl
           ·exact ⟨hlt, by show sm + x = _; rw [h1s, hsu], by show 0 ≤ sm + x ∧ sm + x ≤ 1000 * ((i + 1 : Nat) : Int); omega, by show leastL _ x = _; rw [← hlo, h2s, if_pos hc9], by show mostL _ hi = _; rw [← hhi, h3s, if_neg (by omega)]⟩
           ·show _ < _; show (shiftsR u n).length - (i + 1) < (shiftsR u n).length - i; omega
         ·intro hc9
          refine v_skip ?_
          refine n57 _ _ (weak_keep [25, 33, 37, 47, 48, 49, 51, 335, 336, 337] _) ?_
          refine zk ⟨?_⟩
          refine v_seqR [25,33,37,47,48,49,51,335,336,337,350] ?_; intro K66 k66
          refine zMove ⟨?_⟩
          refine zMove ⟨?_⟩
          refine zBinOp ⟨?_⟩
          refine k66 _ ?_
          refine zk ⟨?_⟩
          refine v_condS _ rfl ?_ ?_
          ·intro hc11
           refine v_region ?_; intro K68 k68
           refine zMove ⟨?_⟩
           refine zAssign ⟨?_⟩
           refine k68 _ ?_
           refine n54 _ ?_
           refine n53 _ _ (weak_keep [25, 33, 37, 47, 48, 49, 335, 336, 337] _) ?_
           refine zk ⟨?_⟩
           refine v_region ?_; intro K69 k69
           refine zBinOpW ⟨?_⟩
           refine zMove ⟨?_⟩
           refine k69 _ ?_
           refine n49 _ (i + 1, sm + x, lo, x) ?_ ?_ ?_
           ·refine weak_bothS [25, 33, 37, 47, 48, 49, 335, 336, 337] [0, 1] ⟨?_⟩
            rfl
           ·exact ⟨hlt, by show sm + x = _; rw [h1s, hsu], by show 0 ≤ sm + x ∧ sm + x ≤ 1000 * ((i + 1 : Nat) : Int); omega, by show leastL _ lo = _; rw [← hlo, h2s, if_neg (by omega)], by show mostL _ x = _; rw [← hhi, h3s, if_pos hc11]⟩
           ·show _ < _; show (shiftsR u n).length - (i + 1) < (shiftsR u n).length - i; omega
          ·intro hc11
           refine v_skip ?_
           refine n54 _ ?_
           refine n53 _ _ (weak_keep [25, 33, 37, 47, 48, 49, 335, 336, 337] _) ?_
           refine zk ⟨?_⟩
           refine v_region ?_; intro K70 k70
           refine zBinOpW ⟨?_⟩
           refine zMove ⟨?_⟩
           refine k70 _ ?_
           refine n49 _ (i + 1, sm + x, lo, hi) ?_ ?_ ?_
           ·refine weak_bothS [25, 33, 37, 47, 48, 49, 335, 336, 337] [0, 1] ⟨?_⟩
            rfl
           ·exact ⟨hlt, by show sm + x = _; rw [h1s, hsu], by show 0 ≤ sm + x ∧ sm + x ≤ 1000 * ((i + 1 : Nat) : Int); omega, by show leastL _ lo = _; rw [← hlo, h2s, if_neg (by omega)], by show mostL _ hi = _; rw [← hhi, h3s, if_neg (by omega)]⟩
           ·show _ < _; show (shiftsR u n).length - (i + 1) < (shiftsR u n).length - i; omega
        ·intro hc8
         have hie : i = (shiftsR u n).length := by omega
         have hsm : sm = u.flatten.length := by rw [hsu, hie, List.take_length, hsum]
         have hlo2 : lo = leastL (shiftsR u n) s0 := by rw [← hlo, least_end (by omega)]
         have hhi2 : hi = mostL (shiftsR u n) s0 := by rw [← hhi, most_end (by omega)]
         refine v_exit ?_
         refine e51 _ _ ?_
         refine e49 _ _ ?_
         refine x48 _ ?_
         refine n46 _ _ (weak_keep [25, 33, 37, 47, 48, 49] _) ?_
         refine zk ⟨?_⟩
         refine v_seqR [25,33,37,47,48,49,52] ?_; intro K71 k71
         refine zAssign ⟨?_⟩
         refine k71 _ ?_
         refine zk ⟨?_⟩
         refine v_seq ?_; intro Q72 n72 e72 r72
         refine v_seqR [25,33,37,47,48,49,52,353,354,355] ?_; intro K73 k73
         refine zMove ⟨?_⟩
         refine zLen ⟨?_⟩
         refine zMove ⟨?_⟩
         refine k73 _ ?_
         refine zk ⟨?_⟩
         refine v_block ?_; intro Q74 n74 x74 e74 r74
         refine v_loop (fun q => ⟨[(25, .ref 0), (33, .int .i64 (spreadV u n)), (37, .str (rTextR u n)), (47, .int .i64 sm), (48, .int .i64 lo), (49, .int .i64 hi), (52, .int .i64 (Nat.cast q.2)), (353, .ref 0), (354, .int .i64 u.length), (355, .int .i64 (Nat.cast q.1))], [.arr (u.map (fun l : List Int => V.sl (l.map (V.int .i64)))) (fillK kk2)], true, 383, 0⟩) (fun q => q.1 ≤ u.length ∧ q.2 = (u.take q.1).flatten.length ∧ q.2 ≤ 9 * q.1) (fun q => u.length - q.1) ((0, 0) : Nat × Nat) ?_ ?_ ?_
         ·refine weak_bothS [25, 33, 37, 47, 48, 49, 52, 353, 354, 355] [0] ⟨?_⟩
          rfl
         ·exact ⟨Nat.zero_le _, rfl, Nat.le_refl _⟩
         ·rintro ⟨k2, al⟩ hok75 Q75 n75 e75 r75
          obtain ⟨hk1b, hal, halb⟩ := hok75
          simp only [] at hk1b hal halb ⊢
          refine v_seqR [25,33,37,47,48,49,52,353,354,355,356] ?_; intro K76 k76
          refine zBinOp ⟨?_⟩
          refine k76 _ ?_
          refine zk ⟨?_⟩
          refine v_seq ?_; intro Q77 n77 e77 r77
          refine v_condS _ rfl ?_ ?_
          ·intro hc12
           have hltu : k2 < u.length := by omega
           obtain ⟨y, hy⟩ : ∃ y, u[k2]? = some y := ⟨u[k2], List.getElem?_eq_getElem hltu⟩
           have hyl := hux y (List.mem_of_getElem? hy)
           have hft := flat_take hy
           refine v_skip ?_
           refine n77 _ _ (weak_keep [25, 33, 37, 47, 48, 49, 52, 353, 354, 355] _) ?_
           refine zk ⟨?_⟩
           refine v_seq ?_; intro Q79 n79 e79 r79
           refine v_block ?_; intro Q80 n80 x80 e80 r80
           refine v_seqR [25,33,37,47,48,49,52,54,353,354,355] ?_; intro K81 k81
           have F := Fc.mk (And.intro nbeq (And.intro h3b (And.intro @decide_true (And.intro @Bool.not_true (And.intro @Bool.or_false (And.intro @Bool.false_or (And.intro @Bool.not_false (And.intro hth (And.intro e1 (And.intro (fun f => getD_map (f := f) e2) (And.intro hn0 (And.intro hn1 (And.intro e3 (And.intro @decide_true (And.intro @decide_false (And.intro @Int.toNat_natCast (And.intro @Bool.not_true (And.intro @Bool.not_false (And.intro (fun f => getD_map (f := f) hf0) (And.intro hfv (fun f => getD_map (f := f) hy)))))))))))))))))))))
           refine zIndexAddr ⟨?_⟩
           refine zLoad ⟨?_⟩
           refine zAssign ⟨?_⟩
           refine k81 _ ?_
           refine zk ⟨?_⟩
           refine v_region ?_; intro K82 k82
           refine zMove ⟨?_⟩
           refine zMove ⟨?_⟩
           refine zLen ⟨?_⟩
           refine zBinOpW ⟨?_⟩
           refine zAssign ⟨?_⟩
           refine k82 _ ?_
           refine n80 _ ?_
           refine n79 _ _ (weak_keep [25, 33, 37, 47, 48, 49, 52, 353, 354, 355] _) ?_
           refine zk ⟨?_⟩
           refine v_region ?_; intro K83 k83
           refine zBinOpW ⟨?_⟩
           refine zMove ⟨?_⟩
           refine k83 _ ?_
           refine n75 _ (k2 + 1, al + y.length) ?_ ?_ ?_
           ·refine weak_bothS [25, 33, 37, 47, 48, 49, 52, 353, 354, 355] [0] ⟨?_⟩
            rfl
           ·exact ⟨hltu, by show al + y.length = _; rw [hft, hal], by show al + y.length ≤ 9 * (k2 + 1); omega⟩
           ·show _ < _; show u.length - (k2 + 1) < u.length - k2; omega
          ·intro hc12
           have hke2 : k2 = u.length := by omega
           have hall2 : al = u.flatten.length := by rw [hal, hke2, List.take_length]
           refine v_exit ?_
           refine e77 _ _ ?_
           refine e75 _ _ ?_
           refine x74 _ ?_
           refine n72 _ _ (weak_keep [25, 33, 37, 47, 48, 49, 52] _) ?_
           refine zk ⟨?_⟩
           refine v_seqR [382] ?_; intro K84 k84
           refine zMove ⟨?_⟩
           refine zMove ⟨?_⟩
           refine zBinOp ⟨?_⟩
           refine zMove ⟨?_⟩
           refine zgMove ⟨?_⟩
           refine zgMove ⟨?_⟩
           refine zgBinOpW ⟨?_⟩
           refine zgMove ⟨?_⟩
           refine zgBinOp ⟨?_⟩
           refine zPick ⟨?_⟩
           refine zMove ⟨?_⟩
           refine zgMove ⟨?_⟩
           refine zgLen ⟨?_⟩
           refine zgMove ⟨?_⟩
           refine zgMove ⟨?_⟩
           refine zgLen ⟨?_⟩
           refine zgBinOpW ⟨?_⟩
           refine zgBinOp ⟨?_⟩
           refine zPick ⟨?_⟩
           refine k84 _ ?_
           refine zk ⟨?_⟩
           refine v_cond _ rfl ?_ ?_
           ·intro hc13
            exfalso; rw [hlo2, hhi2, hsm, hall2] at hc13
            rw [hsp] at hc13
            simp [htx] at hc13
           ·intro hc13
            try simp only [zC, reduceCtorEq] at hc13
            refine v_skip ?_
            refine n41 _ _ (weak_keep [] _) ?_
            refine zk ⟨?_⟩
            refine v_seqR [4] ?_; intro K86 k86
            refine zAssign ⟨?_⟩
            refine k86 _ ?_
            refine zk ⟨?_⟩
            refine v_ret ?_
            refine r0 _ ?_
            refine zf ⟨?_⟩
            exact ret_pure rfl rfl (by first | exact .inl rfl | exact .inr rfl)
      ·intro hc7
       refine v_skip ?_
       refine n41 _ _ (weak_keep [] _) ?_
       refine zk ⟨?_⟩
       refine v_seqR [4] ?_; intro K87 k87
       refine zAssign ⟨?_⟩
       refine k87 _ ?_
       refine zk ⟨?_⟩
       refine v_ret ?_
       refine r0 _ ?_
       refine zf ⟨?_⟩
       exact ret_pure rfl rfl (by first | exact .inl rfl | exact .inr rfl)
    ·skip
     skip
     refine v_join (A := Unit) (fun u0 => ⟨[(25, .ref 0), (28, .bool (rosterB u n)), (29, .ref 1), (33, .int .i64 (if rosterB u n then spreadV u n else 0)), (37, .str (rTextR u n))], [.arr (u.map (fun l : List Int => V.sl (l.map (V.int .i64)))) (fillK kk2), .arr ((shiftsR u n).map (V.int .i64)) .flat], true, 383, 0⟩) (fun u0 => True) ?_ ?_
     ·intro Q88 n88 e88 r88
      refine v_seqR [25,28,29,33,37,327] ?_; intro K89 k89
      have F := Fc.mk (And.intro nbeq (And.intro h3b (And.intro @decide_true (And.intro @Bool.not_true (And.intro @Bool.or_false (And.intro @Bool.false_or (And.intro @Bool.not_false (And.intro hth (And.intro @Bool.not_true @Bool.not_false)))))))))
      refine zMove ⟨?_⟩
      refine zMove ⟨?_⟩
      refine zgMove ⟨?_⟩
      refine zgBinOp ⟨?_⟩
      refine zgMove ⟨?_⟩
      refine zgMove ⟨?_⟩
      refine zgMove ⟨?_⟩
      refine zgLen ⟨?_⟩
      refine zgBinOp ⟨?_⟩
      refine zgPick ⟨?_⟩
      refine zgMove ⟨?_⟩
      refine zgMove ⟨?_⟩
      refine zgMove ⟨?_⟩
      refine zgIndexAddr ⟨?_⟩
      refine zgLoad ⟨?_⟩
      refine zgMove ⟨?_⟩
      refine v_pass 324 10 false rfl (show 324 < 383 by decide) rfl ?_ ?_
      ·first | rfl | (simp only [zV, guardV, Nat.reduceEqDiff, reduceIte]; done)
      simp only [zW, set_some, Nat.reduceEqDiff, reduceIte]
      refine zgUnOp ⟨?_⟩
      refine zgPick ⟨?_⟩
      refine zPick ⟨?_⟩
      refine k89 _ ?_
      refine zk ⟨?_⟩
      refine v_cond _ rfl ?_ ?_
      ·intro hc6
       exfalso; simp at hc6
      ·intro hc6
       try simp only [zC, reduceCtorEq] at hc6
       refine v_skip ?_
       refine n88 () _ ?_ ?_
       ·trivial
       ·refine weak_both [25, 28, 29, 33, 37] [0, 1] (by decide) (by simp) ?_ ?_ ?_
        ·simp [keep_mk, keepE_nil, keepE_cons, look_cons, V.only, V.onlyL, idx] <;> (first | rfl | decide)
        ·simp [Blk.kindIs, fillK_mix]
        simp only [keep_mk, keepE_nil, keepE_cons, look_cons, look_nil, Nat.reduceEqDiff, reduceIte, St.comp, List.map_cons, List.map_nil, V.ren, V.renL, idx, List.getD_cons_zero, List.getD_cons_succ, Nat.reduceBEq, cond_true, cond_false, Option.map_some, Option.getD_some, Nat.reduceAdd, Nat.beq_eq_true_eq]
        all_goals rfl
     ·rintro u0 hok88
      have _hu : True := hok88
      refine v_seq ?_; intro Q91 n91 e91 r91
      refine v_seqR [25,29,33,37,328] ?_; intro K92 k92
      have F := Fc.mk (And.intro nbeq (And.intro h3b (And.intro @decide_true (And.intro @Bool.not_true (And.intro @Bool.or_false (And.intro @Bool.false_or (And.intro @Bool.not_false (And.intro hth (And.intro @Bool.not_true @Bool.not_false)))))))))
      refine zMove ⟨?_⟩
      refine k92 _ ?_
      refine zk ⟨?_⟩
      refine v_condS _ rfl ?_ ?_
      ·intro hc7
       have hfv : rosterB u n = true := hc7
       have hro := roster_in hfv
       have hS : (shiftsR u n) = shiftsOf u n := by rw [shiftsR, if_pos hfv]
       obtain ⟨s0, sl, hs0⟩ := shifts_cons (d := u) hro.1
       have hf0 : (shiftsR u n)[0]? = some s0 := by rw [hS, hs0]; rfl
       have hfl := flat_len u 9 hux
       have hfl2 : u.length * 9 ≤ 22 * 9 := Nat.mul_le_mul_right 9 hul
       have hsb := shifts_bound hro.2.2 (by omega)
       have hsum := shiftsOf_sum hro.2.2 (by omega)
       have hsp := spread_ext hs0
       have htx := roster_text hfv
       have hSl : (shiftsR u n).length ≤ 10 := by rw [hS, shiftsOf_len]; omega
       rw [← hS] at hsb hsum hsp
       refine v_seq ?_; intro Q94 n94 e94 r94
       refine v_draw (by kernel_rfl) ?_; intro K95 q95 k95
       show aAny _ _ _ _ 9 (Array.replicate 9 false) _
       have F := Fc.mk (And.intro nbeq (And.intro h3b (And.intro @decide_true (And.intro @Bool.not_true (And.intro @Bool.or_false (And.intro @Bool.false_or (And.intro @Bool.not_false (And.intro hth (And.intro @Bool.not_true (And.intro @Bool.not_false (And.intro (fun f => getD_map (f := f) hf0) hfv)))))))))))
       refine zdMove q95 true 0 329 ?_
       refine zdIndexAddr q95 true 1 330 ?_
       refine zdLoadX q95 true 2 331 ?_
       refine zdMove q95 true 3 332 ?_
       refine zdIndexAddr q95 true 4 333 ?_
       refine zdLoadX q95 true 5 334 ?_
       refine zoAssign 6 ⟨?_⟩
       refine zoAssign 7 ⟨?_⟩
       refine zoAssign 8 ⟨?_⟩
       refine aAny_done (by kernel_rfl) ?_
       refine k95 _ ?_
       refine n94 _ _ (weak_keep [25, 29, 33, 37, 47, 48, 49] _) ?_
       refine zk ⟨?_⟩
       refine v_seq ?_; intro Q96 n96 e96 r96
       refine v_seqR [25,33,37,47,48,49,335,336,337] ?_; intro K97 k97
       refine zMove ⟨?_⟩
       refine zLen ⟨?_⟩
       refine zMove ⟨?_⟩
       refine k97 _ ?_
       refine zk ⟨?_⟩
       refine v_block ?_; intro Q98 n98 x98 e98 r98
       refine v_loop (fun q => ⟨[(25, .ref 0), (33, .int .i64 (spreadV u n)), (37, .str (rTextR u n)), (47, .int .i64 q.2.1), (48, .int .i64 q.2.2.1), (49, .int .i64 q.2.2.2), (335, .ref 1), (336, .int .i64 (shiftsR u n).length), (337, .int .i64 (Nat.cast q.1))], [.arr (u.map (fun l : List Int => V.sl (l.map (V.int .i64)))) (fillK kk2), .arr ((shiftsR u n).map (V.int .i64)) .flat], true, 383, 0⟩) (fun q => q.1 ≤ (shiftsR u n).length ∧ q.2.1 = ((shiftsR u n).take q.1).sum ∧ (0 ≤ q.2.1 ∧ q.2.1 ≤ 1000 * (q.1 : Int)) ∧ leastL ((shiftsR u n).drop q.1) q.2.2.1 = leastL (shiftsR u n) s0 ∧ mostL ((shiftsR u n).drop q.1) q.2.2.2 = mostL (shiftsR u n) s0) (fun q => (shiftsR u n).length - q.1) ((0, 0, s0, s0) : Nat × Int × Int × Int) ?_ ?_ ?_
       ·refine weak_bothS [25, 33, 37, 47, 48, 49, 335, 336, 337] [0, 1] ⟨?_⟩
        rfl
       ·exact ⟨Nat.zero_le _, rfl, by simp, rfl, rfl⟩
       ·rintro ⟨i, sm, lo, hi⟩ hok99 Q99 n99 e99 r99
        obtain ⟨hi1, hsu, hsbd, hlo, hhi⟩ := hok99
        simp only [] at hi1 hsu hsbd hlo hhi ⊢
        refine v_seqR [25,33,37,47,48,49,335,336,337,338] ?_; intro K100 k100
        refine zBinOp ⟨?_⟩
        refine k100 _ ?_
        refine zk ⟨?_⟩
        refine v_seq ?_; intro Q101 n101 e101 r101
        refine v_condS _ rfl ?_ ?_
        ·intro hc8
         have hlt : i < (shiftsR u n).length := by omega
         obtain ⟨x, hx⟩ : ∃ x, (shiftsR u n)[i]? = some x := ⟨(shiftsR u n)[i], List.getElem?_eq_getElem hlt⟩
         have hxb := hsb x (List.mem_of_getElem? hx)
         have h1s := sum_take hx
         have h2s := least_step hx lo
         have h3s := most_step hx hi
         refine v_skip ?_
         refine n101 _ _ (weak_keep [25, 33, 37, 47, 48, 49, 335, 336, 337] _) ?_
         refine zk ⟨?_⟩
         refine v_seq ?_; intro Q103 n103 e103 r103
         refine v_block ?_; intro Q104 n104 x104 e104 r104
         refine v_seqR [25,33,37,47,48,49,51,335,336,337] ?_; intro K105 k105
         have F := Fc.mk (And.intro nbeq (And.intro h3b (And.intro @decide_true (And.intro @Bool.not_true (And.intro @Bool.or_false (And.intro @Bool.false_or (And.intro @Bool.not_false (And.intro hth (And.intro @Bool.not_true (And.intro @Bool.not_false (And.intro (fun f => getD_map (f := f) hf0) (And.intro hfv (fun f => getD_map (f := f) hx)))))))))))))
         refine zIndexAddr ⟨?_⟩
         refine zLoad ⟨?_⟩
         refine zAssign ⟨?_⟩
         refine k105 _ ?_
         refine zk ⟨?_⟩
         refine v_seqR [25,33,37,47,48,49,51,335,336,337] ?_; intro K106 k106
         refine zMove ⟨?_⟩
         refine zMove ⟨?_⟩
         refine zBinOpW ⟨?_⟩
         refine zAssign ⟨?_⟩
         refine k106 _ ?_
         refine zk ⟨?_⟩
         refine v_seq ?_; intro Q107 n107 e107 r107
         refine v_seqR [25,33,37,47,48,49,51,335,336,337,346] ?_; intro K108 k108
         refine zMove ⟨?_⟩
         refine zMove ⟨?_⟩
         refine zBinOp ⟨?_⟩
         refine k108 _ ?_
         refine zk ⟨?_⟩
         refine v_condS _ rfl ?_ ?_
         ·intro hc9
          refine v_region ?_; intro K110 k110
          refine zMove ⟨?_⟩
          refine zAssign ⟨?_⟩
          refine k110 _ ?_
          refine n107 _ _ (weak_keep [25, 33, 37, 47, 48, 49, 51, 335, 336, 337] _) ?_
          refine zk ⟨?_⟩
          refine v_seqR [25,33,37,47,48,49,51,335,336,337,350] ?_; intro K111 k111
          refine zMove ⟨?_⟩
          refine zMove ⟨?_⟩
          refine zBinOp ⟨?_⟩
          refine k111 _ ?_
          refine zk ⟨?_⟩
          refine v_condS _ rfl ?_ ?_
          ·intro hc10
           refine v_region ?_; intro K113 k113
           refine zMove ⟨?_⟩
           refine zAssign ⟨?_⟩
           refine k113 _ ?_
           refine n104 _ ?_
           refine n103 _ _ (weak_keep [25, 33, 37, 47, 48, 49, 335, 336, 337] _) ?_
           refine zk ⟨?_⟩
           refine v_region ?_; intro K114 k114
           refine zBinOpW ⟨?_⟩
           refine zMove ⟨?_⟩
           refine k114 _ ?_
           refine n99 _ (i + 1, sm + x, x, x) ?_ ?_ ?_
           ·refine weak_bothS [25, 33, 37, 47, 48, 49, 335, 336, 337] [0, 1] ⟨?_⟩
            rfl
           ·exact ⟨hlt, by show sm + x = _; rw [h1s, hsu], by show 0 ≤ sm + x ∧ sm + x ≤ 1000 * ((i + 1 : Nat) : Int); omega, by show leastL _ x = _; rw [← hlo, h2s, if_pos hc9], by show mostL _ x = _; rw [← hhi, h3s, if_pos hc10]⟩
           ·show _ < _; show (shiftsR u n).length - (i + 1) < (shiftsR u n).length - i; omega
          ·intro hc10
           refine v_skip ?_
           refine n104 _ ?_
           refine n103 _ _ (weak_keep [25, 33, 37, 47, 48, 49, 335, 336, 337] _) ?_
           refine zk ⟨?_⟩
           refine v_region ?_; intro K115 k115
           refine zBinOpW ⟨?_⟩
           refine zMove ⟨?_⟩
           refine k115 _ ?_
           refine n99 _ (i + 1, sm + x, x, hi) ?_ ?_ ?_
           ·refine weak_bothS [25, 33, 37, 47, 48, 49, 335, 336, 337] [0, 1] ⟨?_⟩
            rfl
           ·exact ⟨hlt, by show sm + x = _; rw [h1s, hsu], by show 0 ≤ sm + x ∧ sm + x ≤ 1000 * ((i + 1 : Nat) : Int); omega, by show leastL _ x = _; rw [← hlo, h2s, if_pos hc9], by show mostL _ hi = _; rw [← hhi, h3s, if_neg (by omega)]⟩
           ·show _ < _; show (shiftsR u n).length - (i + 1) < (shiftsR u n).length - i; omega
         ·intro hc9
          refine v_skip ?_
          refine n107 _ _ (weak_keep [25, 33, 37, 47, 48, 49, 51, 335, 336, 337] _) ?_
          refine zk ⟨?_⟩
          refine v_seqR [25,33,37,47,48,49,51,335,336,337,350] ?_; intro K116 k116
          refine zMove ⟨?_⟩
          refine zMove ⟨?_⟩
          refine zBinOp ⟨?_⟩
          refine k116 _ ?_
          refine zk ⟨?_⟩
          refine v_condS _ rfl ?_ ?_
          ·intro hc11
           refine v_region ?_; intro K118 k118
           refine zMove ⟨?_⟩
           refine zAssign ⟨?_⟩
           refine k118 _ ?_
           refine n104 _ ?_
           refine n103 _ _ (weak_keep [25, 33, 37, 47, 48, 49, 335, 336, 337] _) ?_
           refine zk ⟨?_⟩
           refine v_region ?_; intro K119 k119
           refine zBinOpW ⟨?_⟩
           refine zMove ⟨?_⟩
           refine k119 _ ?_
           refine n99 _ (i + 1, sm + x, lo, x) ?_ ?_ ?_
           ·refine weak_bothS [25, 33, 37, 47, 48, 49, 335, 336, 337] [0, 1] ⟨?_⟩
            rfl
           ·exact ⟨hlt, by show sm + x = _; rw [h1s, hsu], by show 0 ≤ sm + x ∧ sm + x ≤ 1000 * ((i + 1 : Nat) : Int); omega, by show leastL _ lo = _; rw [← hlo, h2s, if_neg (by omega)], by show mostL _ x = _; rw [← hhi, h3s, if_pos hc11]⟩
           ·show _ < _; show (shiftsR u n).length - (i + 1) < (shiftsR u n).length - i; omega
          ·intro hc11
           refine v_skip ?_
           refine n104 _ ?_
           refine n103 _ _ (weak_keep [25, 33, 37, 47, 48, 49, 335, 336, 337] _) ?_
           refine zk ⟨?_⟩
           refine v_region ?_; intro K120 k120
           refine zBinOpW ⟨?_⟩
           refine zMove ⟨?_⟩
           refine k120 _ ?_
           refine n99 _ (i + 1, sm + x, lo, hi) ?_ ?_ ?_
           ·refine weak_bothS [25, 33, 37, 47, 48, 49, 335, 336, 337] [0, 1] ⟨?_⟩
            rfl
           ·exact ⟨hlt, by show sm + x = _; rw [h1s, hsu], by show 0 ≤ sm + x ∧ sm + x ≤ 1000 * ((i + 1 : Nat) : Int); omega, by show leastL _ lo = _; rw [← hlo, h2s, if_neg (by omega)], by show mostL _ hi = _; rw [← hhi, h3s, if_neg (by omega)]⟩
           ·show _ < _; show (shiftsR u n).length - (i + 1) < (shiftsR u n).length - i; omega
        ·intro hc8
         have hie : i = (shiftsR u n).length := by omega
         have hsm : sm = u.flatten.length := by rw [hsu, hie, List.take_length, hsum]
         have hlo2 : lo = leastL (shiftsR u n) s0 := by rw [← hlo, least_end (by omega)]
         have hhi2 : hi = mostL (shiftsR u n) s0 := by rw [← hhi, most_end (by omega)]
         refine v_exit ?_
         refine e101 _ _ ?_
         refine e99 _ _ ?_
         refine x98 _ ?_
         refine n96 _ _ (weak_keep [25, 33, 37, 47, 48, 49] _) ?_
         refine zk ⟨?_⟩
         refine v_seqR [25,33,37,47,48,49,52] ?_; intro K121 k121
         refine zAssign ⟨?_⟩
         refine k121 _ ?_
         refine zk ⟨?_⟩
         refine v_seq ?_; intro Q122 n122 e122 r122
         refine v_seqR [25,33,37,47,48,49,52,353,354,355] ?_; intro K123 k123
         refine zMove ⟨?_⟩
         refine zLen ⟨?_⟩
         refine zMove ⟨?_⟩
         refine k123 _ ?_
         refine zk ⟨?_⟩
         refine v_block ?_; intro Q124 n124 x124 e124 r124
         refine v_loop (fun q => ⟨[(25, .ref 0), (33, .int .i64 (spreadV u n)), (37, .str (rTextR u n)), (47, .int .i64 sm), (48, .int .i64 lo), (49, .int .i64 hi), (52, .int .i64 (Nat.cast q.2)), (353, .ref 0), (354, .int .i64 u.length), (355, .int .i64 (Nat.cast q.1))], [.arr (u.map (fun l : List Int => V.sl (l.map (V.int .i64)))) (fillK kk2)], true, 383, 0⟩) (fun q => q.1 ≤ u.length ∧ q.2 = (u.take q.1).flatten.length ∧ q.2 ≤ 9 * q.1) (fun q => u.length - q.1) ((0, 0) : Nat × Nat) ?_ ?_ ?_
         ·refine weak_bothS [25, 33, 37, 47, 48, 49, 52, 353, 354, 355] [0] ⟨?_⟩
          rfl
         ·exact ⟨Nat.zero_le _, rfl, Nat.le_refl _⟩
         ·rintro ⟨k2, al⟩ hok125 Q125 n125 e125 r125
          obtain ⟨hk1b, hal, halb⟩ := hok125
          simp only [] at hk1b hal halb ⊢
          refine v_seqR [25,33,37,47,48,49,52,353,354,355,356] ?_; intro K126 k126
          refine zBinOp ⟨?_⟩
          refine k126 _ ?_
          refine zk ⟨?_⟩
          refine v_seq ?_; intro Q127 n127 e127 r127
          refine v_condS _ rfl ?_ ?_
          ·intro hc12
           have hltu : k2 < u.length := by omega
           obtain ⟨y, hy⟩ : ∃ y, u[k2]? = some y := ⟨u[k2], List.getElem?_eq_getElem hltu⟩
           have hyl := hux y (List.mem_of_getElem? hy)
           have hft := flat_take hy
           refine v_skip ?_
           refine n127 _ _ (weak_keep [25, 33, 37, 47, 48, 49, 52, 353, 354, 355] _) ?_
           refine zk ⟨?_⟩
           refine v_seq ?_; intro Q129 n129 e129 r129
           refine v_block ?_; intro Q130 n130 x130 e130 r130
           refine v_seqR [25,33,37,47,48,49,52,54,353,354,355] ?_; intro K131 k131
           have F := Fc.mk (And.intro nbeq (And.intro h3b (And.intro @decide_true (And.intro @Bool.not_true (And.intro @Bool.or_false (And.intro @Bool.false_or (And.intro @Bool.not_false (And.intro hth (And.intro @Bool.not_true (And.intro @Bool.not_false (And.intro (fun f => getD_map (f := f) hf0) (And.intro hfv (fun f => getD_map (f := f) hy)))))))))))))
           refine zIndexAddr ⟨?_⟩
           refine zLoad ⟨?_⟩
           refine zAssign ⟨?_⟩
           refine k131 _ ?_
           refine zk ⟨?_⟩
           refine v_region ?_; intro K132 k132
           refine zMove ⟨?_⟩
           refine zMove ⟨?_⟩
           refine zLen ⟨?_⟩
           refine zBinOpW ⟨?_⟩
           refine zAssign ⟨?_⟩
           refine k132 _ ?_
           refine n130 _ ?_
           refine n129 _ _ (weak_keep [25, 33, 37, 47, 48, 49, 52, 353, 354, 355] _) ?_
           refine zk ⟨?_⟩
           refine v_region ?_; intro K133 k133
           refine zBinOpW ⟨?_⟩
           refine zMove ⟨?_⟩
           refine k133 _ ?_
           refine n125 _ (k2 + 1, al + y.length) ?_ ?_ ?_
           ·refine weak_bothS [25, 33, 37, 47, 48, 49, 52, 353, 354, 355] [0] ⟨?_⟩
            rfl
           ·exact ⟨hltu, by show al + y.length = _; rw [hft, hal], by show al + y.length ≤ 9 * (k2 + 1); omega⟩
           ·show _ < _; show u.length - (k2 + 1) < u.length - k2; omega
          ·intro hc12
           have hke2 : k2 = u.length := by omega
           have hall2 : al = u.flatten.length := by rw [hal, hke2, List.take_length]
           refine v_exit ?_
           refine e127 _ _ ?_
           refine e125 _ _ ?_
           refine x124 _ ?_
           refine n122 _ _ (weak_keep [25, 33, 37, 47, 48, 49, 52] _) ?_
           refine zk ⟨?_⟩
           refine v_seqR [382] ?_; intro K134 k134
           refine zMove ⟨?_⟩
           refine zMove ⟨?_⟩
           refine zBinOp ⟨?_⟩
           refine zMove ⟨?_⟩
           refine zgMove ⟨?_⟩
           refine zgMove ⟨?_⟩
           refine zgBinOpW ⟨?_⟩
           refine zgMove ⟨?_⟩
           refine zgBinOp ⟨?_⟩
           refine zPick ⟨?_⟩
           refine zMove ⟨?_⟩
           refine zgMove ⟨?_⟩
           refine zgLen ⟨?_⟩
           refine zgMove ⟨?_⟩
           refine zgMove ⟨?_⟩
           refine zgLen ⟨?_⟩
           refine zgBinOpW ⟨?_⟩
           refine zgBinOp ⟨?_⟩
           refine zPick ⟨?_⟩
           refine k134 _ ?_
           refine zk ⟨?_⟩
           refine v_cond _ rfl ?_ ?_
           ·intro hc13
            exfalso; rw [hlo2, hhi2, hsm, hall2] at hc13
            rw [hsp] at hc13
            simp [htx] at hc13
           ·intro hc13
            try simp only [zC, reduceCtorEq] at hc13
            refine v_skip ?_
            refine n91 _ _ (weak_keep [] _) ?_
            refine zk ⟨?_⟩
            refine v_seqR [4] ?_; intro K136 k136
            refine zAssign ⟨?_⟩
            refine k136 _ ?_
            refine zk ⟨?_⟩
            refine v_ret ?_
            refine r0 _ ?_
            refine zf ⟨?_⟩
            exact ret_pure rfl rfl (by first | exact .inl rfl | exact .inr rfl)
      ·intro hc7
       refine v_skip ?_
       refine n91 _ _ (weak_keep [] _) ?_
       refine zk ⟨?_⟩
       refine v_seqR [4] ?_; intro K137 k137
       refine zAssign ⟨?_⟩
       refine k137 _ ?_
       refine zk ⟨?_⟩
       refine v_ret ?_
       refine r0 _ ?_
       refine zf ⟨?_⟩
       exact ret_pure rfl rfl (by first | exact .inl rfl | exact .inr rfl)
end Go.Proofs.YtbameklegpgkfaaDoor
