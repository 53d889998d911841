/- What functions compute. No condition. -/
import Derived.Test.YtmlicajgbgjphaaUty
import Derived.Test.YtmlicajgbgjphaaUmG
import Derived.Test.YtmlicajgbgjphaaX1
set_option linter.unusedSimpArgs false
set_option linter.unusedVariables false
set_option linter.defProp false
namespace Go.Proofs.Ytmlicajgbgjphaa
open Go Go.Vm

def minB (m : Int) : Bool := decide (0 ≤ m) && decide (m ≤ 99999)
def roomB (r : Int) : Bool := decide (1 ≤ r) && decide (r ≤ 2)
def leB (h u : Int) : Bool := (decide (0 ≤ h) && decide (h ≤ 2)) && minB u && (decide (0 < h) || decide (u = 0))
def reqB (a : (Int × Int × Int)) : Bool := minB a.1 && roomB a.2.1 && (decide (0 ≤ a.2.2) && decide (a.2.2 ≤ 3))
def heldB (h u r m sk : Int) : Bool := decide (h = r) && decide (m + sk < u)
def resL (h u : Int) : (Int × Int) × Bool := if leB h u = true then ((h, u), true) else ((0, 0), false)
def takeLe (h u r m sk ln : Int) : (Int × Int) × Bool := if h ≠ 0 ∧ h ≠ r ∧ m < u + sk then ((0, 0), false) else resL r (m + ln)
def renewLe (h u r m sk ln : Int) : (Int × Int) × Bool := if heldB h u r m sk = true then resL r (if m + ln > u then m + ln else u) else ((0, 0), false)
def ansN (h u : Int) (a : (Int × Int × Int)) (sk ln : Int) : (Int × Int) × Bool := if a.2.2 = 0 then takeLe h u a.2.1 a.1 sk ln else if a.2.2 = 1 then renewLe h u a.2.1 a.1 sk ln else if a.2.2 = 2 then ((0, 0), heldB h u a.2.1 a.1 sk) else ((h, u), heldB h u a.2.1 a.1 sk)
def ansL (h u : Int) (a : (Int × Int × Int)) (sk ln : Int) : (Int × Int) × Bool := if (ansN h u a sk ln).2 = true then ((ansN h u a sk ln).1, true) else ((h, u), false)
def parB (sk ln : Int) : Bool := (decide (0 ≤ sk) && decide (sk ≤ 10)) && (decide (1 ≤ ln) && decide (ln ≤ 600))
def askOk (h u : Int) (a : (Int × Int × Int)) (sk ln : Int) : Bool := leB h u && reqB a && parB sk ln
theorem le_bounds {h u : Int} (q : leB h u = true) : (0 ≤ h ∧ h ≤ 2) ∧ (0 ≤ u ∧ u ≤ 99999) := by
  simp only [leB, minB, Bool.and_eq_true, decide_eq_true_eq] at q
  omega
theorem req_bounds {a : (Int × Int × Int)} (q : reqB a = true) : (0 ≤ a.1 ∧ a.1 ≤ 99999) ∧ (1 ≤ a.2.1 ∧ a.2.1 ≤ 2) ∧ (0 ≤ a.2.2 ∧ a.2.2 ≤ 3) := by
  simp only [reqB, minB, roomB, Bool.and_eq_true, decide_eq_true_eq] at q
  omega
theorem par_bounds {sk ln : Int} (q : parB sk ln = true) : (0 ≤ sk ∧ sk ≤ 10) ∧ (1 ≤ ln ∧ ln ≤ 600) := by
  simpa [parB] using q
theorem leB_zero : leB 0 0 = true := by decide
theorem resL_ok (h u : Int) : leB (resL h u).1.1 (resL h u).1.2 = true := by
  unfold resL
  split
  · assumption
  · exact leB_zero
theorem ansL_ok {h u : Int} (a : (Int × Int × Int)) (sk ln : Int) (q : leB h u = true) : leB (ansL h u a sk ln).1.1 (ansL h u a sk ln).1.2 = true := by
  have hn : leB (ansN h u a sk ln).1.1 (ansN h u a sk ln).1.2 = true := by
    unfold ansN
    split
    · unfold takeLe; split
      · exact leB_zero
      · exact resL_ok _ _
    · split
      · unfold renewLe; split
        · exact resL_ok _ _
        · exact leB_zero
      · split
        · exact leB_zero
        · exact q
  unfold ansL
  split
  · exact hn
  · exact q

set_option maxHeartbeats 1000000 in
theorem isLogMinute_con (m : Int) : Con Try.prog 172 [.int .i64 m] [] (.bool (minB m)) [] := by
 refine v_con [.tmp 2] [] Try.func172 rfl rfl rfl (by simp [Try.ntmps172]) ?_
 intro Q0 n0 r0
 simp only [Try.ntmps172, envFrom, Nat.reduceAdd]
 have T := Tys.mk (And.intro Ty.t3 Ty.t4)
 have F := Fc.mk True.intro
 refine v_seqR [0] ?_; intro K1 k1
 refine zAssign ⟨?_⟩
 refine k1 _ ?_
 refine zk ⟨?_⟩
 refine v_seqR [2] ?_; intro K2 k2
 refine zMove ⟨?_⟩
 refine zc (inside_con _ _ _) ⟨?_⟩
 refine zAssign ⟨?_⟩
 refine k2 _ ?_
 refine zk ⟨?_⟩
 refine v_ret ?_
 refine r0 _ ?_
 refine zf ⟨?_⟩
 exact ret_pure rfl rfl (.inl rfl)
set_option maxHeartbeats 1000000 in
theorem leMinute_con (m : Int) : Con Try.prog 178 [.int .i64 m] [] (.bool (minB m)) [] := by
 refine v_con [.tmp 2] [] Try.func178 rfl rfl rfl (by simp [Try.ntmps178]) ?_
 intro Q0 n0 r0
 simp only [Try.ntmps178, envFrom, Nat.reduceAdd]
 have T := Tys.mk (And.intro Ty.t3 Ty.t4)
 have F := Fc.mk True.intro
 refine v_seqR [0] ?_; intro K1 k1
 refine zAssign ⟨?_⟩
 refine k1 _ ?_
 refine zk ⟨?_⟩
 refine v_seqR [2] ?_; intro K2 k2
 refine zMove ⟨?_⟩
 refine zc (l1In_con _ _ _) ⟨?_⟩
 refine zAssign ⟨?_⟩
 refine k2 _ ?_
 refine zk ⟨?_⟩
 refine v_ret ?_
 refine r0 _ ?_
 refine zf ⟨?_⟩
 exact ret_pure rfl rfl (.inl rfl)
set_option maxHeartbeats 1000000 in
theorem isRoom_con (r : Int) : Con Try.prog 173 [.int .i64 r] [] (.bool (roomB r)) [] := by
 refine v_con [.tmp 2] [] Try.func173 rfl rfl rfl (by simp [Try.ntmps173]) ?_
 intro Q0 n0 r0
 simp only [Try.ntmps173, envFrom, Nat.reduceAdd]
 have T := Tys.mk Ty.t3
 have F := Fc.mk True.intro
 refine v_seqR [0] ?_; intro K1 k1
 refine zAssign ⟨?_⟩
 refine k1 _ ?_
 refine zk ⟨?_⟩
 refine v_seqR [2] ?_; intro K2 k2
 refine zMove ⟨?_⟩
 refine zBinOp ⟨?_⟩
 refine zMove ⟨?_⟩
 refine zgMove ⟨?_⟩
 refine zgBinOp ⟨?_⟩
 refine zPick ⟨?_⟩
 refine zAssign ⟨?_⟩
 refine k2 _ ?_
 refine zk ⟨?_⟩
 refine v_ret ?_
 refine r0 _ ?_
 refine zf ⟨?_⟩
 exact ret_pure rfl (by congr 1; rw [roomB]; by_cases h1 : r = 1 <;> by_cases h2 : r = 2 <;> simp [h1, h2] <;> omega) (.inl rfl)
set_option maxHeartbeats 1000000 in
theorem leRoom_con (r : Int) : Con Try.prog 177 [.int .i64 r] [] (.bool (roomB r)) [] := by
 refine v_con [.tmp 2] [] Try.func177 rfl rfl rfl (by simp [Try.ntmps177]) ?_
 intro Q0 n0 r0
 simp only [Try.ntmps177, envFrom, Nat.reduceAdd]
 have T := Tys.mk (And.intro Ty.t3 Ty.t4)
 have F := Fc.mk True.intro
 refine v_seqR [0] ?_; intro K1 k1
 refine zAssign ⟨?_⟩
 refine k1 _ ?_
 refine zk ⟨?_⟩
 refine v_seqR [2] ?_; intro K2 k2
 refine zMove ⟨?_⟩
 refine zc (l1In_con _ _ _) ⟨?_⟩
 refine zAssign ⟨?_⟩
 refine k2 _ ?_
 refine zk ⟨?_⟩
 refine v_ret ?_
 refine r0 _ ?_
 refine zf ⟨?_⟩
 exact ret_pure rfl rfl (.inl rfl)
set_option maxHeartbeats 1000000 in
theorem isLease_con (h u : Int) : Con Try.prog 87 [.agg [.int .i64 h, .int .i64 u]] [] (.bool (leB h u)) [] := by
 refine v_con [.tmp 2] [] Try.func87 rfl rfl rfl (by simp [Try.ntmps87]) ?_
 intro Q0 n0 r0
 simp only [Try.ntmps87, envFrom, Nat.reduceAdd]
 have T := Tys.mk (And.intro Ty.t3 (And.intro Ty.t4 Ty.t24))
 have F := Fc.mk True.intro
 refine v_seqR [1] ?_; intro K1 k1
 refine zBox ⟨?_⟩
 refine zAssign ⟨?_⟩
 refine k1 _ ?_
 refine zk ⟨?_⟩
 refine v_seqR [2] ?_; intro K2 k2
 refine zFieldAddr ⟨?_⟩
 refine zLoad ⟨?_⟩
 refine zc (inside_con _ _ _) ⟨?_⟩
 refine zMove ⟨?_⟩
 refine zgFieldAddr ⟨?_⟩
 refine zgLoad ⟨?_⟩
 refine zgc (isLogMinute_con _) ⟨?_⟩
 refine zPick ⟨?_⟩
 refine zMove ⟨?_⟩
 refine zgFieldAddr ⟨?_⟩
 refine zgLoad ⟨?_⟩
 refine zgBinOp ⟨?_⟩
 refine zgMove ⟨?_⟩
 refine zgFieldAddr ⟨?_⟩
 refine zgLoad ⟨?_⟩
 refine zgBinOp ⟨?_⟩
 refine zgPick ⟨?_⟩
 refine zPick ⟨?_⟩
 refine zAssign ⟨?_⟩
 refine k2 _ ?_
 refine zk ⟨?_⟩
 refine v_ret ?_
 refine r0 _ ?_
 refine zf ⟨?_⟩
 exact ret_pure rfl (by first | rfl | (congr 1; simp only [leB]; cases decide (0 < h) <;> simp)) (.inl rfl)
set_option maxHeartbeats 1000000 in
theorem leGood_con (h u : Int) : Con Try.prog 170 [.agg [.int .i64 h, .int .i64 u]] [] (.bool (leB h u)) [] := by
 refine v_con [.tmp 2] [] Try.func170 rfl rfl rfl (by simp [Try.ntmps170]) ?_
 intro Q0 n0 r0
 simp only [Try.ntmps170, envFrom, Nat.reduceAdd]
 have T := Tys.mk (And.intro Ty.t3 (And.intro Ty.t4 Ty.t24))
 have F := Fc.mk True.intro
 refine v_seqR [1] ?_; intro K1 k1
 refine zBox ⟨?_⟩
 refine zAssign ⟨?_⟩
 refine k1 _ ?_
 refine zk ⟨?_⟩
 refine v_seq ?_; intro Q2 n2 e2 r2
 refine v_seqR [1,5] ?_; intro K3 k3
 refine zFieldAddr ⟨?_⟩
 refine zLoad ⟨?_⟩
 refine zBinOp ⟨?_⟩
 refine k3 _ ?_
 refine zk ⟨?_⟩
 refine v_condS _ rfl ?_ ?_
 ·intro hc0
  refine v_seqR [2] ?_; intro K5 k5
  refine zFieldAddr ⟨?_⟩
  refine zLoad ⟨?_⟩
  refine zBinOp ⟨?_⟩
  refine zAssign ⟨?_⟩
  refine k5 _ ?_
  refine zk ⟨?_⟩
  refine v_ret ?_
  refine r2 _ ?_
  refine r0 _ ?_
  refine zf ⟨?_⟩
  exact ret_pure rfl (by congr 1; simp only [leB, minB]; rw [show h = 0 from hc0]; by_cases q : u = 0 <;> simp [q]) (.inl rfl)
 ·intro hc0
  refine v_skip ?_
  refine n2 _ _ (weak_keep [1] _) ?_
  refine zk ⟨?_⟩
  refine v_seqR [2] ?_; intro K6 k6
  refine zFieldAddr ⟨?_⟩
  refine zLoad ⟨?_⟩
  refine zc (leRoom_con _) ⟨?_⟩
  refine zMove ⟨?_⟩
  refine zgFieldAddr ⟨?_⟩
  refine zgLoad ⟨?_⟩
  refine zgc (leMinute_con _) ⟨?_⟩
  refine zPick ⟨?_⟩
  refine zAssign ⟨?_⟩
  refine k6 _ ?_
  refine zk ⟨?_⟩
  refine v_ret ?_
  refine r0 _ ?_
  refine zf ⟨?_⟩
  exact ret_pure rfl (by congr 1; apply Bool.eq_iff_iff.2; simp only [leB, minB, roomB, Bool.and_eq_true, Bool.or_eq_true, decide_eq_true_eq]; omega) (.inl rfl)
set_option maxHeartbeats 1000000 in
theorem isAsk_con (x0 : Int) (x1 : Int) (x2 : Int) : Con Try.prog 88 [.agg [V.int .i64 x0, V.int .i64 x1, V.int .i64 x2]] [] (.bool (reqB (x0, x1, x2))) [] := by
 refine v_con [.tmp 2] [] Try.func88 rfl rfl rfl (by simp [Try.ntmps88]) ?_
 intro Q0 n0 r0
 simp only [Try.ntmps88, envFrom, Nat.reduceAdd]
 have T := Tys.mk (And.intro Ty.t3 (And.intro Ty.t4 Ty.t35))
 have F := Fc.mk True.intro
 refine v_seqR [1] ?_; intro K1 k1
 refine zBox ⟨?_⟩
 refine zAssign ⟨?_⟩
 refine k1 _ ?_
 refine zk ⟨?_⟩
 refine v_seqR [2] ?_; intro K2 k2
 refine zFieldAddr ⟨?_⟩
 refine zLoad ⟨?_⟩
 refine zc (isLogMinute_con _) ⟨?_⟩
 refine zMove ⟨?_⟩
 refine zgFieldAddr ⟨?_⟩
 refine zgLoad ⟨?_⟩
 refine zgc (isRoom_con _) ⟨?_⟩
 refine zPick ⟨?_⟩
 refine zMove ⟨?_⟩
 refine zgFieldAddr ⟨?_⟩
 refine zgLoad ⟨?_⟩
 refine zgc (inside_con _ _ _) ⟨?_⟩
 refine zPick ⟨?_⟩
 refine zAssign ⟨?_⟩
 refine k2 _ ?_
 refine zk ⟨?_⟩
 refine v_ret ?_
 refine r0 _ ?_
 refine zf ⟨?_⟩
 exact ret_pure rfl (by first | rfl | simp [reqB, Bool.and_assoc]) (.inl rfl)
set_option maxHeartbeats 1000000 in
theorem maySend_con (h u r m sk : Int) (hm : 0 ≤ m ∧ m ≤ 99999) (hsk : 0 ≤ sk ∧ sk ≤ 10) : Con Try.prog 174 [.agg [.int .i64 h, .int .i64 u], .int .i64 r, .int .i64 m, .int .i64 sk] [] (.bool (heldB h u r m sk)) [] := by
 refine v_con [.tmp 8] [] Try.func174 rfl rfl rfl (by simp [Try.ntmps174]) ?_
 intro Q0 n0 r0
 simp only [Try.ntmps174, envFrom, Nat.reduceAdd]
 have T := Tys.mk (And.intro Ty.t3 Ty.t24)
 have F := Fc.mk True.intro
 refine v_seqR [1,2,3,4] ?_; intro K1 k1
 refine zBox ⟨?_⟩
 refine zAssign ⟨?_⟩
 refine k1 _ ?_
 refine zk ⟨?_⟩
 refine v_seqR [8] ?_; intro K2 k2
 refine zFieldAddr ⟨?_⟩
 refine zLoad ⟨?_⟩
 refine zMove ⟨?_⟩
 refine zBinOp ⟨?_⟩
 refine zMove ⟨?_⟩
 refine zgMove ⟨?_⟩
 refine zgMove ⟨?_⟩
 refine zgBinOpW ⟨?_⟩
 refine zgFieldAddr ⟨?_⟩
 refine zgLoad ⟨?_⟩
 refine zgBinOp ⟨?_⟩
 refine zPick ⟨?_⟩
 refine zAssign ⟨?_⟩
 refine k2 _ ?_
 refine zk ⟨?_⟩
 refine v_ret ?_
 refine r0 _ ?_
 refine zf ⟨?_⟩
 exact ret_pure rfl (by first | rfl | simp [heldB]) (.inl rfl)
set_option maxHeartbeats 1000000 in
theorem leHeld_con (h u r m sk : Int) (hm : 0 ≤ m ∧ m ≤ 99999) (hsk : 0 ≤ sk ∧ sk ≤ 10) : Con Try.prog 181 [.agg [.int .i64 h, .int .i64 u], .int .i64 r, .int .i64 m, .int .i64 sk] [] (.bool (heldB h u r m sk)) [] := by
 refine v_con [.tmp 8] [] Try.func181 rfl rfl rfl (by simp [Try.ntmps181]) ?_
 intro Q0 n0 r0
 simp only [Try.ntmps181, envFrom, Nat.reduceAdd]
 have T := Tys.mk (And.intro Ty.t3 Ty.t24)
 have F := Fc.mk True.intro
 refine v_seqR [1,2,3,4] ?_; intro K1 k1
 refine zBox ⟨?_⟩
 refine zAssign ⟨?_⟩
 refine k1 _ ?_
 refine zk ⟨?_⟩
 refine v_seqR [8] ?_; intro K2 k2
 refine zFieldAddr ⟨?_⟩
 refine zLoad ⟨?_⟩
 refine zMove ⟨?_⟩
 refine zBinOp ⟨?_⟩
 refine zMove ⟨?_⟩
 refine zgMove ⟨?_⟩
 refine zgMove ⟨?_⟩
 refine zgBinOpW ⟨?_⟩
 refine zgFieldAddr ⟨?_⟩
 refine zgLoad ⟨?_⟩
 refine zgBinOp ⟨?_⟩
 refine zPick ⟨?_⟩
 refine zAssign ⟨?_⟩
 refine k2 _ ?_
 refine zk ⟨?_⟩
 refine v_ret ?_
 refine r0 _ ?_
 refine zf ⟨?_⟩
 exact ret_pure rfl (by first | rfl | simp [heldB]) (.inl rfl)
set_option maxHeartbeats 1000000 in
theorem leOver_con (h u m sk : Int) (hu : 0 ≤ u ∧ u ≤ 99999) (hsk : 0 ≤ sk ∧ sk ≤ 10) : Con Try.prog 233 [.agg [.int .i64 h, .int .i64 u], .int .i64 m, .int .i64 sk] [] (.bool (decide (u + sk ≤ m))) [] := by
 refine v_con [.tmp 6] [] Try.func233 rfl rfl rfl (by simp [Try.ntmps233]) ?_
 intro Q0 n0 r0
 simp only [Try.ntmps233, envFrom, Nat.reduceAdd]
 have T := Tys.mk (And.intro Ty.t3 Ty.t24)
 have F := Fc.mk True.intro
 refine v_seqR [1,2,3] ?_; intro K1 k1
 refine zBox ⟨?_⟩
 refine zAssign ⟨?_⟩
 refine k1 _ ?_
 refine zk ⟨?_⟩
 refine v_seqR [6] ?_; intro K2 k2
 refine zMove ⟨?_⟩
 refine zFieldAddr ⟨?_⟩
 refine zLoad ⟨?_⟩
 refine zMove ⟨?_⟩
 refine zBinOpW ⟨?_⟩
 refine zBinOp ⟨?_⟩
 refine zAssign ⟨?_⟩
 refine k2 _ ?_
 refine zk ⟨?_⟩
 refine v_ret ?_
 refine r0 _ ?_
 refine zf ⟨?_⟩
 exact ret_pure rfl rfl (.inl rfl)
set_option maxHeartbeats 1000000 in
theorem leaseResult_con (h u : Int) : Con Try.prog 232 [.agg [.int .i64 h, .int .i64 u]] [] (.tup [.agg [.int .i64 (resL h u).1.1, .int .i64 (resL h u).1.2], .bool (resL h u).2]) [] := by
 refine v_con [.cell 2 24, .tmp 3] [] Try.func232 rfl rfl rfl (by simp [Try.ntmps232]) ?_
 intro Q0 n0 r0
 simp only [Try.ntmps232, envFrom, Nat.reduceAdd]
 have T := Tys.mk (And.intro Ty.t3 (And.intro Ty.t4 Ty.t24))
 have F := Fc.mk True.intro
 refine v_seqR [1,2] ?_; intro K1 k1
 refine zBox ⟨?_⟩
 refine zAlloc ⟨?_⟩
 refine zAssign ⟨?_⟩
 refine k1 _ ?_
 refine zk ⟨?_⟩
 refine v_seq ?_; intro Q2 n2 e2 r2
 refine v_seqR [1,2,6] ?_; intro K3 k3
 refine zLoad ⟨?_⟩
 refine zc (isLease_con h u) ⟨?_⟩
 refine zUnOp ⟨?_⟩
 refine k3 _ ?_
 refine zk ⟨?_⟩
 refine v_condS _ rfl ?_ ?_
 ·intro hc0
  refine v_seqR [2,3] ?_; intro K5 k5
  refine zBuild ⟨?_⟩
  refine zStore ⟨?_⟩
  refine zAssign ⟨?_⟩
  refine k5 _ ?_
  refine zk ⟨?_⟩
  refine v_ret ?_
  refine r2 _ ?_
  refine r0 _ ?_
  refine zf ⟨?_⟩
  simp only [zE, zL, zO, zN, aStepM, optable, set_some, Nat.reduceEqDiff, reduceIte, Nat.reduceLT, implies_true, forall_const, reduceCtorEq, V.ofValue, V.ofScalar, V.un, V.gd, aLoad, row_mk, Blk.row, PartOK, Go.Vm.part, V.cells, V.noSl, V.noRef, Nat.reduceAdd, Nat.reduceLeDiff, Nat.reduceMul, Try.underlying3, Ty.c3, Ty.a3, Try.underlying24, Ty.c24, Ty.a24]
  rw [show resL h u = ((0, 0), false) by rw [resL, hc0]; rfl]
  exact ret_pure rfl rfl (.inl rfl)
 ·intro hc0
  refine v_skip ?_
  refine n2 _ _ (weak_keep [1, 2] _) ?_
  refine zk ⟨?_⟩
  refine v_seqR [2,3] ?_; intro K6 k6
  refine zLoad ⟨?_⟩
  refine zStore ⟨?_⟩
  refine zAssign ⟨?_⟩
  refine k6 _ ?_
  refine zk ⟨?_⟩
  refine v_ret ?_
  refine r0 _ ?_
  refine zf ⟨?_⟩
  simp only [zE, zL, zO, zN, aStepM, optable, set_some, Nat.reduceEqDiff, reduceIte, Nat.reduceLT, implies_true, forall_const, reduceCtorEq, V.ofValue, V.ofScalar, V.un, V.gd, aLoad, row_mk, Blk.row, PartOK, Go.Vm.part, V.cells, V.noSl, V.noRef, Nat.reduceAdd, Nat.reduceLeDiff, Nat.reduceMul, Try.underlying3, Ty.c3, Ty.a3, Try.underlying24, Ty.c24, Ty.a24]
  rw [show resL h u = ((h, u), true) by rw [resL, hc0]; rfl]
  exact ret_pure rfl rfl (.inl rfl)
set_option maxHeartbeats 1000000 in
theorem leIf_con (h u : Int) : Con Try.prog 234 [.agg [.int .i64 h, .int .i64 u]] [] (.tup [.agg [.int .i64 (resL h u).1.1, .int .i64 (resL h u).1.2], .bool (resL h u).2]) [] := by
 refine v_con [.cell 2 24, .tmp 3] [] Try.func234 rfl rfl rfl (by simp [Try.ntmps234]) ?_
 intro Q0 n0 r0
 simp only [Try.ntmps234, envFrom, Nat.reduceAdd]
 have T := Tys.mk (And.intro Ty.t3 (And.intro Ty.t4 Ty.t24))
 have F := Fc.mk True.intro
 refine v_seqR [1,2] ?_; intro K1 k1
 refine zBox ⟨?_⟩
 refine zAlloc ⟨?_⟩
 refine zAssign ⟨?_⟩
 refine k1 _ ?_
 refine zk ⟨?_⟩
 refine v_seq ?_; intro Q2 n2 e2 r2
 refine v_seqR [1,2,6] ?_; intro K3 k3
 refine zLoad ⟨?_⟩
 refine zc (leGood_con h u) ⟨?_⟩
 refine zUnOp ⟨?_⟩
 refine k3 _ ?_
 refine zk ⟨?_⟩
 refine v_condS _ rfl ?_ ?_
 ·intro hc0
  refine v_seqR [2,3] ?_; intro K5 k5
  refine zBuild ⟨?_⟩
  refine zStore ⟨?_⟩
  refine zAssign ⟨?_⟩
  refine k5 _ ?_
  refine zk ⟨?_⟩
  refine v_ret ?_
  refine r2 _ ?_
  refine r0 _ ?_
  refine zf ⟨?_⟩
  simp only [zE, zL, zO, zN, aStepM, optable, set_some, Nat.reduceEqDiff, reduceIte, Nat.reduceLT, implies_true, forall_const, reduceCtorEq, V.ofValue, V.ofScalar, V.un, V.gd, aLoad, row_mk, Blk.row, PartOK, Go.Vm.part, V.cells, V.noSl, V.noRef, Nat.reduceAdd, Nat.reduceLeDiff, Nat.reduceMul, Try.underlying3, Ty.c3, Ty.a3, Try.underlying24, Ty.c24, Ty.a24]
  rw [show resL h u = ((0, 0), false) by rw [resL, hc0]; rfl]
  exact ret_pure rfl rfl (.inl rfl)
 ·intro hc0
  refine v_skip ?_
  refine n2 _ _ (weak_keep [1, 2] _) ?_
  refine zk ⟨?_⟩
  refine v_seqR [2,3] ?_; intro K6 k6
  refine zLoad ⟨?_⟩
  refine zStore ⟨?_⟩
  refine zAssign ⟨?_⟩
  refine k6 _ ?_
  refine zk ⟨?_⟩
  refine v_ret ?_
  refine r0 _ ?_
  refine zf ⟨?_⟩
  simp only [zE, zL, zO, zN, aStepM, optable, set_some, Nat.reduceEqDiff, reduceIte, Nat.reduceLT, implies_true, forall_const, reduceCtorEq, V.ofValue, V.ofScalar, V.un, V.gd, aLoad, row_mk, Blk.row, PartOK, Go.Vm.part, V.cells, V.noSl, V.noRef, Nat.reduceAdd, Nat.reduceLeDiff, Nat.reduceMul, Try.underlying3, Ty.c3, Ty.a3, Try.underlying24, Ty.c24, Ty.a24]
  rw [show resL h u = ((h, u), true) by rw [resL, hc0]; rfl]
  exact ret_pure rfl rfl (.inl rfl)
set_option maxHeartbeats 1000000 in
theorem takeLease_con (h u r m sk ln : Int) (hu : 0 ≤ u ∧ u ≤ 99999) (hm : 0 ≤ m ∧ m ≤ 99999) (hsk : 0 ≤ sk ∧ sk ≤ 10) (hln : 1 ≤ ln ∧ ln ≤ 600) : Con Try.prog 175 [.agg [.int .i64 h, .int .i64 u], .int .i64 r, .int .i64 m, .int .i64 sk, .int .i64 ln] [] (.tup [.agg [.int .i64 (takeLe h u r m sk ln).1.1, .int .i64 (takeLe h u r m sk ln).1.2], .bool (takeLe h u r m sk ln).2]) [] := by
 refine v_con [.cell 10 24, .tmp 11] [] Try.func175 rfl rfl rfl (by simp [Try.ntmps175]) ?_
 intro Q0 n0 r0
 simp only [Try.ntmps175, envFrom, Nat.reduceAdd]
 have T := Tys.mk (And.intro Ty.t3 Ty.t24)
 have F := Fc.mk True.intro
 refine v_seqR [1,2,3,4,5,10] ?_; intro K1 k1
 refine zBox ⟨?_⟩
 refine zAlloc ⟨?_⟩
 refine zAssign ⟨?_⟩
 refine k1 _ ?_
 refine zk ⟨?_⟩
 refine v_seq ?_; intro Q2 n2 e2 r2
 refine v_seqR [1,2,4,10,28] ?_; intro K3 k3
 refine zFieldAddr ⟨?_⟩
 refine zLoad ⟨?_⟩
 refine zBinOp ⟨?_⟩
 refine zMove ⟨?_⟩
 refine zgFieldAddr ⟨?_⟩
 refine zgLoad ⟨?_⟩
 refine zgMove ⟨?_⟩
 refine zgBinOp ⟨?_⟩
 refine zPick ⟨?_⟩
 refine zMove ⟨?_⟩
 refine zgMove ⟨?_⟩
 refine zgFieldAddr ⟨?_⟩
 refine zgLoad ⟨?_⟩
 refine zgMove ⟨?_⟩
 refine zgBinOpW ⟨?_⟩
 refine zgBinOp ⟨?_⟩
 refine zPick ⟨?_⟩
 refine k3 _ ?_
 refine zk ⟨?_⟩
 refine v_condS _ rfl ?_ ?_
 ·intro hc0
  refine v_seqR [10,11] ?_; intro K5 k5
  refine zBuild ⟨?_⟩
  refine zStore ⟨?_⟩
  refine zAssign ⟨?_⟩
  refine k5 _ ?_
  refine zk ⟨?_⟩
  refine v_ret ?_
  refine r2 _ ?_
  refine r0 _ ?_
  refine zf ⟨?_⟩
  simp only [zE, zL, zO, zN, aStepM, optable, set_some, Nat.reduceEqDiff, reduceIte, Nat.reduceLT, implies_true, forall_const, reduceCtorEq, V.ofValue, V.ofScalar, V.un, V.gd, aLoad, row_mk, Blk.row, PartOK, Go.Vm.part, V.cells, V.noSl, V.noRef, Nat.reduceAdd, Nat.reduceLeDiff, Nat.reduceMul, Try.underlying3, Ty.c3, Ty.a3, Try.underlying24, Ty.c24, Ty.a24]
  have hT : takeLe h u r m sk ln = ((0, 0), false) := by rw [takeLe, if_pos (by first | omega | (simp at hc0; omega))]
  rw [hT]
  exact ret_pure rfl rfl (.inl rfl)
 ·intro hc0
  refine v_skip ?_
  refine n2 _ _ (weak_keep [1, 2, 4, 10] _) ?_
  refine zk ⟨?_⟩
  refine v_seqR [10,11] ?_; intro K6 k6
  refine zMove ⟨?_⟩
  refine zMove ⟨?_⟩
  refine zMove ⟨?_⟩
  refine zBinOpW ⟨?_⟩
  refine zBuild ⟨?_⟩
  refine zc (leaseResult_con r (m + ln)) ⟨?_⟩
  refine zExtract ⟨?_⟩
  refine zExtract ⟨?_⟩
  refine zStore ⟨?_⟩
  refine zAssign ⟨?_⟩
  refine k6 _ ?_
  refine zk ⟨?_⟩
  refine v_ret ?_
  refine r0 _ ?_
  refine zf ⟨?_⟩
  simp only [zE, zL, zO, zN, aStepM, optable, set_some, Nat.reduceEqDiff, reduceIte, Nat.reduceLT, implies_true, forall_const, reduceCtorEq, V.ofValue, V.ofScalar, V.un, V.gd, aLoad, row_mk, Blk.row, PartOK, Go.Vm.part, V.cells, V.noSl, V.noRef, Nat.reduceAdd, Nat.reduceLeDiff, Nat.reduceMul, Try.underlying3, Ty.c3, Ty.a3, Try.underlying24, Ty.c24, Ty.a24]
  have hT : takeLe h u r m sk ln = resL r (m + ln) := by rw [takeLe, if_neg (by first | omega | (simp at hc0; omega) | (intro q; simp_all; omega))]
  rw [hT]
  exact ret_pure rfl rfl (.inl rfl)
set_option maxHeartbeats 1000000 in
theorem leTake_con (h u r m sk ln : Int) (hu : 0 ≤ u ∧ u ≤ 99999) (hm : 0 ≤ m ∧ m ≤ 99999) (hsk : 0 ≤ sk ∧ sk ≤ 10) (hln : 1 ≤ ln ∧ ln ≤ 600) : Con Try.prog 179 [.agg [.int .i64 h, .int .i64 u], .int .i64 r, .int .i64 m, .int .i64 sk, .int .i64 ln] [] (.tup [.agg [.int .i64 (takeLe h u r m sk ln).1.1, .int .i64 (takeLe h u r m sk ln).1.2], .bool (takeLe h u r m sk ln).2]) [] := by
 refine v_con [.cell 10 24, .tmp 11] [] Try.func179 rfl rfl rfl (by simp [Try.ntmps179]) ?_
 intro Q0 n0 r0
 simp only [Try.ntmps179, envFrom, Nat.reduceAdd]
 have T := Tys.mk (And.intro Ty.t3 (And.intro Ty.t4 Ty.t24))
 have F := Fc.mk True.intro
 refine v_seqR [1,2,3,4,5,10] ?_; intro K1 k1
 refine zBox ⟨?_⟩
 refine zAlloc ⟨?_⟩
 refine zAssign ⟨?_⟩
 refine k1 _ ?_
 refine zk ⟨?_⟩
 refine v_seq ?_; intro Q2 n2 e2 r2
 refine v_seqR [1,2,4,10,27] ?_; intro K3 k3
 refine zFieldAddr ⟨?_⟩
 refine zLoad ⟨?_⟩
 refine zBinOp ⟨?_⟩
 refine zMove ⟨?_⟩
 refine zgFieldAddr ⟨?_⟩
 refine zgLoad ⟨?_⟩
 refine zgMove ⟨?_⟩
 refine zgBinOp ⟨?_⟩
 refine zPick ⟨?_⟩
 refine zMove ⟨?_⟩
 refine zgLoad ⟨?_⟩
 refine zgMove ⟨?_⟩
 refine zgMove ⟨?_⟩
 refine zgc (leOver_con h u m sk hu hsk) ⟨?_⟩
 refine zgUnOp ⟨?_⟩
 refine zPick ⟨?_⟩
 refine k3 _ ?_
 refine zk ⟨?_⟩
 refine v_condS _ rfl ?_ ?_
 ·intro hc0
  refine v_seqR [10,11] ?_; intro K5 k5
  refine zBuild ⟨?_⟩
  refine zStore ⟨?_⟩
  refine zAssign ⟨?_⟩
  refine k5 _ ?_
  refine zk ⟨?_⟩
  refine v_ret ?_
  refine r2 _ ?_
  refine r0 _ ?_
  refine zf ⟨?_⟩
  simp only [zE, zL, zO, zN, aStepM, optable, set_some, Nat.reduceEqDiff, reduceIte, Nat.reduceLT, implies_true, forall_const, reduceCtorEq, V.ofValue, V.ofScalar, V.un, V.gd, aLoad, row_mk, Blk.row, PartOK, Go.Vm.part, V.cells, V.noSl, V.noRef, Nat.reduceAdd, Nat.reduceLeDiff, Nat.reduceMul, Try.underlying3, Ty.c3, Ty.a3, Try.underlying24, Ty.c24, Ty.a24]
  have hT : takeLe h u r m sk ln = ((0, 0), false) := by rw [takeLe, if_pos (by first | omega | (simp at hc0; omega))]
  rw [hT]
  exact ret_pure rfl rfl (.inl rfl)
 ·intro hc0
  refine v_skip ?_
  refine n2 _ _ (weak_keep [1, 2, 4, 10] _) ?_
  refine zk ⟨?_⟩
  refine v_seqR [10,11] ?_; intro K6 k6
  refine zMove ⟨?_⟩
  refine zMove ⟨?_⟩
  refine zMove ⟨?_⟩
  refine zBinOpW ⟨?_⟩
  refine zBuild ⟨?_⟩
  refine zc (leIf_con r (m + ln)) ⟨?_⟩
  refine zExtract ⟨?_⟩
  refine zExtract ⟨?_⟩
  refine zStore ⟨?_⟩
  refine zAssign ⟨?_⟩
  refine k6 _ ?_
  refine zk ⟨?_⟩
  refine v_ret ?_
  refine r0 _ ?_
  refine zf ⟨?_⟩
  simp only [zE, zL, zO, zN, aStepM, optable, set_some, Nat.reduceEqDiff, reduceIte, Nat.reduceLT, implies_true, forall_const, reduceCtorEq, V.ofValue, V.ofScalar, V.un, V.gd, aLoad, row_mk, Blk.row, PartOK, Go.Vm.part, V.cells, V.noSl, V.noRef, Nat.reduceAdd, Nat.reduceLeDiff, Nat.reduceMul, Try.underlying3, Ty.c3, Ty.a3, Try.underlying24, Ty.c24, Ty.a24]
  have hT : takeLe h u r m sk ln = resL r (m + ln) := by rw [takeLe, if_neg (by first | omega | (simp at hc0; omega) | (intro q; simp_all; omega))]
  rw [hT]
  exact ret_pure rfl rfl (.inl rfl)
set_option maxHeartbeats 1000000 in
theorem renewLease_con (h u r m sk ln : Int) (hu : 0 ≤ u ∧ u ≤ 99999) (hm : 0 ≤ m ∧ m ≤ 99999) (hsk : 0 ≤ sk ∧ sk ≤ 10) (hln : 1 ≤ ln ∧ ln ≤ 600) : Con Try.prog 176 [.agg [.int .i64 h, .int .i64 u], .int .i64 r, .int .i64 m, .int .i64 sk, .int .i64 ln] [] (.tup [.agg [.int .i64 (renewLe h u r m sk ln).1.1, .int .i64 (renewLe h u r m sk ln).1.2], .bool (renewLe h u r m sk ln).2]) [] := by
 refine v_con [.cell 10 24, .tmp 11] [] Try.func176 rfl rfl rfl (by simp [Try.ntmps176]) ?_
 intro Q0 n0 r0
 simp only [Try.ntmps176, envFrom, Nat.reduceAdd]
 have T := Tys.mk (And.intro Ty.t3 (And.intro Ty.t4 Ty.t24))
 have F := Fc.mk True.intro
 refine v_seqR [1,2,3,4,5,10] ?_; intro K1 k1
 refine zBox ⟨?_⟩
 refine zAlloc ⟨?_⟩
 refine zAssign ⟨?_⟩
 refine k1 _ ?_
 refine zk ⟨?_⟩
 refine v_seq ?_; intro Q2 n2 e2 r2
 refine v_seqR [1,2,4,5,10,17] ?_; intro K3 k3
 refine zLoad ⟨?_⟩
 refine zMove ⟨?_⟩
 refine zMove ⟨?_⟩
 refine zMove ⟨?_⟩
 refine zc (maySend_con h u r m sk hm hsk) ⟨?_⟩
 refine zUnOp ⟨?_⟩
 refine k3 _ ?_
 refine zk ⟨?_⟩
 refine v_condS _ rfl ?_ ?_
 ·intro hc0
  refine v_seqR [10,11] ?_; intro K5 k5
  refine zBuild ⟨?_⟩
  refine zStore ⟨?_⟩
  refine zAssign ⟨?_⟩
  refine k5 _ ?_
  refine zk ⟨?_⟩
  refine v_ret ?_
  refine r2 _ ?_
  refine r0 _ ?_
  refine zf ⟨?_⟩
  simp only [zE, zL, zO, zN, aStepM, optable, set_some, Nat.reduceEqDiff, reduceIte, Nat.reduceLT, implies_true, forall_const, reduceCtorEq, V.ofValue, V.ofScalar, V.un, V.gd, aLoad, row_mk, Blk.row, PartOK, Go.Vm.part, V.cells, V.noSl, V.noRef, Nat.reduceAdd, Nat.reduceLeDiff, Nat.reduceMul, Try.underlying3, Ty.c3, Ty.a3, Try.underlying24, Ty.c24, Ty.a24]
  have hT : renewLe h u r m sk ln = ((0, 0), false) := by rw [renewLe, hc0]; rfl
  rw [hT]
  exact ret_pure rfl rfl (.inl rfl)
 ·intro hc0
  refine v_skip ?_
  refine n2 _ _ (weak_keep [1, 2, 4, 5, 10] _) ?_
  refine zk ⟨?_⟩
  refine v_seqR [10,11] ?_; intro K6 k6
  refine zMove ⟨?_⟩
  refine zFieldAddr ⟨?_⟩
  refine zLoad ⟨?_⟩
  refine zMove ⟨?_⟩
  refine zMove ⟨?_⟩
  refine zBinOpW ⟨?_⟩
  refine zMax ⟨?_⟩
  refine zBuild ⟨?_⟩
  refine zc (leaseResult_con r (if m + ln > u then m + ln else u)) ⟨?_⟩
  refine zExtract ⟨?_⟩
  refine zExtract ⟨?_⟩
  refine zStore ⟨?_⟩
  refine zAssign ⟨?_⟩
  refine k6 _ ?_
  refine zk ⟨?_⟩
  refine v_ret ?_
  refine r0 _ ?_
  refine zf ⟨?_⟩
  simp only [zE, zL, zO, zN, aStepM, optable, set_some, Nat.reduceEqDiff, reduceIte, Nat.reduceLT, implies_true, forall_const, reduceCtorEq, V.ofValue, V.ofScalar, V.un, V.gd, aLoad, row_mk, Blk.row, PartOK, Go.Vm.part, V.cells, V.noSl, V.noRef, Nat.reduceAdd, Nat.reduceLeDiff, Nat.reduceMul, Try.underlying3, Ty.c3, Ty.a3, Try.underlying24, Ty.c24, Ty.a24]
  have hT : renewLe h u r m sk ln = resL r (if m + ln > u then m + ln else u) := by rw [renewLe, hc0]; rfl
  rw [hT]
  exact ret_pure rfl rfl (.inl rfl)
set_option maxHeartbeats 1000000 in
theorem leRenew_con (h u r m sk ln : Int) (hu : 0 ≤ u ∧ u ≤ 99999) (hm : 0 ≤ m ∧ m ≤ 99999) (hsk : 0 ≤ sk ∧ sk ≤ 10) (hln : 1 ≤ ln ∧ ln ≤ 600) : Con Try.prog 180 [.agg [.int .i64 h, .int .i64 u], .int .i64 r, .int .i64 m, .int .i64 sk, .int .i64 ln] [] (.tup [.agg [.int .i64 (renewLe h u r m sk ln).1.1, .int .i64 (renewLe h u r m sk ln).1.2], .bool (renewLe h u r m sk ln).2]) [] := by
 refine v_con [.cell 10 24, .tmp 11] [] Try.func180 rfl rfl rfl (by simp [Try.ntmps180]) ?_
 intro Q0 n0 r0
 simp only [Try.ntmps180, envFrom, Nat.reduceAdd]
 have T := Tys.mk (And.intro Ty.t3 (And.intro Ty.t4 Ty.t24))
 have F := Fc.mk True.intro
 refine v_seqR [1,2,3,4,5,10] ?_; intro K1 k1
 refine zBox ⟨?_⟩
 refine zAlloc ⟨?_⟩
 refine zAssign ⟨?_⟩
 refine k1 _ ?_
 refine zk ⟨?_⟩
 refine v_seq ?_; intro Q2 n2 e2 r2
 refine v_seqR [1,2,4,5,10,17] ?_; intro K3 k3
 refine zLoad ⟨?_⟩
 refine zMove ⟨?_⟩
 refine zMove ⟨?_⟩
 refine zMove ⟨?_⟩
 refine zc (leHeld_con h u r m sk hm hsk) ⟨?_⟩
 refine zUnOp ⟨?_⟩
 refine k3 _ ?_
 refine zk ⟨?_⟩
 refine v_condS _ rfl ?_ ?_
 ·intro hc0
  refine v_seqR [10,11] ?_; intro K5 k5
  refine zBuild ⟨?_⟩
  refine zStore ⟨?_⟩
  refine zAssign ⟨?_⟩
  refine k5 _ ?_
  refine zk ⟨?_⟩
  refine v_ret ?_
  refine r2 _ ?_
  refine r0 _ ?_
  refine zf ⟨?_⟩
  simp only [zE, zL, zO, zN, aStepM, optable, set_some, Nat.reduceEqDiff, reduceIte, Nat.reduceLT, implies_true, forall_const, reduceCtorEq, V.ofValue, V.ofScalar, V.un, V.gd, aLoad, row_mk, Blk.row, PartOK, Go.Vm.part, V.cells, V.noSl, V.noRef, Nat.reduceAdd, Nat.reduceLeDiff, Nat.reduceMul, Try.underlying3, Ty.c3, Ty.a3, Try.underlying24, Ty.c24, Ty.a24]
  have hT : renewLe h u r m sk ln = ((0, 0), false) := by rw [renewLe, hc0]; rfl
  rw [hT]
  exact ret_pure rfl rfl (.inl rfl)
 ·intro hc0
  refine v_skip ?_
  refine n2 _ _ (weak_keep [1, 2, 4, 5, 10] _) ?_
  refine zk ⟨?_⟩
  refine v_seqR [10,11] ?_; intro K6 k6
  refine zMove ⟨?_⟩
  refine zFieldAddr ⟨?_⟩
  refine zLoad ⟨?_⟩
  refine zMove ⟨?_⟩
  refine zMove ⟨?_⟩
  refine zBinOpW ⟨?_⟩
  refine zc (l1Most_con u (m + ln)) ⟨?_⟩
  refine zBuild ⟨?_⟩
  refine zc (leIf_con r (if m + ln > u then m + ln else u)) ⟨?_⟩
  refine zExtract ⟨?_⟩
  refine zExtract ⟨?_⟩
  refine zStore ⟨?_⟩
  refine zAssign ⟨?_⟩
  refine k6 _ ?_
  refine zk ⟨?_⟩
  refine v_ret ?_
  refine r0 _ ?_
  refine zf ⟨?_⟩
  simp only [zE, zL, zO, zN, aStepM, optable, set_some, Nat.reduceEqDiff, reduceIte, Nat.reduceLT, implies_true, forall_const, reduceCtorEq, V.ofValue, V.ofScalar, V.un, V.gd, aLoad, row_mk, Blk.row, PartOK, Go.Vm.part, V.cells, V.noSl, V.noRef, Nat.reduceAdd, Nat.reduceLeDiff, Nat.reduceMul, Try.underlying3, Ty.c3, Ty.a3, Try.underlying24, Ty.c24, Ty.a24]
  have hT : renewLe h u r m sk ln = resL r (if m + ln > u then m + ln else u) := by rw [renewLe, hc0]; rfl
  rw [hT]
  exact ret_pure rfl rfl (.inl rfl)
set_option maxHeartbeats 1000000 in
theorem answer_con (h u : Int) (x0 : Int) (x1 : Int) (x2 : Int) (sk ln : Int) (hu : 0 ≤ u ∧ u ≤ 99999) (hm : 0 ≤ x0 ∧ x0 ≤ 99999) (hsk : 0 ≤ sk ∧ sk ≤ 10) (hln : 1 ≤ ln ∧ ln ≤ 600) : Con Try.prog 90 [.agg [.int .i64 h, .int .i64 u], .agg [V.int .i64 x0, V.int .i64 x1, V.int .i64 x2], .int .i64 sk, .int .i64 ln] [] (.tup [.agg [.int .i64 (ansL h u (x0, x1, x2) sk ln).1.1, .int .i64 (ansL h u (x0, x1, x2) sk ln).1.2], .bool (ansL h u (x0, x1, x2) sk ln).2]) [] := by
 refine v_con [.cell 8 24, .tmp 9] [] Try.func90 rfl rfl rfl (by simp [Try.ntmps90]) ?_
 intro Q0 n0 r0
 simp only [Try.ntmps90, envFrom, Nat.reduceAdd]
 have T := Tys.mk (And.intro Ty.t3 (And.intro Ty.t4 (And.intro Ty.t24 Ty.t35)))
 have F := Fc.mk True.intro
 refine v_seqR [2,3,4,5,8] ?_; intro K1 k1
 refine zBox ⟨?_⟩
 refine zBox ⟨?_⟩
 refine zAlloc ⟨?_⟩
 refine zAssign ⟨?_⟩
 refine k1 _ ?_
 refine zk ⟨?_⟩
 refine v_seq ?_; intro Q2 n2 e2 r2
 refine v_draw (by kernel_rfl) ?_; intro K3 q3 k3
 show aAny _ _ _ _ 11 (Array.replicate 11 false) _
 refine zdLoad q3 true 0 12 ?_
 refine zdLoad q3 true 1 13 ?_
 refine zdFieldAddr q3 true 2 14 ?_
 refine zdLoad q3 true 3 15 ?_
 refine zdFieldAddr q3 true 4 16 ?_
 refine zdLoad q3 true 5 17 ?_
 refine zdMove q3 true 6 18 ?_
 refine aAny_two 7 8 rfl rfl (by kernel_rfl) ?_ ?_
 ·refine zsc (maySend_con h u x1 x0 sk hm hsk) ⟨?_⟩
  refine zoAlloc 8 ⟨?_⟩
  refine zoStore 9 ⟨?_⟩
  refine zoAssign 10 ⟨?_⟩
  refine aAny_done (by kernel_rfl) ?_
  refine k3 _ ?_
  refine n2 _ _ (weak_keep [2, 3, 4, 5, 8, 10, 11] _) ?_
  refine zk ⟨?_⟩
  refine v_seq ?_; intro Q4 n4 e4 r4
  refine v_seqR [2,3,4,5,8,10,11,21] ?_; intro K5 k5
  refine zFieldAddr ⟨?_⟩
  refine zLoad ⟨?_⟩
  refine k5 _ ?_
  refine zk ⟨?_⟩
  refine v_block ?_; intro Q6 n6 x6 e6 r6
  refine v_seqR [2,3,4,5,8,10,11,21,22] ?_; intro K7 k7
  refine zBinOp ⟨?_⟩
  refine zAssign ⟨?_⟩
  refine k7 _ ?_
  refine zk ⟨?_⟩
  refine v_condS _ rfl ?_ ?_
  ·intro hc0
   refine v_region ?_; intro K9 k9
   refine zLoad ⟨?_⟩
   refine zFieldAddr ⟨?_⟩
   refine zLoad ⟨?_⟩
   refine zFieldAddr ⟨?_⟩
   refine zLoad ⟨?_⟩
   refine zMove ⟨?_⟩
   refine zMove ⟨?_⟩
   refine zc (takeLease_con h u x1 x0 sk ln hu hm hsk hln) ⟨?_⟩
   refine zMove ⟨?_⟩
   refine zExtract ⟨?_⟩
   refine zExtract ⟨?_⟩
   refine zStore ⟨?_⟩
   refine zAssign ⟨?_⟩
   refine k9 _ ?_
   refine n6 _ ?_
   refine n4 _ _ (weak_keep [4, 8, 10, 11] _) ?_
   refine zk ⟨?_⟩
   refine v_seq ?_; intro Q10 n10 e10 r10
   refine v_seqR [4,8,10,52] ?_; intro K11 k11
   refine zMove ⟨?_⟩
   refine zUnOp ⟨?_⟩
   refine k11 _ ?_
   refine zk ⟨?_⟩
   refine v_condS _ rfl ?_ ?_
   ·intro hc1
    refine v_seqR [8,9] ?_; intro K13 k13
    refine zLoad ⟨?_⟩
    refine zStore ⟨?_⟩
    refine zAssign ⟨?_⟩
    refine k13 _ ?_
    refine zk ⟨?_⟩
    refine v_ret ?_
    refine r10 _ ?_
    refine r0 _ ?_
    refine zf ⟨?_⟩
    simp only [zE, zL, zO, zN, aStepM, optable, set_some, Nat.reduceEqDiff, reduceIte, Nat.reduceLT, implies_true, forall_const, reduceCtorEq, V.ofValue, V.ofScalar, V.un, V.gd, aLoad, row_mk, Blk.row, PartOK, Go.Vm.part, V.cells, V.noSl, V.noRef, Nat.reduceAdd, Nat.reduceLeDiff, Nat.reduceMul, Try.underlying3, Ty.c3, Ty.a3, Try.underlying24, Ty.c24, Ty.a24]
    have hN : ansN h u (x0, x1, x2) sk ln = takeLe h u x1 x0 sk ln := by simp only [ansN]; rw [if_pos hc0]
    have hA : ansL h u (x0, x1, x2) sk ln = ((h, u), false) := by rw [ansL, hN]; simp [hc1]
    rw [hA]
    exact ret_pure rfl rfl (.inl rfl)
   ·intro hc1
    refine v_skip ?_
    refine n10 _ _ (weak_keep [8, 10] _) ?_
    refine zk ⟨?_⟩
    refine v_seqR [8,9] ?_; intro K14 k14
    refine zLoad ⟨?_⟩
    refine zStore ⟨?_⟩
    refine zAssign ⟨?_⟩
    refine k14 _ ?_
    refine zk ⟨?_⟩
    refine v_ret ?_
    refine r0 _ ?_
    refine zf ⟨?_⟩
    simp only [zE, zL, zO, zN, aStepM, optable, set_some, Nat.reduceEqDiff, reduceIte, Nat.reduceLT, implies_true, forall_const, reduceCtorEq, V.ofValue, V.ofScalar, V.un, V.gd, aLoad, row_mk, Blk.row, PartOK, Go.Vm.part, V.cells, V.noSl, V.noRef, Nat.reduceAdd, Nat.reduceLeDiff, Nat.reduceMul, Try.underlying3, Ty.c3, Ty.a3, Try.underlying24, Ty.c24, Ty.a24]
    have hN : ansN h u (x0, x1, x2) sk ln = takeLe h u x1 x0 sk ln := by simp only [ansN]; rw [if_pos hc0]
    have hA : ansL h u (x0, x1, x2) sk ln = ((takeLe h u x1 x0 sk ln).1, true) := by rw [ansL, hN]; simp [hc1]
    rw [hA]
    exact ret_pure rfl rfl (.inl rfl)
  ·intro hc0
   refine v_seqR [2,3,4,5,8,10,11,21,35] ?_; intro K15 k15
   refine zBinOp ⟨?_⟩
   refine zAssign ⟨?_⟩
   refine k15 _ ?_
   refine zk ⟨?_⟩
   refine v_condS _ rfl ?_ ?_
   ·intro hc2
    refine v_region ?_; intro K17 k17
    refine zLoad ⟨?_⟩
    refine zFieldAddr ⟨?_⟩
    refine zLoad ⟨?_⟩
    refine zFieldAddr ⟨?_⟩
    refine zLoad ⟨?_⟩
    refine zMove ⟨?_⟩
    refine zMove ⟨?_⟩
    refine zc (renewLease_con h u x1 x0 sk ln hu hm hsk hln) ⟨?_⟩
    refine zMove ⟨?_⟩
    refine zExtract ⟨?_⟩
    refine zExtract ⟨?_⟩
    refine zStore ⟨?_⟩
    refine zAssign ⟨?_⟩
    refine k17 _ ?_
    refine n6 _ ?_
    refine n4 _ _ (weak_keep [4, 8, 10, 11] _) ?_
    refine zk ⟨?_⟩
    refine v_seq ?_; intro Q18 n18 e18 r18
    refine v_seqR [4,8,10,52] ?_; intro K19 k19
    refine zMove ⟨?_⟩
    refine zUnOp ⟨?_⟩
    refine k19 _ ?_
    refine zk ⟨?_⟩
    refine v_condS _ rfl ?_ ?_
    ·intro hc3
     refine v_seqR [8,9] ?_; intro K21 k21
     refine zLoad ⟨?_⟩
     refine zStore ⟨?_⟩
     refine zAssign ⟨?_⟩
     refine k21 _ ?_
     refine zk ⟨?_⟩
     refine v_ret ?_
     refine r18 _ ?_
     refine r0 _ ?_
     refine zf ⟨?_⟩
     simp only [zE, zL, zO, zN, aStepM, optable, set_some, Nat.reduceEqDiff, reduceIte, Nat.reduceLT, implies_true, forall_const, reduceCtorEq, V.ofValue, V.ofScalar, V.un, V.gd, aLoad, row_mk, Blk.row, PartOK, Go.Vm.part, V.cells, V.noSl, V.noRef, Nat.reduceAdd, Nat.reduceLeDiff, Nat.reduceMul, Try.underlying3, Ty.c3, Ty.a3, Try.underlying24, Ty.c24, Ty.a24]
     have hN : ansN h u (x0, x1, x2) sk ln = renewLe h u x1 x0 sk ln := by simp only [ansN]; rw [if_neg hc0, if_pos hc2]
     have hA : ansL h u (x0, x1, x2) sk ln = ((h, u), false) := by rw [ansL, hN]; simp [hc3]
     rw [hA]
     exact ret_pure rfl rfl (.inl rfl)
    ·intro hc3
     refine v_skip ?_
     refine n18 _ _ (weak_keep [8, 10] _) ?_
     refine zk ⟨?_⟩
     refine v_seqR [8,9] ?_; intro K22 k22
     refine zLoad ⟨?_⟩
     refine zStore ⟨?_⟩
     refine zAssign ⟨?_⟩
     refine k22 _ ?_
     refine zk ⟨?_⟩
     refine v_ret ?_
     refine r0 _ ?_
     refine zf ⟨?_⟩
     simp only [zE, zL, zO, zN, aStepM, optable, set_some, Nat.reduceEqDiff, reduceIte, Nat.reduceLT, implies_true, forall_const, reduceCtorEq, V.ofValue, V.ofScalar, V.un, V.gd, aLoad, row_mk, Blk.row, PartOK, Go.Vm.part, V.cells, V.noSl, V.noRef, Nat.reduceAdd, Nat.reduceLeDiff, Nat.reduceMul, Try.underlying3, Ty.c3, Ty.a3, Try.underlying24, Ty.c24, Ty.a24]
     have hN : ansN h u (x0, x1, x2) sk ln = renewLe h u x1 x0 sk ln := by simp only [ansN]; rw [if_neg hc0, if_pos hc2]
     have hA : ansL h u (x0, x1, x2) sk ln = ((renewLe h u x1 x0 sk ln).1, true) := by rw [ansL, hN]; simp [hc3]
     rw [hA]
     exact ret_pure rfl rfl (.inl rfl)
   ·intro hc2
    refine v_seqR [4,8,10,11,48] ?_; intro K23 k23
    refine zBinOp ⟨?_⟩
    refine zAssign ⟨?_⟩
    refine k23 _ ?_
    refine zk ⟨?_⟩
    refine v_condS _ rfl ?_ ?_
    ·intro hc4
     refine v_region ?_; intro K25 k25
     refine zBuild ⟨?_⟩
     refine zStore ⟨?_⟩
     refine k25 _ ?_
     refine n6 _ ?_
     refine n4 _ _ (weak_keep [4, 8, 10, 11] _) ?_
     refine zk ⟨?_⟩
     refine v_seq ?_; intro Q26 n26 e26 r26
     refine v_seqR [4,8,10,52] ?_; intro K27 k27
     refine zMove ⟨?_⟩
     refine zUnOp ⟨?_⟩
     refine k27 _ ?_
     refine zk ⟨?_⟩
     refine v_condS _ rfl ?_ ?_
     ·intro hc5
      refine v_seqR [8,9] ?_; intro K29 k29
      refine zLoad ⟨?_⟩
      refine zStore ⟨?_⟩
      refine zAssign ⟨?_⟩
      refine k29 _ ?_
      refine zk ⟨?_⟩
      refine v_ret ?_
      refine r26 _ ?_
      refine r0 _ ?_
      refine zf ⟨?_⟩
      simp only [zE, zL, zO, zN, aStepM, optable, set_some, Nat.reduceEqDiff, reduceIte, Nat.reduceLT, implies_true, forall_const, reduceCtorEq, V.ofValue, V.ofScalar, V.un, V.gd, aLoad, row_mk, Blk.row, PartOK, Go.Vm.part, V.cells, V.noSl, V.noRef, Nat.reduceAdd, Nat.reduceLeDiff, Nat.reduceMul, Try.underlying3, Ty.c3, Ty.a3, Try.underlying24, Ty.c24, Ty.a24]
      have hN : ansN h u (x0, x1, x2) sk ln = ((0, 0), heldB h u x1 x0 sk) := by simp only [ansN]; rw [if_neg hc0, if_neg hc2, if_pos hc4]
      have hA : ansL h u (x0, x1, x2) sk ln = ((h, u), false) := by rw [ansL, hN]; simp [hc5]
      rw [hA]
      exact ret_pure rfl rfl (.inl rfl)
     ·intro hc5
      refine v_skip ?_
      refine n26 _ _ (weak_keep [8, 10] _) ?_
      refine zk ⟨?_⟩
      refine v_seqR [8,9] ?_; intro K30 k30
      refine zLoad ⟨?_⟩
      refine zStore ⟨?_⟩
      refine zAssign ⟨?_⟩
      refine k30 _ ?_
      refine zk ⟨?_⟩
      refine v_ret ?_
      refine r0 _ ?_
      refine zf ⟨?_⟩
      simp only [zE, zL, zO, zN, aStepM, optable, set_some, Nat.reduceEqDiff, reduceIte, Nat.reduceLT, implies_true, forall_const, reduceCtorEq, V.ofValue, V.ofScalar, V.un, V.gd, aLoad, row_mk, Blk.row, PartOK, Go.Vm.part, V.cells, V.noSl, V.noRef, Nat.reduceAdd, Nat.reduceLeDiff, Nat.reduceMul, Try.underlying3, Ty.c3, Ty.a3, Try.underlying24, Ty.c24, Ty.a24]
      have hN : ansN h u (x0, x1, x2) sk ln = ((0, 0), heldB h u x1 x0 sk) := by simp only [ansN]; rw [if_neg hc0, if_neg hc2, if_pos hc4]
      have hA : ansL h u (x0, x1, x2) sk ln = ((((0, 0), heldB h u x1 x0 sk)).1, true) := by rw [ansL, hN]; simp [hc5]
      rw [hA]
      exact ret_pure rfl rfl (.inl rfl)
    ·intro hc4
     refine v_skip ?_
     refine n6 _ ?_
     refine n4 _ _ (weak_keep [4, 8, 10, 11] _) ?_
     refine zk ⟨?_⟩
     refine v_seq ?_; intro Q31 n31 e31 r31
     refine v_seqR [4,8,10,52] ?_; intro K32 k32
     refine zMove ⟨?_⟩
     refine zUnOp ⟨?_⟩
     refine k32 _ ?_
     refine zk ⟨?_⟩
     refine v_condS _ rfl ?_ ?_
     ·intro hc6
      refine v_seqR [8,9] ?_; intro K34 k34
      refine zLoad ⟨?_⟩
      refine zStore ⟨?_⟩
      refine zAssign ⟨?_⟩
      refine k34 _ ?_
      refine zk ⟨?_⟩
      refine v_ret ?_
      refine r31 _ ?_
      refine r0 _ ?_
      refine zf ⟨?_⟩
      simp only [zE, zL, zO, zN, aStepM, optable, set_some, Nat.reduceEqDiff, reduceIte, Nat.reduceLT, implies_true, forall_const, reduceCtorEq, V.ofValue, V.ofScalar, V.un, V.gd, aLoad, row_mk, Blk.row, PartOK, Go.Vm.part, V.cells, V.noSl, V.noRef, Nat.reduceAdd, Nat.reduceLeDiff, Nat.reduceMul, Try.underlying3, Ty.c3, Ty.a3, Try.underlying24, Ty.c24, Ty.a24]
      have hN : ansN h u (x0, x1, x2) sk ln = ((h, u), heldB h u x1 x0 sk) := by simp only [ansN]; rw [if_neg hc0, if_neg hc2, if_neg hc4]
      have hA : ansL h u (x0, x1, x2) sk ln = ((h, u), false) := by rw [ansL, hN]; simp [hc6]
      rw [hA]
      exact ret_pure rfl rfl (.inl rfl)
     ·intro hc6
      refine v_skip ?_
      refine n31 _ _ (weak_keep [8, 10] _) ?_
      refine zk ⟨?_⟩
      refine v_seqR [8,9] ?_; intro K35 k35
      refine zLoad ⟨?_⟩
      refine zStore ⟨?_⟩
      refine zAssign ⟨?_⟩
      refine k35 _ ?_
      refine zk ⟨?_⟩
      refine v_ret ?_
      refine r0 _ ?_
      refine zf ⟨?_⟩
      simp only [zE, zL, zO, zN, aStepM, optable, set_some, Nat.reduceEqDiff, reduceIte, Nat.reduceLT, implies_true, forall_const, reduceCtorEq, V.ofValue, V.ofScalar, V.un, V.gd, aLoad, row_mk, Blk.row, PartOK, Go.Vm.part, V.cells, V.noSl, V.noRef, Nat.reduceAdd, Nat.reduceLeDiff, Nat.reduceMul, Try.underlying3, Ty.c3, Ty.a3, Try.underlying24, Ty.c24, Ty.a24]
      have hN : ansN h u (x0, x1, x2) sk ln = ((h, u), heldB h u x1 x0 sk) := by simp only [ansN]; rw [if_neg hc0, if_neg hc2, if_neg hc4]
      have hA : ansL h u (x0, x1, x2) sk ln = ((((h, u), heldB h u x1 x0 sk)).1, true) := by rw [ansL, hN]; simp [hc6]
      rw [hA]
      exact ret_pure rfl rfl (.inl rfl)
 ·refine zsAlloc ⟨?_⟩
  refine zoc 7 (maySend_con h u x1 x0 sk hm hsk) ⟨?_⟩
  refine zoStore 9 ⟨?_⟩
  refine zoAssign 10 ⟨?_⟩
  refine aAny_done (by kernel_rfl) ?_
  refine k3 _ ?_
  refine n2 _ _ (weak_keep [2, 3, 4, 5, 8, 10, 11] _) ?_
  refine zk ⟨?_⟩
  refine v_seq ?_; intro Q36 n36 e36 r36
  refine v_seqR [2,3,4,5,8,10,11,21] ?_; intro K37 k37
  refine zFieldAddr ⟨?_⟩
  refine zLoad ⟨?_⟩
  refine k37 _ ?_
  refine zk ⟨?_⟩
  refine v_block ?_; intro Q38 n38 x38 e38 r38
  refine v_seqR [2,3,4,5,8,10,11,21,22] ?_; intro K39 k39
  refine zBinOp ⟨?_⟩
  refine zAssign ⟨?_⟩
  refine k39 _ ?_
  refine zk ⟨?_⟩
  refine v_condS _ rfl ?_ ?_
  ·intro hc0
   refine v_region ?_; intro K41 k41
   refine zLoad ⟨?_⟩
   refine zFieldAddr ⟨?_⟩
   refine zLoad ⟨?_⟩
   refine zFieldAddr ⟨?_⟩
   refine zLoad ⟨?_⟩
   refine zMove ⟨?_⟩
   refine zMove ⟨?_⟩
   refine zc (takeLease_con h u x1 x0 sk ln hu hm hsk hln) ⟨?_⟩
   refine zMove ⟨?_⟩
   refine zExtract ⟨?_⟩
   refine zExtract ⟨?_⟩
   refine zStore ⟨?_⟩
   refine zAssign ⟨?_⟩
   refine k41 _ ?_
   refine n38 _ ?_
   refine n36 _ _ (weak_keep [4, 8, 10, 11] _) ?_
   refine zk ⟨?_⟩
   refine v_seq ?_; intro Q42 n42 e42 r42
   refine v_seqR [4,8,10,52] ?_; intro K43 k43
   refine zMove ⟨?_⟩
   refine zUnOp ⟨?_⟩
   refine k43 _ ?_
   refine zk ⟨?_⟩
   refine v_condS _ rfl ?_ ?_
   ·intro hc1
    refine v_seqR [8,9] ?_; intro K45 k45
    refine zLoad ⟨?_⟩
    refine zStore ⟨?_⟩
    refine zAssign ⟨?_⟩
    refine k45 _ ?_
    refine zk ⟨?_⟩
    refine v_ret ?_
    refine r42 _ ?_
    refine r0 _ ?_
    refine zf ⟨?_⟩
    simp only [zE, zL, zO, zN, aStepM, optable, set_some, Nat.reduceEqDiff, reduceIte, Nat.reduceLT, implies_true, forall_const, reduceCtorEq, V.ofValue, V.ofScalar, V.un, V.gd, aLoad, row_mk, Blk.row, PartOK, Go.Vm.part, V.cells, V.noSl, V.noRef, Nat.reduceAdd, Nat.reduceLeDiff, Nat.reduceMul, Try.underlying3, Ty.c3, Ty.a3, Try.underlying24, Ty.c24, Ty.a24]
    have hN : ansN h u (x0, x1, x2) sk ln = takeLe h u x1 x0 sk ln := by simp only [ansN]; rw [if_pos hc0]
    have hA : ansL h u (x0, x1, x2) sk ln = ((h, u), false) := by rw [ansL, hN]; simp [hc1]
    rw [hA]
    exact ret_pure rfl rfl (.inl rfl)
   ·intro hc1
    refine v_skip ?_
    refine n42 _ _ (weak_keep [8, 10] _) ?_
    refine zk ⟨?_⟩
    refine v_seqR [8,9] ?_; intro K46 k46
    refine zLoad ⟨?_⟩
    refine zStore ⟨?_⟩
    refine zAssign ⟨?_⟩
    refine k46 _ ?_
    refine zk ⟨?_⟩
    refine v_ret ?_
    refine r0 _ ?_
    refine zf ⟨?_⟩
    simp only [zE, zL, zO, zN, aStepM, optable, set_some, Nat.reduceEqDiff, reduceIte, Nat.reduceLT, implies_true, forall_const, reduceCtorEq, V.ofValue, V.ofScalar, V.un, V.gd, aLoad, row_mk, Blk.row, PartOK, Go.Vm.part, V.cells, V.noSl, V.noRef, Nat.reduceAdd, Nat.reduceLeDiff, Nat.reduceMul, Try.underlying3, Ty.c3, Ty.a3, Try.underlying24, Ty.c24, Ty.a24]
    have hN : ansN h u (x0, x1, x2) sk ln = takeLe h u x1 x0 sk ln := by simp only [ansN]; rw [if_pos hc0]
    have hA : ansL h u (x0, x1, x2) sk ln = ((takeLe h u x1 x0 sk ln).1, true) := by rw [ansL, hN]; simp [hc1]
    rw [hA]
    exact ret_pure rfl rfl (.inl rfl)
  ·intro hc0
   refine v_seqR [2,3,4,5,8,10,11,21,35] ?_; intro K47 k47
   refine zBinOp ⟨?_⟩
   refine zAssign ⟨?_⟩
   refine k47 _ ?_
   refine zk ⟨?_⟩
   refine v_condS _ rfl ?_ ?_
   ·intro hc2
    refine v_region ?_; intro K49 k49
    refine zLoad ⟨?_⟩
    refine zFieldAddr ⟨?_⟩
    refine zLoad ⟨?_⟩
    refine zFieldAddr ⟨?_⟩
    refine zLoad ⟨?_⟩
    refine zMove ⟨?_⟩
    refine zMove ⟨?_⟩
    refine zc (renewLease_con h u x1 x0 sk ln hu hm hsk hln) ⟨?_⟩
    refine zMove ⟨?_⟩
    refine zExtract ⟨?_⟩
    refine zExtract ⟨?_⟩
    refine zStore ⟨?_⟩
    refine zAssign ⟨?_⟩
    refine k49 _ ?_
    refine n38 _ ?_
    refine n36 _ _ (weak_keep [4, 8, 10, 11] _) ?_
    refine zk ⟨?_⟩
    refine v_seq ?_; intro Q50 n50 e50 r50
    refine v_seqR [4,8,10,52] ?_; intro K51 k51
    refine zMove ⟨?_⟩
    refine zUnOp ⟨?_⟩
    refine k51 _ ?_
    refine zk ⟨?_⟩
    refine v_condS _ rfl ?_ ?_
    ·intro hc3
     refine v_seqR [8,9] ?_; intro K53 k53
     refine zLoad ⟨?_⟩
     refine zStore ⟨?_⟩
     refine zAssign ⟨?_⟩
     refine k53 _ ?_
     refine zk ⟨?_⟩
     refine v_ret ?_
     refine r50 _ ?_
     refine r0 _ ?_
     refine zf ⟨?_⟩
     simp only [zE, zL, zO, zN, aStepM, optable, set_some, Nat.reduceEqDiff, reduceIte, Nat.reduceLT, implies_true, forall_const, reduceCtorEq, V.ofValue, V.ofScalar, V.un, V.gd, aLoad, row_mk, Blk.row, PartOK, Go.Vm.part, V.cells, V.noSl, V.noRef, Nat.reduceAdd, Nat.reduceLeDiff, Nat.reduceMul, Try.underlying3, Ty.c3, Ty.a3, Try.underlying24, Ty.c24, Ty.a24]
     have hN : ansN h u (x0, x1, x2) sk ln = renewLe h u x1 x0 sk ln := by simp only [ansN]; rw [if_neg hc0, if_pos hc2]
     have hA : ansL h u (x0, x1, x2) sk ln = ((h, u), false) := by rw [ansL, hN]; simp [hc3]
     rw [hA]
     exact ret_pure rfl rfl (.inl rfl)
    ·intro hc3
     refine v_skip ?_
     refine n50 _ _ (weak_keep [8, 10] _) ?_
     refine zk ⟨?_⟩
     refine v_seqR [8,9] ?_; intro K54 k54
     refine zLoad ⟨?_⟩
     refine zStore ⟨?_⟩
     refine zAssign ⟨?_⟩
     refine k54 _ ?_
     refine zk ⟨?_⟩
     refine v_ret ?_
     refine r0 _ ?_
     refine zf ⟨?_⟩
     simp only [zE, zL, zO, zN, aStepM, optable, set_some, Nat.reduceEqDiff, reduceIte, Nat.reduceLT, implies_true, forall_const, reduceCtorEq, V.ofValue, V.ofScalar, V.un, V.gd, aLoad, row_mk, Blk.row, PartOK, Go.Vm.part, V.cells, V.noSl, V.noRef, Nat.reduceAdd, Nat.reduceLeDiff, Nat.reduceMul, Try.underlying3, Ty.c3, Ty.a3, Try.underlying24, Ty.c24, Ty.a24]
     have hN : ansN h u (x0, x1, x2) sk ln = renewLe h u x1 x0 sk ln := by simp only [ansN]; rw [if_neg hc0, if_pos hc2]
     have hA : ansL h u (x0, x1, x2) sk ln = ((renewLe h u x1 x0 sk ln).1, true) := by rw [ansL, hN]; simp [hc3]
     rw [hA]
     exact ret_pure rfl rfl (.inl rfl)
   ·intro hc2
    refine v_seqR [4,8,10,11,48] ?_; intro K55 k55
    refine zBinOp ⟨?_⟩
    refine zAssign ⟨?_⟩
    refine k55 _ ?_
    refine zk ⟨?_⟩
    refine v_condS _ rfl ?_ ?_
    ·intro hc4
     refine v_region ?_; intro K57 k57
     refine zBuild ⟨?_⟩
     refine zStore ⟨?_⟩
     refine k57 _ ?_
     refine n38 _ ?_
     refine n36 _ _ (weak_keep [4, 8, 10, 11] _) ?_
     refine zk ⟨?_⟩
     refine v_seq ?_; intro Q58 n58 e58 r58
     refine v_seqR [4,8,10,52] ?_; intro K59 k59
     refine zMove ⟨?_⟩
     refine zUnOp ⟨?_⟩
     refine k59 _ ?_
     refine zk ⟨?_⟩
     refine v_condS _ rfl ?_ ?_
     ·intro hc5
      refine v_seqR [8,9] ?_; intro K61 k61
      refine zLoad ⟨?_⟩
      refine zStore ⟨?_⟩
      refine zAssign ⟨?_⟩
      refine k61 _ ?_
      refine zk ⟨?_⟩
      refine v_ret ?_
      refine r58 _ ?_
      refine r0 _ ?_
      refine zf ⟨?_⟩
      simp only [zE, zL, zO, zN, aStepM, optable, set_some, Nat.reduceEqDiff, reduceIte, Nat.reduceLT, implies_true, forall_const, reduceCtorEq, V.ofValue, V.ofScalar, V.un, V.gd, aLoad, row_mk, Blk.row, PartOK, Go.Vm.part, V.cells, V.noSl, V.noRef, Nat.reduceAdd, Nat.reduceLeDiff, Nat.reduceMul, Try.underlying3, Ty.c3, Ty.a3, Try.underlying24, Ty.c24, Ty.a24]
      have hN : ansN h u (x0, x1, x2) sk ln = ((0, 0), heldB h u x1 x0 sk) := by simp only [ansN]; rw [if_neg hc0, if_neg hc2, if_pos hc4]
      have hA : ansL h u (x0, x1, x2) sk ln = ((h, u), false) := by rw [ansL, hN]; simp [hc5]
      rw [hA]
      exact ret_pure rfl rfl (.inl rfl)
     ·intro hc5
      refine v_skip ?_
      refine n58 _ _ (weak_keep [8, 10] _) ?_
      refine zk ⟨?_⟩
      refine v_seqR [8,9] ?_; intro K62 k62
      refine zLoad ⟨?_⟩
      refine zStore ⟨?_⟩
      refine zAssign ⟨?_⟩
      refine k62 _ ?_
      refine zk ⟨?_⟩
      refine v_ret ?_
      refine r0 _ ?_
      refine zf ⟨?_⟩
      simp only [zE, zL, zO, zN, aStepM, optable, set_some, Nat.reduceEqDiff, reduceIte, Nat.reduceLT, implies_true, forall_const, reduceCtorEq, V.ofValue, V.ofScalar, V.un, V.gd, aLoad, row_mk, Blk.row, PartOK, Go.Vm.part, V.cells, V.noSl, V.noRef, Nat.reduceAdd, Nat.reduceLeDiff, Nat.reduceMul, Try.underlying3, Ty.c3, Ty.a3, Try.underlying24, Ty.c24, Ty.a24]
      have hN : ansN h u (x0, x1, x2) sk ln = ((0, 0), heldB h u x1 x0 sk) := by simp only [ansN]; rw [if_neg hc0, if_neg hc2, if_pos hc4]
      have hA : ansL h u (x0, x1, x2) sk ln = ((((0, 0), heldB h u x1 x0 sk)).1, true) := by rw [ansL, hN]; simp [hc5]
      rw [hA]
      exact ret_pure rfl rfl (.inl rfl)
    ·intro hc4
     refine v_skip ?_
     refine n38 _ ?_
     refine n36 _ _ (weak_keep [4, 8, 10, 11] _) ?_
     refine zk ⟨?_⟩
     refine v_seq ?_; intro Q63 n63 e63 r63
     refine v_seqR [4,8,10,52] ?_; intro K64 k64
     refine zMove ⟨?_⟩
     refine zUnOp ⟨?_⟩
     refine k64 _ ?_
     refine zk ⟨?_⟩
     refine v_condS _ rfl ?_ ?_
     ·intro hc6
      refine v_seqR [8,9] ?_; intro K66 k66
      refine zLoad ⟨?_⟩
      refine zStore ⟨?_⟩
      refine zAssign ⟨?_⟩
      refine k66 _ ?_
      refine zk ⟨?_⟩
      refine v_ret ?_
      refine r63 _ ?_
      refine r0 _ ?_
      refine zf ⟨?_⟩
      simp only [zE, zL, zO, zN, aStepM, optable, set_some, Nat.reduceEqDiff, reduceIte, Nat.reduceLT, implies_true, forall_const, reduceCtorEq, V.ofValue, V.ofScalar, V.un, V.gd, aLoad, row_mk, Blk.row, PartOK, Go.Vm.part, V.cells, V.noSl, V.noRef, Nat.reduceAdd, Nat.reduceLeDiff, Nat.reduceMul, Try.underlying3, Ty.c3, Ty.a3, Try.underlying24, Ty.c24, Ty.a24]
      have hN : ansN h u (x0, x1, x2) sk ln = ((h, u), heldB h u x1 x0 sk) := by simp only [ansN]; rw [if_neg hc0, if_neg hc2, if_neg hc4]
      have hA : ansL h u (x0, x1, x2) sk ln = ((h, u), false) := by rw [ansL, hN]; simp [hc6]
      rw [hA]
      exact ret_pure rfl rfl (.inl rfl)
     ·intro hc6
      refine v_skip ?_
      refine n63 _ _ (weak_keep [8, 10] _) ?_
      refine zk ⟨?_⟩
      refine v_seqR [8,9] ?_; intro K67 k67
      refine zLoad ⟨?_⟩
      refine zStore ⟨?_⟩
      refine zAssign ⟨?_⟩
      refine k67 _ ?_
      refine zk ⟨?_⟩
      refine v_ret ?_
      refine r0 _ ?_
      refine zf ⟨?_⟩
      simp only [zE, zL, zO, zN, aStepM, optable, set_some, Nat.reduceEqDiff, reduceIte, Nat.reduceLT, implies_true, forall_const, reduceCtorEq, V.ofValue, V.ofScalar, V.un, V.gd, aLoad, row_mk, Blk.row, PartOK, Go.Vm.part, V.cells, V.noSl, V.noRef, Nat.reduceAdd, Nat.reduceLeDiff, Nat.reduceMul, Try.underlying3, Ty.c3, Ty.a3, Try.underlying24, Ty.c24, Ty.a24]
      have hN : ansN h u (x0, x1, x2) sk ln = ((h, u), heldB h u x1 x0 sk) := by simp only [ansN]; rw [if_neg hc0, if_neg hc2, if_neg hc4]
      have hA : ansL h u (x0, x1, x2) sk ln = ((((h, u), heldB h u x1 x0 sk)).1, true) := by rw [ansL, hN]; simp [hc6]
      rw [hA]
      exact ret_pure rfl rfl (.inl rfl)
set_option maxHeartbeats 1000000 in
theorem leAnswer_con (h u : Int) (x0 : Int) (x1 : Int) (x2 : Int) (sk ln : Int) (hu : 0 ≤ u ∧ u ≤ 99999) (hm : 0 ≤ x0 ∧ x0 ≤ 99999) (hsk : 0 ≤ sk ∧ sk ≤ 10) (hln : 1 ≤ ln ∧ ln ≤ 600) : Con Try.prog 94 [.agg [.int .i64 h, .int .i64 u], .agg [V.int .i64 x0, V.int .i64 x1, V.int .i64 x2], .int .i64 sk, .int .i64 ln] [] (.tup [.agg [.int .i64 (ansL h u (x0, x1, x2) sk ln).1.1, .int .i64 (ansL h u (x0, x1, x2) sk ln).1.2], .bool (ansL h u (x0, x1, x2) sk ln).2]) [] := by
 refine v_con [.cell 8 24, .tmp 9] [] Try.func94 rfl rfl rfl (by simp [Try.ntmps94]) ?_
 intro Q0 n0 r0
 simp only [Try.ntmps94, envFrom, Nat.reduceAdd]
 have T := Tys.mk (And.intro Ty.t3 (And.intro Ty.t4 (And.intro Ty.t24 Ty.t35)))
 have F := Fc.mk True.intro
 refine v_seqR [2,3,4,5,8] ?_; intro K1 k1
 refine zBox ⟨?_⟩
 refine zBox ⟨?_⟩
 refine zAlloc ⟨?_⟩
 refine zAssign ⟨?_⟩
 refine k1 _ ?_
 refine zk ⟨?_⟩
 refine v_seqR [2,3,4,5,8,10] ?_; intro K2 k2
 refine zLoad ⟨?_⟩
 refine zAlloc ⟨?_⟩
 refine zStore ⟨?_⟩
 refine zAssign ⟨?_⟩
 refine k2 _ ?_
 refine zk ⟨?_⟩
 refine v_seq ?_; intro Q3 n3 e3 r3
 refine v_seqR [2,3,4,5,8,10,14] ?_; intro K4 k4
 refine zFieldAddr ⟨?_⟩
 refine zLoad ⟨?_⟩
 refine k4 _ ?_
 refine zk ⟨?_⟩
 refine v_block ?_; intro Q5 n5 x5 e5 r5
 refine v_seqR [2,3,4,5,8,10,14,22] ?_; intro K6 k6
 refine zBinOp ⟨?_⟩
 refine zAssign ⟨?_⟩
 refine k6 _ ?_
 refine zk ⟨?_⟩
 refine v_condS _ rfl ?_ ?_
 ·intro hc0
  refine v_region ?_; intro K8 k8
  refine zLoad ⟨?_⟩
  refine zFieldAddr ⟨?_⟩
  refine zLoad ⟨?_⟩
  refine zFieldAddr ⟨?_⟩
  refine zLoad ⟨?_⟩
  refine zMove ⟨?_⟩
  refine zMove ⟨?_⟩
  refine zc (leTake_con h u x1 x0 sk ln hu hm hsk hln) ⟨?_⟩
  refine zMove ⟨?_⟩
  refine zExtract ⟨?_⟩
  refine zExtract ⟨?_⟩
  refine zStore ⟨?_⟩
  refine zAssign ⟨?_⟩
  refine k8 _ ?_
  refine n5 _ ?_
  refine n3 _ _ (weak_keep [4, 8, 10, 11] _) ?_
  refine zk ⟨?_⟩
  refine v_seq ?_; intro Q9 n9 e9 r9
  refine v_seqR [4,8,10,59] ?_; intro K10 k10
  refine zMove ⟨?_⟩
  refine zUnOp ⟨?_⟩
  refine k10 _ ?_
  refine zk ⟨?_⟩
  refine v_condS _ rfl ?_ ?_
  ·intro hc1
   refine v_seqR [8,9] ?_; intro K12 k12
   refine zLoad ⟨?_⟩
   refine zStore ⟨?_⟩
   refine zAssign ⟨?_⟩
   refine k12 _ ?_
   refine zk ⟨?_⟩
   refine v_ret ?_
   refine r9 _ ?_
   refine r0 _ ?_
   refine zf ⟨?_⟩
   simp only [zE, zL, zO, zN, aStepM, optable, set_some, Nat.reduceEqDiff, reduceIte, Nat.reduceLT, implies_true, forall_const, reduceCtorEq, V.ofValue, V.ofScalar, V.un, V.gd, aLoad, row_mk, Blk.row, PartOK, Go.Vm.part, V.cells, V.noSl, V.noRef, Nat.reduceAdd, Nat.reduceLeDiff, Nat.reduceMul, Try.underlying3, Ty.c3, Ty.a3, Try.underlying24, Ty.c24, Ty.a24]
   have hN : ansN h u (x0, x1, x2) sk ln = takeLe h u x1 x0 sk ln := by simp only [ansN]; rw [if_pos hc0]
   have hA : ansL h u (x0, x1, x2) sk ln = ((h, u), false) := by rw [ansL, hN]; simp [hc1]
   rw [hA]
   exact ret_pure rfl rfl (.inl rfl)
  ·intro hc1
   refine v_skip ?_
   refine n9 _ _ (weak_keep [8, 10] _) ?_
   refine zk ⟨?_⟩
   refine v_seqR [8,9] ?_; intro K13 k13
   refine zLoad ⟨?_⟩
   refine zStore ⟨?_⟩
   refine zAssign ⟨?_⟩
   refine k13 _ ?_
   refine zk ⟨?_⟩
   refine v_ret ?_
   refine r0 _ ?_
   refine zf ⟨?_⟩
   simp only [zE, zL, zO, zN, aStepM, optable, set_some, Nat.reduceEqDiff, reduceIte, Nat.reduceLT, implies_true, forall_const, reduceCtorEq, V.ofValue, V.ofScalar, V.un, V.gd, aLoad, row_mk, Blk.row, PartOK, Go.Vm.part, V.cells, V.noSl, V.noRef, Nat.reduceAdd, Nat.reduceLeDiff, Nat.reduceMul, Try.underlying3, Ty.c3, Ty.a3, Try.underlying24, Ty.c24, Ty.a24]
   have hN : ansN h u (x0, x1, x2) sk ln = takeLe h u x1 x0 sk ln := by simp only [ansN]; rw [if_pos hc0]
   have hA : ansL h u (x0, x1, x2) sk ln = ((takeLe h u x1 x0 sk ln).1, true) := by rw [ansL, hN]; simp [hc1]
   rw [hA]
   exact ret_pure rfl rfl (.inl rfl)
 ·intro hc0
  refine v_seqR [2,3,4,5,8,10,14,35] ?_; intro K14 k14
  refine zBinOp ⟨?_⟩
  refine zAssign ⟨?_⟩
  refine k14 _ ?_
  refine zk ⟨?_⟩
  refine v_condS _ rfl ?_ ?_
  ·intro hc2
   refine v_region ?_; intro K16 k16
   refine zLoad ⟨?_⟩
   refine zFieldAddr ⟨?_⟩
   refine zLoad ⟨?_⟩
   refine zFieldAddr ⟨?_⟩
   refine zLoad ⟨?_⟩
   refine zMove ⟨?_⟩
   refine zMove ⟨?_⟩
   refine zc (leRenew_con h u x1 x0 sk ln hu hm hsk hln) ⟨?_⟩
   refine zMove ⟨?_⟩
   refine zExtract ⟨?_⟩
   refine zExtract ⟨?_⟩
   refine zStore ⟨?_⟩
   refine zAssign ⟨?_⟩
   refine k16 _ ?_
   refine n5 _ ?_
   refine n3 _ _ (weak_keep [4, 8, 10, 11] _) ?_
   refine zk ⟨?_⟩
   refine v_seq ?_; intro Q17 n17 e17 r17
   refine v_seqR [4,8,10,59] ?_; intro K18 k18
   refine zMove ⟨?_⟩
   refine zUnOp ⟨?_⟩
   refine k18 _ ?_
   refine zk ⟨?_⟩
   refine v_condS _ rfl ?_ ?_
   ·intro hc3
    refine v_seqR [8,9] ?_; intro K20 k20
    refine zLoad ⟨?_⟩
    refine zStore ⟨?_⟩
    refine zAssign ⟨?_⟩
    refine k20 _ ?_
    refine zk ⟨?_⟩
    refine v_ret ?_
    refine r17 _ ?_
    refine r0 _ ?_
    refine zf ⟨?_⟩
    simp only [zE, zL, zO, zN, aStepM, optable, set_some, Nat.reduceEqDiff, reduceIte, Nat.reduceLT, implies_true, forall_const, reduceCtorEq, V.ofValue, V.ofScalar, V.un, V.gd, aLoad, row_mk, Blk.row, PartOK, Go.Vm.part, V.cells, V.noSl, V.noRef, Nat.reduceAdd, Nat.reduceLeDiff, Nat.reduceMul, Try.underlying3, Ty.c3, Ty.a3, Try.underlying24, Ty.c24, Ty.a24]
    have hN : ansN h u (x0, x1, x2) sk ln = renewLe h u x1 x0 sk ln := by simp only [ansN]; rw [if_neg hc0, if_pos hc2]
    have hA : ansL h u (x0, x1, x2) sk ln = ((h, u), false) := by rw [ansL, hN]; simp [hc3]
    rw [hA]
    exact ret_pure rfl rfl (.inl rfl)
   ·intro hc3
    refine v_skip ?_
    refine n17 _ _ (weak_keep [8, 10] _) ?_
    refine zk ⟨?_⟩
    refine v_seqR [8,9] ?_; intro K21 k21
    refine zLoad ⟨?_⟩
    refine zStore ⟨?_⟩
    refine zAssign ⟨?_⟩
    refine k21 _ ?_
    refine zk ⟨?_⟩
    refine v_ret ?_
    refine r0 _ ?_
    refine zf ⟨?_⟩
    simp only [zE, zL, zO, zN, aStepM, optable, set_some, Nat.reduceEqDiff, reduceIte, Nat.reduceLT, implies_true, forall_const, reduceCtorEq, V.ofValue, V.ofScalar, V.un, V.gd, aLoad, row_mk, Blk.row, PartOK, Go.Vm.part, V.cells, V.noSl, V.noRef, Nat.reduceAdd, Nat.reduceLeDiff, Nat.reduceMul, Try.underlying3, Ty.c3, Ty.a3, Try.underlying24, Ty.c24, Ty.a24]
    have hN : ansN h u (x0, x1, x2) sk ln = renewLe h u x1 x0 sk ln := by simp only [ansN]; rw [if_neg hc0, if_pos hc2]
    have hA : ansL h u (x0, x1, x2) sk ln = ((renewLe h u x1 x0 sk ln).1, true) := by rw [ansL, hN]; simp [hc3]
    rw [hA]
    exact ret_pure rfl rfl (.inl rfl)
  ·intro hc2
   refine v_seqR [2,4,5,8,10,48] ?_; intro K22 k22
   refine zBinOp ⟨?_⟩
   refine zAssign ⟨?_⟩
   refine k22 _ ?_
   refine zk ⟨?_⟩
   refine v_condS _ rfl ?_ ?_
   ·intro hc4
    refine v_seqR [4,8,10,11] ?_; intro K24 k24
    refine zLoad ⟨?_⟩
    refine zFieldAddr ⟨?_⟩
    refine zLoad ⟨?_⟩
    refine zFieldAddr ⟨?_⟩
    refine zLoad ⟨?_⟩
    refine zMove ⟨?_⟩
    refine zc (leHeld_con h u x1 x0 sk hm hsk) ⟨?_⟩
    refine zAssign ⟨?_⟩
    refine k24 _ ?_
    refine zk ⟨?_⟩
    refine v_region ?_; intro K25 k25
    refine zBuild ⟨?_⟩
    refine zStore ⟨?_⟩
    refine k25 _ ?_
    refine n5 _ ?_
    refine n3 _ _ (weak_keep [4, 8, 10, 11] _) ?_
    refine zk ⟨?_⟩
    refine v_seq ?_; intro Q26 n26 e26 r26
    refine v_seqR [4,8,10,59] ?_; intro K27 k27
    refine zMove ⟨?_⟩
    refine zUnOp ⟨?_⟩
    refine k27 _ ?_
    refine zk ⟨?_⟩
    refine v_condS _ rfl ?_ ?_
    ·intro hc5
     refine v_seqR [8,9] ?_; intro K29 k29
     refine zLoad ⟨?_⟩
     refine zStore ⟨?_⟩
     refine zAssign ⟨?_⟩
     refine k29 _ ?_
     refine zk ⟨?_⟩
     refine v_ret ?_
     refine r26 _ ?_
     refine r0 _ ?_
     refine zf ⟨?_⟩
     simp only [zE, zL, zO, zN, aStepM, optable, set_some, Nat.reduceEqDiff, reduceIte, Nat.reduceLT, implies_true, forall_const, reduceCtorEq, V.ofValue, V.ofScalar, V.un, V.gd, aLoad, row_mk, Blk.row, PartOK, Go.Vm.part, V.cells, V.noSl, V.noRef, Nat.reduceAdd, Nat.reduceLeDiff, Nat.reduceMul, Try.underlying3, Ty.c3, Ty.a3, Try.underlying24, Ty.c24, Ty.a24]
     have hN : ansN h u (x0, x1, x2) sk ln = ((0, 0), heldB h u x1 x0 sk) := by simp only [ansN]; rw [if_neg hc0, if_neg hc2, if_pos hc4]
     have hA : ansL h u (x0, x1, x2) sk ln = ((h, u), false) := by rw [ansL, hN]; simp [hc5]
     rw [hA]
     exact ret_pure rfl rfl (.inl rfl)
    ·intro hc5
     refine v_skip ?_
     refine n26 _ _ (weak_keep [8, 10] _) ?_
     refine zk ⟨?_⟩
     refine v_seqR [8,9] ?_; intro K30 k30
     refine zLoad ⟨?_⟩
     refine zStore ⟨?_⟩
     refine zAssign ⟨?_⟩
     refine k30 _ ?_
     refine zk ⟨?_⟩
     refine v_ret ?_
     refine r0 _ ?_
     refine zf ⟨?_⟩
     simp only [zE, zL, zO, zN, aStepM, optable, set_some, Nat.reduceEqDiff, reduceIte, Nat.reduceLT, implies_true, forall_const, reduceCtorEq, V.ofValue, V.ofScalar, V.un, V.gd, aLoad, row_mk, Blk.row, PartOK, Go.Vm.part, V.cells, V.noSl, V.noRef, Nat.reduceAdd, Nat.reduceLeDiff, Nat.reduceMul, Try.underlying3, Ty.c3, Ty.a3, Try.underlying24, Ty.c24, Ty.a24]
     have hN : ansN h u (x0, x1, x2) sk ln = ((0, 0), heldB h u x1 x0 sk) := by simp only [ansN]; rw [if_neg hc0, if_neg hc2, if_pos hc4]
     have hA : ansL h u (x0, x1, x2) sk ln = ((((0, 0), heldB h u x1 x0 sk)).1, true) := by rw [ansL, hN]; simp [hc5]
     rw [hA]
     exact ret_pure rfl rfl (.inl rfl)
   ·intro hc4
    refine v_region ?_; intro K31 k31
    refine zLoad ⟨?_⟩
    refine zFieldAddr ⟨?_⟩
    refine zLoad ⟨?_⟩
    refine zFieldAddr ⟨?_⟩
    refine zLoad ⟨?_⟩
    refine zMove ⟨?_⟩
    refine zc (leHeld_con h u x1 x0 sk hm hsk) ⟨?_⟩
    refine zAssign ⟨?_⟩
    refine k31 _ ?_
    refine n5 _ ?_
    refine n3 _ _ (weak_keep [4, 8, 10, 11] _) ?_
    refine zk ⟨?_⟩
    refine v_seq ?_; intro Q32 n32 e32 r32
    refine v_seqR [4,8,10,59] ?_; intro K33 k33
    refine zMove ⟨?_⟩
    refine zUnOp ⟨?_⟩
    refine k33 _ ?_
    refine zk ⟨?_⟩
    refine v_condS _ rfl ?_ ?_
    ·intro hc6
     refine v_seqR [8,9] ?_; intro K35 k35
     refine zLoad ⟨?_⟩
     refine zStore ⟨?_⟩
     refine zAssign ⟨?_⟩
     refine k35 _ ?_
     refine zk ⟨?_⟩
     refine v_ret ?_
     refine r32 _ ?_
     refine r0 _ ?_
     refine zf ⟨?_⟩
     simp only [zE, zL, zO, zN, aStepM, optable, set_some, Nat.reduceEqDiff, reduceIte, Nat.reduceLT, implies_true, forall_const, reduceCtorEq, V.ofValue, V.ofScalar, V.un, V.gd, aLoad, row_mk, Blk.row, PartOK, Go.Vm.part, V.cells, V.noSl, V.noRef, Nat.reduceAdd, Nat.reduceLeDiff, Nat.reduceMul, Try.underlying3, Ty.c3, Ty.a3, Try.underlying24, Ty.c24, Ty.a24]
     have hN : ansN h u (x0, x1, x2) sk ln = ((h, u), heldB h u x1 x0 sk) := by simp only [ansN]; rw [if_neg hc0, if_neg hc2, if_neg hc4]
     have hA : ansL h u (x0, x1, x2) sk ln = ((h, u), false) := by rw [ansL, hN]; simp [hc6]
     rw [hA]
     exact ret_pure rfl rfl (.inl rfl)
    ·intro hc6
     refine v_skip ?_
     refine n32 _ _ (weak_keep [8, 10] _) ?_
     refine zk ⟨?_⟩
     refine v_seqR [8,9] ?_; intro K36 k36
     refine zLoad ⟨?_⟩
     refine zStore ⟨?_⟩
     refine zAssign ⟨?_⟩
     refine k36 _ ?_
     refine zk ⟨?_⟩
     refine v_ret ?_
     refine r0 _ ?_
     refine zf ⟨?_⟩
     simp only [zE, zL, zO, zN, aStepM, optable, set_some, Nat.reduceEqDiff, reduceIte, Nat.reduceLT, implies_true, forall_const, reduceCtorEq, V.ofValue, V.ofScalar, V.un, V.gd, aLoad, row_mk, Blk.row, PartOK, Go.Vm.part, V.cells, V.noSl, V.noRef, Nat.reduceAdd, Nat.reduceLeDiff, Nat.reduceMul, Try.underlying3, Ty.c3, Ty.a3, Try.underlying24, Ty.c24, Ty.a24]
     have hN : ansN h u (x0, x1, x2) sk ln = ((h, u), heldB h u x1 x0 sk) := by simp only [ansN]; rw [if_neg hc0, if_neg hc2, if_neg hc4]
     have hA : ansL h u (x0, x1, x2) sk ln = ((((h, u), heldB h u x1 x0 sk)).1, true) := by rw [ansL, hN]; simp [hc6]
     rw [hA]
     exact ret_pure rfl rfl (.inl rfl)
end Go.Proofs.Ytmlicajgbgjphaa
