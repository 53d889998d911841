/- What functions compute. No condition. -/
import Derived.Test.YtbameklegpgkfaaUty
import Derived.Test.YtbameklegpgkfaaUmG
import Derived.Test.YtbameklegpgkfaaX4
import Derived.Test.YtbameklegpgkfaaX3
import Derived.Test.YtbameklegpgkfaaX2
import Derived.Test.YtbameklegpgkfaaX1
import Derived.Test.YtbameklegpgkfaaX7
import Derived.Test.YtbameklegpgkfaaX5
set_option linter.unusedSimpArgs false
set_option linter.unusedVariables false
set_option linter.defProp false
namespace Go.Proofs.Ytbameklegpgkfaa
open Go Go.Vm

def mvG (fa : ByteArray) (fl : List (ByteArray × Int × Int)) (ta : ByteArray) (tl : List (ByteArray × Int × Int)) (s : ByteArray) (n : Int) : Bool := (nameB fa && thsB fl) && (nameB ta && thsB tl) && tnB s && (decide (1 ≤ n) && decide (n ≤ 99)) && !decide (fa = ta)
def mvAll (fa : ByteArray) (fl : List (ByteArray × Int × Int)) (ta : ByteArray) (tl : List (ByteArray × Int × Int)) (s : ByteArray) (n : Int) : Bool := mvG fa fl ta tl s n && mvB fl tl s n
theorem mvG_facts {fa ta s : ByteArray} {fl tl : List (ByteArray × Int × Int)} {n : Int} (h : mvG fa fl ta tl s n = true) : nameB fa = true ∧ thsB fl = true ∧ nameB ta = true ∧ thsB tl = true ∧ tnB s = true ∧ 1 ≤ n ∧ n ≤ 99 := by
  simp only [mvG, Bool.and_eq_true, decide_eq_true_eq] at h
  exact ⟨h.1.1.1.1.1, h.1.1.1.1.2, h.1.1.1.2.1, h.1.1.1.2.2, h.1.1.2, h.1.2⟩

set_option maxHeartbeats 4000000 in
theorem implMove_con (fa : ByteArray) (fl : List (ByteArray × Int × Int)) (ta : ByteArray) (tl : List (ByteArray × Int × Int)) (s : ByteArray) (n : Int) (hfa : fa.size ≤ 9223372036854775807) (hfl : fl.length ≤ 1048576) (hfs : ∀ t ∈ fl, t.1.size ≤ 9223372036854775807) (hta : ta.size ≤ 9223372036854775807) (htl : tl.length ≤ 1048576) (hts : ∀ t ∈ tl, t.1.size ≤ 9223372036854775807) (hss : s.size ≤ 9223372036854775807) : Con Try.prog 11 [.agg [.str fa, .sl (fl.map (fun t : ByteArray × Int × Int => V.agg [V.str t.1, V.int .i64 t.2.1, V.int .i64 t.2.2]))], .agg [.str ta, .sl (tl.map (fun t : ByteArray × Int × Int => V.agg [V.str t.1, V.int .i64 t.2.1, V.int .i64 t.2.2]))], .str s, .int .i64 n] [] (.tup [.agg [.str (orS (mvAll fa fl ta tl s n) fa), .ref 0], .agg [.str (orS (mvAll fa fl ta tl s n) ta), .ref 1], .bool (mvAll fa fl ta tl s n)]) [.arr ((orN (mvAll fa fl ta tl s n) (takeT fl s n)).map (fun t : ByteArray × Int × Int => V.agg [V.str t.1, V.int .i64 t.2.1, V.int .i64 t.2.2])) .thin, .arr ((orN (mvAll fa fl ta tl s n) (putT tl s n (dayOf fl s))).map (fun t : ByteArray × Int × Int => V.agg [V.str t.1, V.int .i64 t.2.1, V.int .i64 t.2.2])) .flat] := by
 refine v_con [.cell 8 29, .cell 9 29, .tmp 10] [] Try.func11 rfl rfl rfl (by simp [Try.ntmps11]) ?_
 intro Q0 n0 r0
 simp only [Try.ntmps11, envFrom, Nat.reduceAdd]
 have T := Tys.mk (And.intro Ty.t3 (And.intro Ty.t4 (And.intro Ty.t9 (And.intro Ty.t23 (And.intro Ty.t29 Ty.t38)))))
 have F := Fc.mk True.intro
 refine v_seqR [2,3,4,5,8,9] ?_; intro K1 k1
 refine zBox ⟨?_⟩
 refine zBox ⟨?_⟩
 refine zAlloc ⟨?_⟩
 refine zAlloc ⟨?_⟩
 refine zAssign ⟨?_⟩
 refine k1 _ ?_
 refine zk ⟨?_⟩
 refine v_seq ?_; intro Q2 n2 e2 r2
 refine v_seqR [2,3,4,5,8,9,35] ?_; intro K3 k3
 refine zLoad ⟨?_⟩
 refine zc (isLoad_con fa fl hfa hfl hfs) ⟨?_⟩
 refine zUnOp ⟨?_⟩
 refine zMove ⟨?_⟩
 refine zgLoad ⟨?_⟩
 refine zgc (isLoad_con ta tl hta htl hts) ⟨?_⟩
 refine zgUnOp ⟨?_⟩
 refine zPick ⟨?_⟩
 refine zMove ⟨?_⟩
 refine zgMove ⟨?_⟩
 refine zgc (isThingName_con s hss) ⟨?_⟩
 refine zgUnOp ⟨?_⟩
 refine zPick ⟨?_⟩
 refine zMove ⟨?_⟩
 refine zgMove ⟨?_⟩
 refine zgc (inside_con n 1 99) ⟨?_⟩
 refine zgUnOp ⟨?_⟩
 refine zPick ⟨?_⟩
 refine zMove ⟨?_⟩
 refine zgFieldAddr ⟨?_⟩
 refine zgLoad ⟨?_⟩
 refine zgFieldAddr ⟨?_⟩
 refine zgLoad ⟨?_⟩
 refine zgBinOp ⟨?_⟩
 refine zPick ⟨?_⟩
 refine k3 _ ?_
 refine zk ⟨?_⟩
 refine v_condS _ rfl ?_ ?_
 ·intro hc0
  have hA : (mvAll fa fl ta tl s n) = false := by
   rw [mvAll]
   have hG : mvG fa fl ta tl s n = false := by
    revert hc0
    rw [mvG]
    by_cases q1 : 1 ≤ n <;> by_cases q2 : n ≤ 99 <;> by_cases q3 : fa = ta <;> cases nameB fa <;> cases thsB fl <;> cases nameB ta <;> cases thsB tl <;> cases tnB s <;> simp [q1, q2, q3] <;> (try omega)
   rw [hG]; rfl
  refine v_seq ?_; intro Q5 n5 e5 r5
  refine v_region ?_; intro K6 k6
  refine zBuild ⟨?_⟩
  refine zBuild ⟨?_⟩
  refine zStore ⟨?_⟩
  refine zStore ⟨?_⟩
  refine zAssign ⟨?_⟩
  refine k6 _ ?_
  apply n5
  ·apply weak_trans (weak_keep [8, 9, 10] _)
   simp only [keep_mk, keepE_nil, keepE_cons, look_cons, look_nil, Nat.reduceEqDiff, reduceIte]
   exact weak_thin 6 [] rfl
  try simp only [atSlot_cons, atSlot_nil, Nat.reduceEqDiff, reduceIte, List.set_cons_zero, List.set_cons_succ]
  refine v_ret ?_
  refine r2 _ ?_
  refine r0 _ ?_
  refine zf ⟨?_⟩
  simp only [zE, zL, zO, zN, aStepM, optable, set_some, Nat.reduceEqDiff, reduceIte, Nat.reduceLT, implies_true, forall_const, reduceCtorEq, V.ofValue, V.ofScalar, V.un, V.gd, aLoad, row_mk, Blk.row, PartOK, Go.Vm.part, V.cells, V.noSl, V.noRef, Nat.reduceAdd, Nat.reduceLeDiff, Nat.reduceMul, Try.underlying9, Ty.c9, Ty.a9, Try.underlying23, Ty.c23, Ty.a23, Try.underlying29, Ty.c29, Ty.a29]
  try simp only [zE, zL, zO, zN, aStepM, optable, set_some, Nat.reduceEqDiff, reduceIte, Nat.reduceLT, implies_true, forall_const, reduceCtorEq, V.ofValue, V.ofScalar, V.un, V.gd, aLoad, row_mk, Blk.row, PartOK, Go.Vm.part, V.cells, V.noSl, V.noRef, Nat.reduceAdd, Nat.reduceLeDiff, Nat.reduceMul, Try.underlying9, Ty.c9, Ty.a9, Try.underlying23, Ty.c23, Ty.a23, Try.underlying29, Ty.c29, Ty.a29]
  simp only [hA, orS, orN_f, Bool.false_eq_true, if_false, List.map_nil]
  exact ret_all rfl (by first | decide | simp [newIds, refsOf, refs2, refs1]) (by simp) rfl (by simp [newIds, refsOf, refs2, refs1]) (by simp [Blk.kindIs, fillK_fd]) rfl
 ·intro hc0
  have hG : mvG fa fl ta tl s n = true := by
   revert hc0
   rw [mvG]
   by_cases q1 : 1 ≤ n <;> by_cases q2 : n ≤ 99 <;> by_cases q3 : fa = ta <;> cases nameB fa <;> cases thsB fl <;> cases nameB ta <;> cases thsB tl <;> cases tnB s <;> simp [q1, q2, q3] <;> (try omega)
  have hA : (mvAll fa fl ta tl s n) = mvB fl tl s n := by rw [mvAll, hG]; rfl
  obtain ⟨g1, g2, g3, g4, g5, g6⟩ := mvG_facts hG
  refine v_skip ?_
  refine n2 _ _ (weak_keep [2, 3, 4, 5, 8, 9] _) ?_
  refine zk ⟨?_⟩
  refine v_seqR [8,9,10] ?_; intro K7 k7
  refine zLoad ⟨?_⟩
  refine zLoad ⟨?_⟩
  refine zMove ⟨?_⟩
  refine zMove ⟨?_⟩
  refine zc (moveThing_con fa fl ta tl s n g1 g3 ((ths_iff _).1 g2) ((ths_iff _).1 g4) g5 g6) ⟨?_⟩
  refine zExtract ⟨?_⟩
  refine zExtract ⟨?_⟩
  refine zExtract ⟨?_⟩
  refine zStore ⟨?_⟩
  refine zStore ⟨?_⟩
  refine zAssign ⟨?_⟩
  refine k7 _ ?_
  refine zk ⟨?_⟩
  refine v_ret ?_
  refine r0 _ ?_
  refine zf ⟨?_⟩
  simp only [zE, zL, zO, zN, aStepM, optable, set_some, Nat.reduceEqDiff, reduceIte, Nat.reduceLT, implies_true, forall_const, reduceCtorEq, V.ofValue, V.ofScalar, V.un, V.gd, aLoad, row_mk, Blk.row, PartOK, Go.Vm.part, V.cells, V.noSl, V.noRef, Nat.reduceAdd, Nat.reduceLeDiff, Nat.reduceMul, Try.underlying9, Ty.c9, Ty.a9, Try.underlying23, Ty.c23, Ty.a23, Try.underlying29, Ty.c29, Ty.a29]
  try simp only [zE, zL, zO, zN, aStepM, optable, set_some, Nat.reduceEqDiff, reduceIte, Nat.reduceLT, implies_true, forall_const, reduceCtorEq, V.ofValue, V.ofScalar, V.un, V.gd, aLoad, row_mk, Blk.row, PartOK, Go.Vm.part, V.cells, V.noSl, V.noRef, Nat.reduceAdd, Nat.reduceLeDiff, Nat.reduceMul, Try.underlying9, Ty.c9, Ty.a9, Try.underlying23, Ty.c23, Ty.a23, Try.underlying29, Ty.c29, Ty.a29]
  rw [hA]
  exact ret_all rfl (by first | decide | simp [newIds, refsOf, refs2, refs1]) (by simp) rfl (by simp [newIds, refsOf, refs2, refs1]) (by simp [Blk.kindIs, fillK_fd]) rfl
set_option maxHeartbeats 4000000 in
theorem specMove_con (fa : ByteArray) (fl : List (ByteArray × Int × Int)) (ta : ByteArray) (tl : List (ByteArray × Int × Int)) (s : ByteArray) (n : Int) (hfa : fa.size ≤ 9223372036854775807) (hfl : fl.length ≤ 1048576) (hfs : ∀ t ∈ fl, t.1.size ≤ 9223372036854775807) (hta : ta.size ≤ 9223372036854775807) (htl : tl.length ≤ 1048576) (hts : ∀ t ∈ tl, t.1.size ≤ 9223372036854775807) (hss : s.size ≤ 9223372036854775807) : Con Try.prog 12 [.agg [.str fa, .sl (fl.map (fun t : ByteArray × Int × Int => V.agg [V.str t.1, V.int .i64 t.2.1, V.int .i64 t.2.2]))], .agg [.str ta, .sl (tl.map (fun t : ByteArray × Int × Int => V.agg [V.str t.1, V.int .i64 t.2.1, V.int .i64 t.2.2]))], .str s, .int .i64 n] [] (.tup [.agg [.str (orS (mvAll fa fl ta tl s n) fa), .ref 0], .agg [.str (orS (mvAll fa fl ta tl s n) ta), .ref 1], .bool (mvAll fa fl ta tl s n)]) [.arr ((orN (mvAll fa fl ta tl s n) (takeT fl s n)).map (fun t : ByteArray × Int × Int => V.agg [V.str t.1, V.int .i64 t.2.1, V.int .i64 t.2.2])) .flat, .arr ((orN (mvAll fa fl ta tl s n) (putT tl s n (dayOf fl s))).map (fun t : ByteArray × Int × Int => V.agg [V.str t.1, V.int .i64 t.2.1, V.int .i64 t.2.2])) .flat] := by
 refine v_con [.cell 8 29, .cell 9 29, .tmp 10] [] Try.func12 rfl rfl rfl (by simp [Try.ntmps12]) ?_
 intro Q0 n0 r0
 simp only [Try.ntmps12, envFrom, Nat.reduceAdd]
 have T := Tys.mk (And.intro Ty.t3 (And.intro Ty.t4 (And.intro Ty.t9 (And.intro Ty.t23 (And.intro Ty.t29 Ty.t38)))))
 have F := Fc.mk True.intro
 refine v_seqR [2,3,4,5,8,9] ?_; intro K1 k1
 refine zBox ⟨?_⟩
 refine zBox ⟨?_⟩
 refine zAlloc ⟨?_⟩
 refine zAlloc ⟨?_⟩
 refine zAssign ⟨?_⟩
 refine k1 _ ?_
 refine zk ⟨?_⟩
 refine v_seq ?_; intro Q2 n2 e2 r2
 refine v_seqR [2,3,4,5,8,9,35] ?_; intro K3 k3
 refine zLoad ⟨?_⟩
 refine zc (eqLoad_con fa fl hfa hfl hfs) ⟨?_⟩
 refine zUnOp ⟨?_⟩
 refine zMove ⟨?_⟩
 refine zgLoad ⟨?_⟩
 refine zgc (eqLoad_con ta tl hta htl hts) ⟨?_⟩
 refine zgUnOp ⟨?_⟩
 refine zPick ⟨?_⟩
 refine zMove ⟨?_⟩
 refine zgFieldAddr ⟨?_⟩
 refine zgLoad ⟨?_⟩
 refine zgFieldAddr ⟨?_⟩
 refine zgLoad ⟨?_⟩
 refine zgBinOp ⟨?_⟩
 refine zPick ⟨?_⟩
 refine zMove ⟨?_⟩
 refine zgMove ⟨?_⟩
 refine zgc (eqName_con s hss) ⟨?_⟩
 refine zgUnOp ⟨?_⟩
 refine zPick ⟨?_⟩
 refine zMove ⟨?_⟩
 refine zgMove ⟨?_⟩
 refine zgc (eqCount_con n) ⟨?_⟩
 refine zgUnOp ⟨?_⟩
 refine zPick ⟨?_⟩
 refine k3 _ ?_
 refine zk ⟨?_⟩
 refine v_condS _ rfl ?_ ?_
 ·intro hc0
  have hA : (mvAll fa fl ta tl s n) = false := by
   rw [mvAll]
   have hG : mvG fa fl ta tl s n = false := by
    revert hc0
    rw [mvG]
    by_cases q1 : 1 ≤ n <;> by_cases q2 : n ≤ 99 <;> by_cases q3 : fa = ta <;> cases nameB fa <;> cases thsB fl <;> cases nameB ta <;> cases thsB tl <;> cases tnB s <;> simp [q1, q2, q3] <;> (try omega)
   rw [hG]; rfl
  refine v_seqR [8,9,10] ?_; intro K5 k5
  refine zBuild ⟨?_⟩
  refine zBuild ⟨?_⟩
  refine zStore ⟨?_⟩
  refine zStore ⟨?_⟩
  refine zAssign ⟨?_⟩
  refine k5 _ ?_
  refine zk ⟨?_⟩
  refine v_ret ?_
  refine r2 _ ?_
  refine r0 _ ?_
  refine zf ⟨?_⟩
  simp only [zE, zL, zO, zN, aStepM, optable, set_some, Nat.reduceEqDiff, reduceIte, Nat.reduceLT, implies_true, forall_const, reduceCtorEq, V.ofValue, V.ofScalar, V.un, V.gd, aLoad, row_mk, Blk.row, PartOK, Go.Vm.part, V.cells, V.noSl, V.noRef, Nat.reduceAdd, Nat.reduceLeDiff, Nat.reduceMul, Try.underlying9, Ty.c9, Ty.a9, Try.underlying23, Ty.c23, Ty.a23, Try.underlying29, Ty.c29, Ty.a29]
  try simp only [zE, zL, zO, zN, aStepM, optable, set_some, Nat.reduceEqDiff, reduceIte, Nat.reduceLT, implies_true, forall_const, reduceCtorEq, V.ofValue, V.ofScalar, V.un, V.gd, aLoad, row_mk, Blk.row, PartOK, Go.Vm.part, V.cells, V.noSl, V.noRef, Nat.reduceAdd, Nat.reduceLeDiff, Nat.reduceMul, Try.underlying9, Ty.c9, Ty.a9, Try.underlying23, Ty.c23, Ty.a23, Try.underlying29, Ty.c29, Ty.a29]
  simp only [hA, orS, orN_f, Bool.false_eq_true, if_false, List.map_nil]
  exact ret_all rfl (by first | decide | simp [newIds, refsOf, refs2, refs1]) (by simp) rfl (by simp [newIds, refsOf, refs2, refs1]) (by simp [Blk.kindIs, fillK_fd]) rfl
 ·intro hc0
  have hG : mvG fa fl ta tl s n = true := by
   revert hc0
   rw [mvG]
   by_cases q1 : 1 ≤ n <;> by_cases q2 : n ≤ 99 <;> by_cases q3 : fa = ta <;> cases nameB fa <;> cases thsB fl <;> cases nameB ta <;> cases thsB tl <;> cases tnB s <;> simp [q1, q2, q3] <;> (try omega)
  have hA : (mvAll fa fl ta tl s n) = mvB fl tl s n := by rw [mvAll, hG]; rfl
  obtain ⟨g1, g2, g3, g4, g5, g6⟩ := mvG_facts hG
  refine v_skip ?_
  refine n2 _ _ (weak_keep [2, 3, 4, 5, 8, 9] _) ?_
  refine zk ⟨?_⟩
  refine v_seqR [8,9,10] ?_; intro K6 k6
  refine zLoad ⟨?_⟩
  refine zLoad ⟨?_⟩
  refine zMove ⟨?_⟩
  refine zMove ⟨?_⟩
  refine zc (eqMove_con fa fl ta tl s n g1 g3 ((ths_iff _).1 g2) ((ths_iff _).1 g4) g5 g6) ⟨?_⟩
  refine zExtract ⟨?_⟩
  refine zExtract ⟨?_⟩
  refine zExtract ⟨?_⟩
  refine zStore ⟨?_⟩
  refine zStore ⟨?_⟩
  refine zAssign ⟨?_⟩
  refine k6 _ ?_
  refine zk ⟨?_⟩
  refine v_ret ?_
  refine r0 _ ?_
  refine zf ⟨?_⟩
  simp only [zE, zL, zO, zN, aStepM, optable, set_some, Nat.reduceEqDiff, reduceIte, Nat.reduceLT, implies_true, forall_const, reduceCtorEq, V.ofValue, V.ofScalar, V.un, V.gd, aLoad, row_mk, Blk.row, PartOK, Go.Vm.part, V.cells, V.noSl, V.noRef, Nat.reduceAdd, Nat.reduceLeDiff, Nat.reduceMul, Try.underlying9, Ty.c9, Ty.a9, Try.underlying23, Ty.c23, Ty.a23, Try.underlying29, Ty.c29, Ty.a29]
  try simp only [zE, zL, zO, zN, aStepM, optable, set_some, Nat.reduceEqDiff, reduceIte, Nat.reduceLT, implies_true, forall_const, reduceCtorEq, V.ofValue, V.ofScalar, V.un, V.gd, aLoad, row_mk, Blk.row, PartOK, Go.Vm.part, V.cells, V.noSl, V.noRef, Nat.reduceAdd, Nat.reduceLeDiff, Nat.reduceMul, Try.underlying9, Ty.c9, Ty.a9, Try.underlying23, Ty.c23, Ty.a23, Try.underlying29, Ty.c29, Ty.a29]
  rw [hA]
  exact ret_all rfl (by first | decide | simp [newIds, refsOf, refs2, refs1]) (by simp) rfl (by simp [newIds, refsOf, refs2, refs1]) (by simp [Blk.kindIs, fillK_fd]) rfl
set_option maxHeartbeats 1000000 in
theorem indexFuncLoad_con (l : List (ByteArray × List (ByteArray × Int × Int))) (g : Nat) (caps : List V) (p : ByteArray × List (ByteArray × Int × Int) → Bool) (hl : l.length ≤ 1048576) (hc : Caps caps) (hg : ∀ x0 x1, (x0, x1) ∈ l → Con Try.prog g (V.agg [V.str x0, V.sl (x1.map (fun t : ByteArray × Int × Int => V.agg [V.str t.1, V.int .i64 t.2.1, V.int .i64 t.2.2]))] :: caps) [] (.bool (p (x0, x1))) []) : Con Try.prog 98 [.sl (l.map (fun t : ByteArray × List (ByteArray × Int × Int) => V.agg [V.str t.1, V.sl (t.2.map (fun t : ByteArray × Int × Int => V.agg [V.str t.1, V.int .i64 t.2.1, V.int .i64 t.2.2]))])), .fn g caps] [] (.int .i64 (firstP p 0 l)) [] := by
 refine v_con [.tmp 4] [] Try.func98 rfl rfl rfl (by simp [Try.ntmps98]) ?_
 intro Q0 n0 r0
 simp only [Try.ntmps98, envFrom, Nat.reduceAdd]
 have T := Tys.mk (And.intro Ty.t3 (And.intro Ty.t4 (And.intro Ty.t9 (And.intro Ty.t23 (And.intro Ty.t29 (And.intro Ty.t38 Ty.t41))))))
 have F := Fc.mk True.intro
 refine v_seqR [0,1] ?_; intro K1 k1
 refine zAssign ⟨?_⟩
 refine k1 _ ?_
 refine zk ⟨?_⟩
 refine v_seq ?_; intro Q2 n2 e2 r2
 refine v_seqR [0,1,7,8] ?_; intro K3 k3
 refine zMove ⟨?_⟩
 refine zLen ⟨?_⟩
 refine zMove ⟨?_⟩
 refine k3 _ ?_
 refine zk ⟨?_⟩
 refine v_block ?_; intro Q4 n4 x4 e4 r4
 refine v_loop (fun i => ⟨[(0, .sl (l.map (fun t : ByteArray × List (ByteArray × Int × Int) => V.agg [V.str t.1, V.sl (t.2.map (fun t : ByteArray × Int × Int => V.agg [V.str t.1, V.int .i64 t.2.1, V.int .i64 t.2.2]))]))), (1, .fn g caps), (7, .int .i64 l.length), (8, .int .i64 (Nat.cast i))], [], false, 19, 0⟩) (fun i => i ≤ l.length ∧ firstP p i (l.drop i) = firstP p 0 l) (fun i => l.length - i) 0 ?_ ?_ ?_
 ·refine weak_of [0, 1, 7, 8] ?_
  simp only [keep_mk, keepE_nil, keepE_cons, look_cons, look_nil, Nat.reduceEqDiff, reduceIte]
  rfl
 ·exact ⟨Nat.zero_le _, rfl⟩
 ·rintro i hok5 Q5 n5 e5 r5
  obtain ⟨hi1, hR⟩ := hok5
  refine v_seqR [0,1,7,8,9] ?_; intro K6 k6
  refine zBinOp ⟨?_⟩
  refine k6 _ ?_
  refine zk ⟨?_⟩
  refine v_seq ?_; intro Q7 n7 e7 r7
  refine v_condS _ rfl ?_ ?_
  ·intro hc0
   have hlt : i < l.length := by omega
   obtain ⟨⟨x0, x1⟩, hx⟩ : ∃ x : ByteArray × List (ByteArray × Int × Int), l[i]? = some x := ⟨l[i]'(by omega), List.getElem?_eq_getElem (by omega)⟩
   have hst := first_step (p := p) hx
   refine v_skip ?_
   refine n7 _ _ (weak_keep [0, 1, 7, 8] _) ?_
   refine zk ⟨?_⟩
   refine v_seq ?_; intro Q9 n9 e9 r9
   refine v_block ?_; intro Q10 n10 x10 e10 r10
   refine v_seqR [0,1,5,7,8] ?_; intro K11 k11
   have F := Fc.mk (fun f => getD_map (f := f) hx)
   refine zMove ⟨?_⟩
   refine zAssign ⟨?_⟩
   refine k11 _ ?_
   refine zk ⟨?_⟩
   refine v_seqR [0,1,5,7,8,16] ?_; intro K12 k12
   refine zMove ⟨?_⟩
   refine zMove ⟨?_⟩
   refine zMove ⟨?_⟩
   refine zIndexAddr ⟨?_⟩
   refine zLoad ⟨?_⟩
   refine zcc (hg x0 x1 (List.mem_of_getElem? hx)) ⟨?_⟩
   refine k12 _ ?_
   refine zk ⟨?_⟩
   refine v_condS _ rfl ?_ ?_
   ·intro hc1
    refine v_seqR [4] ?_; intro K14 k14
    refine zMove ⟨?_⟩
    refine zAssign ⟨?_⟩
    refine k14 _ ?_
    refine zk ⟨?_⟩
    refine v_ret ?_
    refine r10 _ ?_
    refine r9 _ ?_
    refine r5 _ ?_
    refine r4 _ ?_
    refine r2 _ ?_
    refine r0 _ ?_
    refine zf ⟨?_⟩
    exact ret_pure rfl (by rw [← hR, hst, if_pos hc1]) (.inl rfl)
   ·intro hc1
    refine v_skip ?_
    refine n10 _ ?_
    refine n9 _ _ (weak_keep [0, 1, 7, 8] _) ?_
    refine zk ⟨?_⟩
    refine v_region ?_; intro K15 k15
    refine zBinOpW ⟨?_⟩
    refine zMove ⟨?_⟩
    refine k15 _ ?_
    refine n5 _ (i + 1) ?_ ?_ ?_
    ·refine weak_bothC [0, 1, 7, 8] [] ⟨?_⟩
     rfl
    ·exact ⟨by omega, by rw [← hR, hst, if_neg (by simp [hc1])]⟩
    ·show _ < _; omega
  ·intro hc0
   refine v_exit ?_
   refine e7 _ _ ?_
   refine e5 _ _ ?_
   refine x4 _ ?_
   refine n2 _ _ (weak_keep [] _) ?_
   refine zk ⟨?_⟩
   refine v_seqR [4] ?_; intro K16 k16
   refine zAssign ⟨?_⟩
   refine k16 _ ?_
   refine zk ⟨?_⟩
   refine v_ret ?_
   refine r0 _ ?_
   refine zf ⟨?_⟩
   exact ret_pure rfl (by rw [← hR, first_end (by omega)]) (.inl rfl)
set_option maxHeartbeats 1000000 in
theorem containsFuncLoad_con (l : List (ByteArray × List (ByteArray × Int × Int))) (g : Nat) (caps : List V) (p : ByteArray × List (ByteArray × Int × Int) → Bool) (hl : l.length ≤ 1048576) (hc : Caps caps) (hg : ∀ x0 x1, (x0, x1) ∈ l → Con Try.prog g (V.agg [V.str x0, V.sl (x1.map (fun t : ByteArray × Int × Int => V.agg [V.str t.1, V.int .i64 t.2.1, V.int .i64 t.2.2]))] :: caps) [] (.bool (p (x0, x1))) []) : Con Try.prog 57 [.sl (l.map (fun t : ByteArray × List (ByteArray × Int × Int) => V.agg [V.str t.1, V.sl (t.2.map (fun t : ByteArray × Int × Int => V.agg [V.str t.1, V.int .i64 t.2.1, V.int .i64 t.2.2]))])), .fn g caps] [] (.bool (l.any p)) [] := by
 refine v_con [.tmp 4] [] Try.func57 rfl rfl rfl (by simp [Try.ntmps57]) ?_
 intro Q0 n0 r0
 simp only [Try.ntmps57, envFrom, Nat.reduceAdd]
 have T := Tys.mk (And.intro Ty.t3 (And.intro Ty.t9 (And.intro Ty.t23 (And.intro Ty.t29 (And.intro Ty.t38 Ty.t41)))))
 have F := Fc.mk True.intro
 refine v_seqR [0,1] ?_; intro K1 k1
 refine zAssign ⟨?_⟩
 refine k1 _ ?_
 refine zk ⟨?_⟩
 refine v_seqR [4] ?_; intro K2 k2
 refine zMove ⟨?_⟩
 refine zMove ⟨?_⟩
 refine zcc (indexFuncLoad_con l g caps p hl hc hg) ⟨?_⟩
 refine zBinOp ⟨?_⟩
 refine zAssign ⟨?_⟩
 refine k2 _ ?_
 refine zk ⟨?_⟩
 refine v_ret ?_
 refine r0 _ ?_
 refine zf ⟨?_⟩
 exact ret_pure rfl (by rw [first_any]) (.inl rfl)
def ldOK (x : ByteArray × List (ByteArray × Int × Int)) : Bool := nameB x.1 && thsB x.2
def ldChk : List (ByteArray × List (ByteArray × Int × Int)) → List (ByteArray × List (ByteArray × Int × Int)) → Bool
  | _, [] => true
  | pre, x :: l => (ldOK x && !(pre.any fun y => decide (y.1 = x.1))) && ldChk (pre ++ [x]) l
theorem ldChk_step {l : List (ByteArray × List (ByteArray × Int × Int))} {i : Nat} {x0 : ByteArray} {x1 : List (ByteArray × Int × Int)} (h : l[i]? = some (x0, x1)) : ldChk (l.take i) (l.drop i) = ((ldOK (x0, x1) && !((l.take i).any fun y => decide (y.1 = x0))) && ldChk (l.take (i + 1)) (l.drop (i + 1))) := by
  rw [getElem_drop_cons h, ldChk, List.take_add_one, h]; rfl
theorem ldChk_ok' : ∀ (l pre : List (ByteArray × List (ByteArray × Int × Int))), ldChk pre l = true → ∀ x ∈ l, ldOK x = true
  | [], _, _, x, hx => by cases hx
  | y :: l, pre, h, x, hx => by
    rw [ldChk, Bool.and_eq_true, Bool.and_eq_true] at h
    rcases List.mem_cons.1 hx with rfl | hx
    · exact h.1.1
    · exact ldChk_ok' l _ h.2 x hx
theorem ldChk_ok {l : List (ByteArray × List (ByteArray × Int × Int))} (h : ldChk [] l = true) : ∀ x ∈ l, ldOK x = true := ldChk_ok' l [] h
def cntSum : List (ByteArray × List (ByteArray × Int × Int)) → ByteArray → Int
  | [], _ => 0
  | x :: l, s => cntOf x.2 s + cntSum l s
theorem cntSum_app (s : ByteArray) : ∀ l m : List (ByteArray × List (ByteArray × Int × Int)), cntSum (l ++ m) s = cntSum l s + cntSum m s
  | [], m => by simp [cntSum]
  | x :: l, m => by rw [List.cons_append, cntSum, cntSum, cntSum_app s l m]; omega
theorem cntSum_step {l : List (ByteArray × List (ByteArray × Int × Int))} {s : ByteArray} {i : Nat} {x0 : ByteArray} {x1 : List (ByteArray × Int × Int)} (h : l[i]? = some (x0, x1)) : cntSum (l.take (i + 1)) s = cntSum (l.take i) s + cntOf x1 s := by
  rw [List.take_add_one, h, Option.toList_some, cntSum_app]
  simp [cntSum]
def cntB (l : List (ByteArray × List (ByteArray × Int × Int))) (s : ByteArray) : Bool := (decide ((l.length : Int) ≤ 7) && tnB s) && ldChk [] l
def cntV (l : List (ByteArray × List (ByteArray × Int × Int))) (s : ByteArray) : Int := if cntB l s = true then cntSum l s else 0
theorem any_step {α : Type} {p : α → Bool} {l : List α} {j : Nat} {y : α} (h : l[j]? = some y) : (l.take (j + 1)).any p = ((l.take j).any p || p y) := by
  rw [List.take_add_one, h, Option.toList_some, List.any_append]; simp

set_option maxHeartbeats 1000000 in
theorem countThings1_con (x0 : ByteArray) (x1 : List (ByteArray × Int × Int)) (y0 : ByteArray) (y1 : List (ByteArray × Int × Int)) : Con Try.prog 58 [.agg [V.str x0, V.sl (x1.map (fun t : ByteArray × Int × Int => V.agg [V.str t.1, V.int .i64 t.2.1, V.int .i64 t.2.2]))], .pv [V.agg [V.str y0, V.sl (y1.map (fun t : ByteArray × Int × Int => V.agg [V.str t.1, V.int .i64 t.2.1, V.int .i64 t.2.2]))]] 0 0] [] (.bool (decide (x0 = y0))) [] := by
 refine v_con [.tmp 3] [] Try.func58 rfl rfl rfl (by simp [Try.ntmps58]) ?_
 intro Q0 n0 r0
 simp only [Try.ntmps58, envFrom, Nat.reduceAdd]
 have T := Tys.mk (And.intro Ty.t3 (And.intro Ty.t9 (And.intro Ty.t23 (And.intro Ty.t29 Ty.t38))))
 have F := Fc.mk True.intro
 refine v_seqR [1,2] ?_; intro K1 k1
 refine zBox ⟨?_⟩
 refine zAssign ⟨?_⟩
 refine k1 _ ?_
 refine zk ⟨?_⟩
 refine v_seqR [3] ?_; intro K2 k2
 refine zFieldAddr ⟨?_⟩
 refine zLoad ⟨?_⟩
 refine zFieldAddr ⟨?_⟩
 refine zLoad ⟨?_⟩
 refine zBinOp ⟨?_⟩
 refine zAssign ⟨?_⟩
 refine k2 _ ?_
 refine zk ⟨?_⟩
 refine v_ret ?_
 refine r0 _ ?_
 refine zf ⟨?_⟩
 exact ret_pure rfl (by first | rfl | simp) (.inl rfl)
set_option maxHeartbeats 1000000 in
theorem implCount_con (l : List (ByteArray × List (ByteArray × Int × Int))) (hl : l.length ≤ 1048576) (hlz : ∀ x ∈ l, x.1.size ≤ 9223372036854775807 ∧ x.2.length ≤ 1048576 ∧ ∀ t ∈ x.2, t.1.size ≤ 9223372036854775807) (s : ByteArray) (hss : s.size ≤ 9223372036854775807) : Con Try.prog 17 [.sl (l.map (fun t : ByteArray × List (ByteArray × Int × Int) => V.agg [V.str t.1, V.sl (t.2.map (fun t : ByteArray × Int × Int => V.agg [V.str t.1, V.int .i64 t.2.1, V.int .i64 t.2.2]))])), .str s] [] (.tup [.int .i64 (cntV l s), .bool (cntB l s)]) [] := by
 refine v_con [.tmp 4, .tmp 5] [] Try.func17 rfl rfl rfl (by simp [Try.ntmps17]) ?_
 intro Q0 n0 r0
 simp only [Try.ntmps17, envFrom, Nat.reduceAdd]
 have T := Tys.mk (And.intro Ty.t3 (And.intro Ty.t4 (And.intro Ty.t9 (And.intro Ty.t23 (And.intro Ty.t29 (And.intro Ty.t38 Ty.t41))))))
 have F := Fc.mk True.intro
 refine v_seqR [0,1] ?_; intro K1 k1
 refine zAssign ⟨?_⟩
 refine zAssign ⟨?_⟩
 refine k1 _ ?_
 refine zk ⟨?_⟩
 refine v_seq ?_; intro Q2 n2 e2 r2
 refine v_seqR [0,1,16] ?_; intro K3 k3
 refine zMove ⟨?_⟩
 refine zLen ⟨?_⟩
 refine zBinOp ⟨?_⟩
 refine zMove ⟨?_⟩
 refine zgMove ⟨?_⟩
 refine zgc (isThingName_con s hss) ⟨?_⟩
 refine zgUnOp ⟨?_⟩
 refine zPick ⟨?_⟩
 refine k3 _ ?_
 refine zk ⟨?_⟩
 refine v_condS _ rfl ?_ ?_
 ·intro hc0
  have hB : (cntB l s) = false := by
   rw [cntB]
   by_cases q : (l.length : Int) ≤ 7 <;> cases h : tnB s <;> simp [q, h] at hc0 ⊢ <;> (try omega)
  have hV : cntV l s = 0 := by rw [cntV, hB]; rfl
  refine v_seqR [4,5] ?_; intro K5 k5
  refine zAssign ⟨?_⟩
  refine zAssign ⟨?_⟩
  refine k5 _ ?_
  refine zk ⟨?_⟩
  refine v_ret ?_
  refine r2 _ ?_
  refine r0 _ ?_
  refine zf ⟨?_⟩
  exact ret_pure rfl (by rw [hV, hB]) (.inl rfl)
 ·intro hc0
  have hg : ((l.length : Int) ≤ 7) ∧ tnB s = true := by
   by_cases q : (l.length : Int) ≤ 7 <;> cases h : tnB s <;> simp [q, h] at hc0 ⊢ <;> (try omega)
  obtain ⟨hl7, hsn⟩ := hg
  refine v_skip ?_
  refine n2 _ _ (weak_keep [0, 1] _) ?_
  refine zk ⟨?_⟩
  refine v_seqR [0,1,6] ?_; intro K6 k6
  refine zAssign ⟨?_⟩
  refine k6 _ ?_
  refine zk ⟨?_⟩
  refine v_seq ?_; intro Q7 n7 e7 r7
  refine v_seqR [0,1,6,17,18,19] ?_; intro K8 k8
  refine zMove ⟨?_⟩
  refine zLen ⟨?_⟩
  refine zMove ⟨?_⟩
  refine k8 _ ?_
  refine zk ⟨?_⟩
  refine v_block ?_; intro Q9 n9 x9 e9 r9
  refine v_loop (fun p => ⟨[(0, .sl (l.map (fun t : ByteArray × List (ByteArray × Int × Int) => V.agg [V.str t.1, V.sl (t.2.map (fun t : ByteArray × Int × Int => V.agg [V.str t.1, V.int .i64 t.2.1, V.int .i64 t.2.2]))]))), (1, .str s), (6, .int .i64 p.2), (17, .sl (l.map (fun t : ByteArray × List (ByteArray × Int × Int) => V.agg [V.str t.1, V.sl (t.2.map (fun t : ByteArray × Int × Int => V.agg [V.str t.1, V.int .i64 t.2.1, V.int .i64 t.2.2]))]))), (18, .int .i64 l.length), (19, .int .i64 (Nat.cast p.1))], [], false, 42, 0⟩) (fun p => p.1 ≤ l.length ∧ ldChk (l.take p.1) (l.drop p.1) = ldChk [] l ∧ p.2 = cntSum (l.take p.1) s ∧ 0 ≤ p.2 ∧ p.2 ≤ 99 * (p.1 : Int)) (fun p => l.length - p.1) ((0, 0) : Nat × Int) ?_ ?_ ?_
  ·refine weak_bothS [0, 1, 6, 17, 18, 19] [] ⟨?_⟩
   rfl
  ·exact ⟨Nat.zero_le _, rfl, rfl, by simp⟩
  ·rintro ⟨i, sm⟩ hok10 Q10 n10 e10 r10
   obtain ⟨hi1, hR, hS, hsb⟩ := hok10
   simp only [] at hi1 hR hS hsb ⊢
   refine v_seqR [0,1,6,17,18,19,20] ?_; intro K11 k11
   refine zBinOp ⟨?_⟩
   refine k11 _ ?_
   refine zk ⟨?_⟩
   refine v_seq ?_; intro Q12 n12 e12 r12
   refine v_condS _ rfl ?_ ?_
   ·intro hc1
    have hlt : i < l.length := by omega
    obtain ⟨⟨x0, x1⟩, hx⟩ : ∃ x : ByteArray × List (ByteArray × Int × Int), l[i]? = some x := ⟨l[i]'(by omega), List.getElem?_eq_getElem (by omega)⟩
    have hxz := hlz _ (List.mem_of_getElem? hx)
    simp only [] at hxz
    have hst := ldChk_step hx
    refine v_skip ?_
    refine n12 _ _ (weak_keep [0, 1, 6, 17, 18, 19] _) ?_
    refine zk ⟨?_⟩
    refine v_seq ?_; intro Q14 n14 e14 r14
    refine v_block ?_; intro Q15 n15 x15 e15 r15
    refine v_seqR [0,1,6,7,8,17,18,19] ?_; intro K16 k16
    have F := Fc.mk (fun f => getD_map (f := f) hx)
    refine zMove ⟨?_⟩
    refine zIndexAddr ⟨?_⟩
    refine zLoad ⟨?_⟩
    refine zAlloc ⟨?_⟩
    refine zAssign ⟨?_⟩
    refine zStore ⟨?_⟩
    refine k16 _ ?_
    refine zk ⟨?_⟩
    refine v_seq ?_; intro Q17 n17 e17 r17
    refine v_seqR [0,1,6,8,17,18,19,33] ?_; intro K18 k18
    refine zLoad ⟨?_⟩
    refine zc (isLoad_con x0 x1 hxz.1 hxz.2.1 hxz.2.2) ⟨?_⟩
    refine zUnOp ⟨?_⟩
    refine zMove ⟨?_⟩
    refine zgMove ⟨?_⟩
    refine zgMove ⟨?_⟩
    refine zgSlice ⟨?_⟩
    refine zgMakeFunc ⟨?_⟩
    refine zgc (containsFuncLoad_con (l.take i) _ _ (fun y => decide (y.1 = x0)) (by rw [List.length_take]; omega) (.pv _ .nil) (fun y0 y1 _ => countThings1_con y0 y1 x0 x1)) ⟨?_⟩
    refine zPick ⟨?_⟩
    refine k18 _ ?_
    refine zk ⟨?_⟩
    refine v_condS _ rfl ?_ ?_
    ·intro hc2
     have hbad : ldChk (l.take i) (l.drop i) = false := by
      rw [hst]
      revert hc2
      unfold ldOK
      cases nameB x0 <;> cases thsB x1 <;> cases ((l.take i).any fun y => decide (y.1 = x0)) <;> simp
     have hB : (cntB l s) = false := by rw [cntB, ← hR, hbad]; simp
     have hV : cntV l s = 0 := by rw [cntV, hB]; rfl
     refine v_seqR [4,5] ?_; intro K20 k20
     refine zAssign ⟨?_⟩
     refine zAssign ⟨?_⟩
     refine k20 _ ?_
     refine zk ⟨?_⟩
     refine v_ret ?_
     refine r17 _ ?_
     refine r15 _ ?_
     refine r14 _ ?_
     refine r10 _ ?_
     refine r9 _ ?_
     refine r7 _ ?_
     refine r0 _ ?_
     refine zf ⟨?_⟩
     exact ret_pure rfl (by rw [hV, hB]) (.inl rfl)
    ·intro hc2
     have hgd : (nameB x0 && thsB x1) = true ∧ ldChk (l.take (i + 1)) (l.drop (i + 1)) = ldChk (l.take i) (l.drop i) := by
      rw [hst]
      revert hc2
      unfold ldOK
      cases nameB x0 <;> cases thsB x1 <;> cases ((l.take i).any fun y => decide (y.1 = x0)) <;> simp
     clear hc2 hst
     have hxk := (ths_iff x1).1 (by have := hgd.1; rw [Bool.and_eq_true] at this; exact this.2)
     have hcb := cnt_bound (fun t h => (hxk.ok t h).2.1) s
     have hcs := cntSum_step (s := s) hx
     refine v_skip ?_
     refine n17 _ _ (weak_keep [0, 1, 6, 8, 17, 18, 19] _) ?_
     refine zk ⟨?_⟩
     refine v_region ?_; intro K21 k21
     refine zMove ⟨?_⟩
     refine zFieldAddr ⟨?_⟩
     refine zLoad ⟨?_⟩
     refine zMove ⟨?_⟩
     refine zc (countOf_con x1 s hxz.2.1) ⟨?_⟩
     refine zBinOpW ⟨?_⟩
     refine zAssign ⟨?_⟩
     refine k21 _ ?_
     refine n15 _ ?_
     refine n14 _ _ (weak_keep [0, 1, 6, 17, 18, 19] _) ?_
     refine zk ⟨?_⟩
     refine v_region ?_; intro K22 k22
     refine zBinOpW ⟨?_⟩
     refine zMove ⟨?_⟩
     refine k22 _ ?_
     refine n10 _ (i + 1, sm + cntOf x1 s) ?_ ?_ ?_
     ·refine weak_bothS [0, 1, 6, 17, 18, 19] [] ⟨?_⟩
      rfl
     ·exact ⟨hlt, by show ldChk (l.take (i + 1)) (l.drop (i + 1)) = _; rw [hgd.2, hR], by show sm + cntOf x1 s = _; rw [hcs, hS], by show 0 ≤ sm + cntOf x1 s ∧ sm + cntOf x1 s ≤ 99 * ((i + 1 : Nat) : Int); omega⟩
     ·show _ < _; show l.length - (i + 1) < l.length - i; omega
   ·intro hc1
    refine v_exit ?_
    refine e12 _ _ ?_
    refine e10 _ _ ?_
    refine x9 _ ?_
    refine n7 _ _ (weak_keep [6] _) ?_
    refine zk ⟨?_⟩
    refine v_seqR [4,5] ?_; intro K23 k23
    refine zMove ⟨?_⟩
    refine zAssign ⟨?_⟩
    refine zAssign ⟨?_⟩
    refine k23 _ ?_
    refine zk ⟨?_⟩
    refine v_ret ?_
    refine r0 _ ?_
    refine zf ⟨?_⟩
    have hend : ldChk [] l = true := by rw [← hR, List.drop_of_length_le (by omega)]; rfl
    have hB : (cntB l s) = true := by rw [cntB, hend, hsn, decide_eq_true hl7]; rfl
    exact ret_pure rfl (by rw [hB, cntV, hB, if_pos rfl, hS, List.take_of_length_le (by omega)]) (.inl rfl)
set_option maxHeartbeats 1000000 in
theorem eqLoads_con (l : List (ByteArray × List (ByteArray × Int × Int))) (hl : l.length ≤ 1048576) (hlz : ∀ x ∈ l, x.1.size ≤ 9223372036854775807 ∧ x.2.length ≤ 1048576 ∧ ∀ t ∈ x.2, t.1.size ≤ 9223372036854775807) (m : Int) : Con Try.prog 56 [.sl (l.map (fun t : ByteArray × List (ByteArray × Int × Int) => V.agg [V.str t.1, V.sl (t.2.map (fun t : ByteArray × Int × Int => V.agg [V.str t.1, V.int .i64 t.2.1, V.int .i64 t.2.2]))])), .int .i64 m] [] (.bool (ldChk [] l && decide ((l.length : Int) ≤ m))) [] := by
 refine v_con [.tmp 4] [] Try.func56 rfl rfl rfl (by simp [Try.ntmps56]) ?_
 intro Q0 n0 r0
 simp only [Try.ntmps56, envFrom, Nat.reduceAdd]
 have T := Tys.mk (And.intro Ty.t3 (And.intro Ty.t4 (And.intro Ty.t9 (And.intro Ty.t23 (And.intro Ty.t29 (And.intro Ty.t38 Ty.t41))))))
 have F := Fc.mk True.intro
 refine v_seqR [0,1] ?_; intro K1 k1
 refine zAssign ⟨?_⟩
 refine k1 _ ?_
 refine zk ⟨?_⟩
 refine v_seq ?_; intro Q2 n2 e2 r2
 refine v_seqR [0,1,9,10,11] ?_; intro K3 k3
 refine zMove ⟨?_⟩
 refine zLen ⟨?_⟩
 refine zMove ⟨?_⟩
 refine k3 _ ?_
 refine zk ⟨?_⟩
 refine v_block ?_; intro Q4 n4 x4 e4 r4
 refine v_loop (fun i => ⟨[(0, .sl (l.map (fun t : ByteArray × List (ByteArray × Int × Int) => V.agg [V.str t.1, V.sl (t.2.map (fun t : ByteArray × Int × Int => V.agg [V.str t.1, V.int .i64 t.2.1, V.int .i64 t.2.2]))]))), (1, .int .i64 m), (9, .sl (l.map (fun t : ByteArray × List (ByteArray × Int × Int) => V.agg [V.str t.1, V.sl (t.2.map (fun t : ByteArray × Int × Int => V.agg [V.str t.1, V.int .i64 t.2.1, V.int .i64 t.2.2]))]))), (10, .int .i64 l.length), (11, .int .i64 (Nat.cast i))], [], false, 38, 0⟩) (fun i => i ≤ l.length ∧ ldChk (l.take i) (l.drop i) = ldChk [] l) (fun i => l.length - i) 0 ?_ ?_ ?_
 ·refine weak_bothS [0, 1, 9, 10, 11] [] ⟨?_⟩
  rfl
 ·exact ⟨Nat.zero_le _, rfl⟩
 ·rintro i hok5 Q5 n5 e5 r5
  obtain ⟨hi1, hR⟩ := hok5
  refine v_seqR [0,1,9,10,11,12] ?_; intro K6 k6
  refine zBinOp ⟨?_⟩
  refine k6 _ ?_
  refine zk ⟨?_⟩
  refine v_seq ?_; intro Q7 n7 e7 r7
  refine v_condS _ rfl ?_ ?_
  ·intro hc0
   have hlt : i < l.length := by omega
   obtain ⟨⟨x0, x1⟩, hx⟩ : ∃ x : ByteArray × List (ByteArray × Int × Int), l[i]? = some x := ⟨l[i]'(by omega), List.getElem?_eq_getElem (by omega)⟩
   have hxz := hlz _ (List.mem_of_getElem? hx)
   simp only [] at hxz
   have hst := ldChk_step hx
   refine v_skip ?_
   refine n7 _ _ (weak_keep [0, 1, 9, 10, 11] _) ?_
   refine zk ⟨?_⟩
   refine v_seq ?_; intro Q9 n9 e9 r9
   refine v_block ?_; intro Q10 n10 x10 e10 r10
   refine v_seqR [0,1,5,6,9,10,11] ?_; intro K11 k11
   have F := Fc.mk (fun f => getD_map (f := f) hx)
   refine zMove ⟨?_⟩
   refine zIndexAddr ⟨?_⟩
   refine zLoad ⟨?_⟩
   refine zAlloc ⟨?_⟩
   refine zAssign ⟨?_⟩
   refine zStore ⟨?_⟩
   refine k11 _ ?_
   refine zk ⟨?_⟩
   refine v_seq ?_; intro Q12 n12 e12 r12
   refine v_seqR [0,1,5,6,9,10,11,18] ?_; intro K13 k13
   refine zLoad ⟨?_⟩
   refine zc (eqLoad_con x0 x1 hxz.1 hxz.2.1 hxz.2.2) ⟨?_⟩
   refine zUnOp ⟨?_⟩
   refine k13 _ ?_
   refine zk ⟨?_⟩
   refine v_condS _ rfl ?_ ?_
   ·intro hc1
    have hbad : ldChk (l.take i) (l.drop i) = false := by
     rw [hst]
     have h : ldOK (x0, x1) = false := by unfold ldOK; simpa using hc1
     rw [h]; rfl
    refine v_seqR [4] ?_; intro K15 k15
    refine zAssign ⟨?_⟩
    refine k15 _ ?_
    refine zk ⟨?_⟩
    refine v_ret ?_
    refine r12 _ ?_
    refine r10 _ ?_
    refine r9 _ ?_
    refine r5 _ ?_
    refine r4 _ ?_
    refine r2 _ ?_
    refine r0 _ ?_
    refine zf ⟨?_⟩
    exact ret_pure rfl (by rw [← hR, hbad]; rfl) (.inl rfl)
   ·intro hc1
    have hok1 : ldOK (x0, x1) = true := by unfold ldOK; simpa using hc1
    refine v_skip ?_
    refine n12 _ _ (weak_keep [0, 1, 5, 6, 9, 10, 11] _) ?_
    refine zk ⟨?_⟩
    refine v_seqR [0,1,6,9,10,11,21,22,23] ?_; intro K16 k16
    refine zMove ⟨?_⟩
    refine zMove ⟨?_⟩
    refine zSlice ⟨?_⟩
    refine zLen ⟨?_⟩
    refine zMove ⟨?_⟩
    refine k16 _ ?_
    refine zk ⟨?_⟩
    refine v_block ?_; intro Q17 n17 x17 e17 r17
    refine v_loop (fun j => ⟨[(0, .sl (l.map (fun t : ByteArray × List (ByteArray × Int × Int) => V.agg [V.str t.1, V.sl (t.2.map (fun t : ByteArray × Int × Int => V.agg [V.str t.1, V.int .i64 t.2.1, V.int .i64 t.2.2]))]))), (1, .int .i64 m), (6, .ptr 0 0 0), (9, .sl (l.map (fun t : ByteArray × List (ByteArray × Int × Int) => V.agg [V.str t.1, V.sl (t.2.map (fun t : ByteArray × Int × Int => V.agg [V.str t.1, V.int .i64 t.2.1, V.int .i64 t.2.2]))]))), (10, .int .i64 l.length), (11, .int .i64 (Nat.cast i)), (21, .sl ((l.take i).map (fun t : ByteArray × List (ByteArray × Int × Int) => V.agg [V.str t.1, V.sl (t.2.map (fun t : ByteArray × Int × Int => V.agg [V.str t.1, V.int .i64 t.2.1, V.int .i64 t.2.2]))]))), (22, .int .i64 (l.take i).length), (23, .int .i64 (Nat.cast j))], [.box (.agg [V.str x0, V.sl (x1.map (fun t : ByteArray × Int × Int => V.agg [V.str t.1, V.int .i64 t.2.1, V.int .i64 t.2.2]))]) .shal], false, 38, 0⟩) (fun j => j ≤ (l.take i).length ∧ (((l.take i).take j).any fun y => decide (y.1 = x0)) = false) (fun j => (l.take i).length - j) 0 ?_ ?_ ?_
    ·refine weak_bothS [0, 1, 6, 9, 10, 11, 21, 22, 23] [1] ⟨?_⟩
     rfl
    ·exact ⟨Nat.zero_le _, rfl⟩
    ·rintro j hok18 Q18 n18 e18 r18
     obtain ⟨hj1, hJ⟩ := hok18
     refine v_seqR [0,1,6,9,10,11,21,22,23,24] ?_; intro K19 k19
     refine zBinOp ⟨?_⟩
     refine k19 _ ?_
     refine zk ⟨?_⟩
     refine v_seq ?_; intro Q20 n20 e20 r20
     refine v_condS _ rfl ?_ ?_
     ·intro hc2
      have hltj : j < (l.take i).length := by omega
      have hlti : (l.take i).length ≤ 1048576 := by rw [List.length_take]; omega
      obtain ⟨⟨y0, y1⟩, hy⟩ : ∃ x : ByteArray × List (ByteArray × Int × Int), (l.take i)[j]? = some x := ⟨(l.take i)[j]'(by omega), List.getElem?_eq_getElem (by omega)⟩
      refine v_skip ?_
      refine n20 _ _ (weak_keep [0, 1, 6, 9, 10, 11, 21, 22, 23] _) ?_
      refine zk ⟨?_⟩
      refine v_seq ?_; intro Q22 n22 e22 r22
      refine v_block ?_; intro Q23 n23 x23 e23 r23
      refine v_seqR [0,1,6,8,9,10,11,21,22,23] ?_; intro K24 k24
      have F := Fc.mk (And.intro (fun f => getD_map (f := f) hx) (fun f => getD_map (f := f) hy))
      refine zIndexAddr ⟨?_⟩
      refine zLoad ⟨?_⟩
      refine zAlloc ⟨?_⟩
      refine zStore ⟨?_⟩
      refine k24 _ ?_
      refine zk ⟨?_⟩
      refine v_seqR [0,1,6,9,10,11,21,22,23,31] ?_; intro K25 k25
      refine zFieldAddr ⟨?_⟩
      refine zLoad ⟨?_⟩
      refine zFieldAddr ⟨?_⟩
      refine zLoad ⟨?_⟩
      refine zBinOp ⟨?_⟩
      refine k25 _ ?_
      refine zk ⟨?_⟩
      refine v_condS _ rfl ?_ ?_
      ·intro hc3
       have hbad : ldChk (l.take i) (l.drop i) = false := by
        rw [hst]
        have h : ((l.take i).any fun y => decide (y.1 = x0)) = true := List.any_eq_true.2 ⟨_, List.mem_of_getElem? hy, by simpa using hc3.symm⟩
        rw [h]; simp
       refine v_seqR [4] ?_; intro K27 k27
       refine zAssign ⟨?_⟩
       refine k27 _ ?_
       refine zk ⟨?_⟩
       refine v_ret ?_
       refine r23 _ ?_
       refine r22 _ ?_
       refine r18 _ ?_
       refine r17 _ ?_
       refine r10 _ ?_
       refine r9 _ ?_
       refine r5 _ ?_
       refine r4 _ ?_
       refine r2 _ ?_
       refine r0 _ ?_
       refine zf ⟨?_⟩
       exact ret_pure rfl (by rw [← hR, hbad]; rfl) (.inl rfl)
      ·intro hc3
       have hne : decide (y0 = x0) = false := decide_eq_false (fun e => hc3 e.symm)
       have hany := any_step (p := fun y : ByteArray × List (ByteArray × Int × Int) => decide (y.1 = x0)) hy
       refine v_skip ?_
       refine n23 _ ?_
       refine n22 _ _ (weak_keep [0, 1, 6, 9, 10, 11, 21, 22, 23] _) ?_
       refine zk ⟨?_⟩
       refine v_region ?_; intro K28 k28
       refine zBinOpW ⟨?_⟩
       refine zMove ⟨?_⟩
       refine k28 _ ?_
       refine n18 _ (j + 1) ?_ ?_ ?_
       ·refine weak_bothS [0, 1, 6, 9, 10, 11, 21, 22, 23] [0] ⟨?_⟩
        rfl
       ·exact ⟨hltj, by rw [hany, hJ, hne]; rfl⟩
       ·show _ < _; omega
     ·intro hc2
      have hnone : ((l.take i).any fun y => decide (y.1 = x0)) = false := by
       have e : (l.take i).take j = l.take i := List.take_of_length_le (by omega)
       rw [← hJ, e]
      have hgd : ldChk (l.take (i + 1)) (l.drop (i + 1)) = ldChk (l.take i) (l.drop i) := by rw [hst, hok1, hnone]; rfl
      refine v_exit ?_
      refine e20 _ _ ?_
      refine e18 _ _ ?_
      refine x17 _ ?_
      refine n10 _ ?_
      refine n9 _ _ (weak_keep [0, 1, 9, 10, 11] _) ?_
      refine zk ⟨?_⟩
      refine v_region ?_; intro K29 k29
      refine zBinOpW ⟨?_⟩
      refine zMove ⟨?_⟩
      refine k29 _ ?_
      refine n5 _ (i + 1) ?_ ?_ ?_
      ·refine weak_bothS [0, 1, 9, 10, 11] [] ⟨?_⟩
       rfl
      ·exact ⟨hlt, by rw [hgd, hR]⟩
      ·show _ < _; omega
  ·intro hc0
   refine v_exit ?_
   refine e7 _ _ ?_
   refine e5 _ _ ?_
   refine x4 _ ?_
   refine n2 _ _ (weak_keep [0, 1] _) ?_
   refine zk ⟨?_⟩
   refine v_seqR [4] ?_; intro K30 k30
   refine zMove ⟨?_⟩
   refine zLen ⟨?_⟩
   refine zMove ⟨?_⟩
   refine zBinOp ⟨?_⟩
   refine zAssign ⟨?_⟩
   refine k30 _ ?_
   refine zk ⟨?_⟩
   refine v_ret ?_
   refine r0 _ ?_
   refine zf ⟨?_⟩
   have hend : ldChk [] l = true := by rw [← hR, List.drop_of_length_le (by omega)]; rfl
   exact ret_pure rfl (by rw [hend]; rfl) (.inl rfl)
set_option maxHeartbeats 1000000 in
theorem specCount_con (l : List (ByteArray × List (ByteArray × Int × Int))) (hl : l.length ≤ 1048576) (hlz : ∀ x ∈ l, x.1.size ≤ 9223372036854775807 ∧ x.2.length ≤ 1048576 ∧ ∀ t ∈ x.2, t.1.size ≤ 9223372036854775807) (s : ByteArray) (hss : s.size ≤ 9223372036854775807) : Con Try.prog 16 [.sl (l.map (fun t : ByteArray × List (ByteArray × Int × Int) => V.agg [V.str t.1, V.sl (t.2.map (fun t : ByteArray × Int × Int => V.agg [V.str t.1, V.int .i64 t.2.1, V.int .i64 t.2.2]))])), .str s] [] (.tup [.int .i64 (cntV l s), .bool (cntB l s)]) [] := by
 refine v_con [.tmp 4, .tmp 5] [] Try.func16 rfl rfl rfl (by simp [Try.ntmps16]) ?_
 intro Q0 n0 r0
 simp only [Try.ntmps16, envFrom, Nat.reduceAdd]
 have T := Tys.mk (And.intro Ty.t3 (And.intro Ty.t4 (And.intro Ty.t9 (And.intro Ty.t23 (And.intro Ty.t29 (And.intro Ty.t38 Ty.t41))))))
 have F := Fc.mk True.intro
 refine v_seqR [0,1] ?_; intro K1 k1
 refine zAssign ⟨?_⟩
 refine zAssign ⟨?_⟩
 refine k1 _ ?_
 refine zk ⟨?_⟩
 refine v_seq ?_; intro Q2 n2 e2 r2
 refine v_seqR [0,1,16] ?_; intro K3 k3
 refine zMove ⟨?_⟩
 refine zc (eqLoads_con l hl hlz 7) ⟨?_⟩
 refine zUnOp ⟨?_⟩
 refine zMove ⟨?_⟩
 refine zgMove ⟨?_⟩
 refine zgc (eqName_con s hss) ⟨?_⟩
 refine zgUnOp ⟨?_⟩
 refine zPick ⟨?_⟩
 refine k3 _ ?_
 refine zk ⟨?_⟩
 refine v_condS _ rfl ?_ ?_
 ·intro hc0
  have hB : (cntB l s) = false := by
   rw [cntB]
   by_cases q : (l.length : Int) ≤ 7 <;> cases h : tnB s <;> cases h2 : ldChk [] l <;> simp [q, h, h2] at hc0 ⊢ <;> (try omega)
  have hV : cntV l s = 0 := by rw [cntV, hB]; rfl
  refine v_seqR [4,5] ?_; intro K5 k5
  refine zAssign ⟨?_⟩
  refine zAssign ⟨?_⟩
  refine k5 _ ?_
  refine zk ⟨?_⟩
  refine v_ret ?_
  refine r2 _ ?_
  refine r0 _ ?_
  refine zf ⟨?_⟩
  exact ret_pure rfl (by rw [hV, hB]) (.inl rfl)
 ·intro hc0
  have hg : ((l.length : Int) ≤ 7) ∧ tnB s = true ∧ ldChk [] l = true := by
   by_cases q : (l.length : Int) ≤ 7 <;> cases h : tnB s <;> cases h2 : ldChk [] l <;> simp [q, h, h2] at hc0 ⊢ <;> (try omega)
  obtain ⟨hl7, hsn, hld⟩ := hg
  have hall := ldChk_ok hld
  have hB : (cntB l s) = true := by rw [cntB, hld, hsn, decide_eq_true hl7]; rfl
  refine v_skip ?_
  refine n2 _ _ (weak_keep [0, 1] _) ?_
  refine zk ⟨?_⟩
  refine v_seqR [0,1,6] ?_; intro K6 k6
  refine zAssign ⟨?_⟩
  refine k6 _ ?_
  refine zk ⟨?_⟩
  refine v_seq ?_; intro Q7 n7 e7 r7
  refine v_seqR [1,6,17,18,19] ?_; intro K8 k8
  refine zMove ⟨?_⟩
  refine zLen ⟨?_⟩
  refine zMove ⟨?_⟩
  refine k8 _ ?_
  refine zk ⟨?_⟩
  refine v_block ?_; intro Q9 n9 x9 e9 r9
  refine v_loop (fun p => ⟨[(1, .str s), (6, .int .i64 p.2), (17, .sl (l.map (fun t : ByteArray × List (ByteArray × Int × Int) => V.agg [V.str t.1, V.sl (t.2.map (fun t : ByteArray × Int × Int => V.agg [V.str t.1, V.int .i64 t.2.1, V.int .i64 t.2.2]))]))), (18, .int .i64 l.length), (19, .int .i64 (Nat.cast p.1))], [], false, 31, 0⟩) (fun p => p.1 ≤ l.length ∧ p.2 = cntSum (l.take p.1) s ∧ 0 ≤ p.2 ∧ p.2 ≤ 99 * (p.1 : Int)) (fun p => l.length - p.1) ((0, 0) : Nat × Int) ?_ ?_ ?_
  ·refine weak_bothS [1, 6, 17, 18, 19] [] ⟨?_⟩
   rfl
  ·exact ⟨Nat.zero_le _, rfl, by simp⟩
  ·rintro ⟨i, sm⟩ hok10 Q10 n10 e10 r10
   obtain ⟨hi1, hS, hsb⟩ := hok10
   simp only [] at hi1 hS hsb ⊢
   refine v_seqR [1,6,17,18,19,20] ?_; intro K11 k11
   refine zBinOp ⟨?_⟩
   refine k11 _ ?_
   refine zk ⟨?_⟩
   refine v_seq ?_; intro Q12 n12 e12 r12
   refine v_condS _ rfl ?_ ?_
   ·intro hc1
    have hlt : i < l.length := by omega
    obtain ⟨⟨x0, x1⟩, hx⟩ : ∃ x : ByteArray × List (ByteArray × Int × Int), l[i]? = some x := ⟨l[i]'(by omega), List.getElem?_eq_getElem (by omega)⟩
    have hxz := hlz _ (List.mem_of_getElem? hx)
    simp only [] at hxz
    have hgd := hall _ (List.mem_of_getElem? hx)
    have hxk := (ths_iff x1).1 (by unfold ldOK at hgd; rw [Bool.and_eq_true] at hgd; exact hgd.2)
    have hcb := cnt_bound (fun t h => (hxk.ok t h).2.1) s
    have hcs := cntSum_step (s := s) hx
    refine v_skip ?_
    refine n12 _ _ (weak_keep [1, 6, 17, 18, 19] _) ?_
    refine zk ⟨?_⟩
    refine v_seq ?_; intro Q14 n14 e14 r14
    refine v_block ?_; intro Q15 n15 x15 e15 r15
    refine v_seqR [1,6,8,17,18,19] ?_; intro K16 k16
    have F := Fc.mk (fun f => getD_map (f := f) hx)
    refine zIndexAddr ⟨?_⟩
    refine zLoad ⟨?_⟩
    refine zAlloc ⟨?_⟩
    refine zStore ⟨?_⟩
    refine k16 _ ?_
    refine zk ⟨?_⟩
    refine v_region ?_; intro K17 k17
    refine zMove ⟨?_⟩
    refine zFieldAddr ⟨?_⟩
    refine zLoad ⟨?_⟩
    refine zMove ⟨?_⟩
    refine zc (eqHas_con x1 s hxz.2.1 hxk.srt) ⟨?_⟩
    refine zBinOpW ⟨?_⟩
    refine zAssign ⟨?_⟩
    refine k17 _ ?_
    refine n15 _ ?_
    refine n14 _ _ (weak_keep [1, 6, 17, 18, 19] _) ?_
    refine zk ⟨?_⟩
    refine v_region ?_; intro K18 k18
    refine zBinOpW ⟨?_⟩
    refine zMove ⟨?_⟩
    refine k18 _ ?_
    refine n10 _ (i + 1, sm + cntOf x1 s) ?_ ?_ ?_
    ·refine weak_bothS [1, 6, 17, 18, 19] [] ⟨?_⟩
     rfl
    ·exact ⟨hlt, by show sm + cntOf x1 s = _; rw [hcs, hS], by show 0 ≤ sm + cntOf x1 s ∧ sm + cntOf x1 s ≤ 99 * ((i + 1 : Nat) : Int); omega⟩
    ·show _ < _; show l.length - (i + 1) < l.length - i; omega
   ·intro hc1
    refine v_exit ?_
    refine e12 _ _ ?_
    refine e10 _ _ ?_
    refine x9 _ ?_
    refine n7 _ _ (weak_keep [6] _) ?_
    refine zk ⟨?_⟩
    refine v_seqR [4,5] ?_; intro K19 k19
    refine zMove ⟨?_⟩
    refine zAssign ⟨?_⟩
    refine zAssign ⟨?_⟩
    refine k19 _ ?_
    refine zk ⟨?_⟩
    refine v_ret ?_
    refine r0 _ ?_
    refine zf ⟨?_⟩
    exact ret_pure rfl (by rw [hB, cntV, hB, if_pos rfl, hS, List.take_of_length_le (by omega)]) (.inl rfl)
set_option maxHeartbeats 1000000 in
theorem qThings_con (l : List (ByteArray × Int × Int)) (hl : l.length ≤ 1048576) : Con Try.prog 13 [.sl (l.map (fun t : ByteArray × Int × Int => V.agg [V.str t.1, V.int .i64 t.2.1, V.int .i64 t.2.2])), .sl (l.map (fun t : ByteArray × Int × Int => V.agg [V.str t.1, V.int .i64 t.2.1, V.int .i64 t.2.2]))] [] (.bool true) [] := by
 refine v_con [.tmp 4] [] Try.func13 rfl rfl rfl (by simp [Try.ntmps13]) ?_
 intro Q0 n0 r0
 simp only [Try.ntmps13, envFrom, Nat.reduceAdd]
 have T := Tys.mk (And.intro Ty.t3 (And.intro Ty.t9 (And.intro Ty.t23 Ty.t38)))
 have F := Fc.mk True.intro
 refine v_seqR [0,1] ?_; intro K1 k1
 refine zAssign ⟨?_⟩
 refine k1 _ ?_
 refine zk ⟨?_⟩
 refine v_seq ?_; intro Q2 n2 e2 r2
 refine v_seqR [0,1,10] ?_; intro K3 k3
 refine zMove ⟨?_⟩
 refine zLen ⟨?_⟩
 refine zMove ⟨?_⟩
 refine zLen ⟨?_⟩
 refine zBinOp ⟨?_⟩
 refine k3 _ ?_
 refine zk ⟨?_⟩
 refine v_cond _ rfl ?_ ?_
 ·intro hc0
  exfalso; simp at hc0
 ·intro hc0
  try simp only [zC, reduceCtorEq] at hc0
  refine v_skip ?_
  refine n2 _ _ (weak_keep [0, 1] _) ?_
  refine zk ⟨?_⟩
  refine v_seq ?_; intro Q5 n5 e5 r5
  refine v_seqR [0,1,12,13] ?_; intro K6 k6
  refine zMove ⟨?_⟩
  refine zLen ⟨?_⟩
  refine zMove ⟨?_⟩
  refine k6 _ ?_
  refine zk ⟨?_⟩
  refine v_block ?_; intro Q7 n7 x7 e7 r7
  refine v_loop (fun i => ⟨[(0, .sl (l.map (fun t : ByteArray × Int × Int => V.agg [V.str t.1, V.int .i64 t.2.1, V.int .i64 t.2.2]))), (1, .sl (l.map (fun t : ByteArray × Int × Int => V.agg [V.str t.1, V.int .i64 t.2.1, V.int .i64 t.2.2]))), (12, .int .i64 l.length), (13, .int .i64 (Nat.cast i))], [], false, 26, 0⟩) (fun i => i ≤ l.length) (fun i => l.length - i) 0 ?_ ?_ ?_
  ·refine weak_of [0, 1, 12, 13] ?_
   simp only [keep_mk, keepE_nil, keepE_cons, look_cons, look_nil, Nat.reduceEqDiff, reduceIte]
   rfl
  ·exact Nat.zero_le _
  ·rintro i hok8 Q8 n8 e8 r8
   have hi1 : i ≤ l.length := hok8
   refine v_seqR [0,1,12,13,14] ?_; intro K9 k9
   refine zBinOp ⟨?_⟩
   refine k9 _ ?_
   refine zk ⟨?_⟩
   refine v_seq ?_; intro Q10 n10 e10 r10
   refine v_condS _ rfl ?_ ?_
   ·intro hc1
    have hlt : i < l.length := by omega
    obtain ⟨⟨x0, x1, x2⟩, hx⟩ : ∃ x : ByteArray × Int × Int, l[i]? = some x := ⟨l[i]'(by omega), List.getElem?_eq_getElem (by omega)⟩
    refine v_skip ?_
    refine n10 _ _ (weak_keep [0, 1, 12, 13] _) ?_
    refine zk ⟨?_⟩
    refine v_seq ?_; intro Q12 n12 e12 r12
    refine v_block ?_; intro Q13 n13 x13 e13 r13
    refine v_seqR [0,1,5,12,13] ?_; intro K14 k14
    have F := Fc.mk (fun f => getD_map (f := f) hx)
    refine zMove ⟨?_⟩
    refine zAssign ⟨?_⟩
    refine k14 _ ?_
    refine zk ⟨?_⟩
    refine v_seq ?_; intro Q15 n15 e15 r15
    refine v_draw (by kernel_rfl) ?_; intro K16 q16 k16
    show aAny _ _ _ _ 9 (Array.replicate 9 false) _
    refine zdMove q16 true 0 16 ?_
    refine zdMove q16 true 1 17 ?_
    refine zdIndexAddr q16 true 2 18 ?_
    refine zdLoad q16 true 3 19 ?_
    refine zdMove q16 true 4 20 ?_
    refine zdMove q16 true 5 21 ?_
    refine zdIndexAddr q16 true 6 22 ?_
    refine zdLoad q16 true 7 23 ?_
    refine zdBinOp q16 true 8 24 ?_
    refine aAny_done (by kernel_rfl) ?_
    refine k16 _ ?_
    refine n15 _ _ (weak_keep [0, 1, 12, 13, 24] _) ?_
    refine zk ⟨?_⟩
    refine v_cond _ rfl ?_ ?_
    ·intro hc2
     exfalso; simp at hc2
    ·intro hc2
     try simp only [zC, reduceCtorEq] at hc2
     refine v_skip ?_
     refine n13 _ ?_
     refine n12 _ _ (weak_keep [0, 1, 12, 13] _) ?_
     refine zk ⟨?_⟩
     refine v_region ?_; intro K18 k18
     refine zBinOpW ⟨?_⟩
     refine zMove ⟨?_⟩
     refine k18 _ ?_
     refine n8 _ (i + 1) ?_ ?_ ?_
     ·refine weak_bothS [0, 1, 12, 13] [] ⟨?_⟩
      rfl
     ·exact hlt
     ·show _ < _; omega
   ·intro hc1
    refine v_exit ?_
    refine e10 _ _ ?_
    refine e8 _ _ ?_
    refine x7 _ ?_
    refine n5 _ _ (weak_keep [] _) ?_
    refine zk ⟨?_⟩
    refine v_seqR [4] ?_; intro K19 k19
    refine zAssign ⟨?_⟩
    refine k19 _ ?_
    refine zk ⟨?_⟩
    refine v_ret ?_
    refine r0 _ ?_
    refine zf ⟨?_⟩
    exact ret_pure rfl rfl (.inl rfl)
set_option maxHeartbeats 1000000 in
theorem qLoad_con (a : ByteArray) (l : List (ByteArray × Int × Int)) (hl : l.length ≤ 1048576) : Con Try.prog 14 [.agg [.str a, .sl (l.map (fun t : ByteArray × Int × Int => V.agg [V.str t.1, V.int .i64 t.2.1, V.int .i64 t.2.2]))], .agg [.str a, .sl (l.map (fun t : ByteArray × Int × Int => V.agg [V.str t.1, V.int .i64 t.2.1, V.int .i64 t.2.2]))]] [] (.bool true) [] := by
 refine v_con [.tmp 4] [] Try.func14 rfl rfl rfl (by simp [Try.ntmps14]) ?_
 intro Q0 n0 r0
 simp only [Try.ntmps14, envFrom, Nat.reduceAdd]
 have T := Tys.mk (And.intro Ty.t3 (And.intro Ty.t4 (And.intro Ty.t9 (And.intro Ty.t23 (And.intro Ty.t29 Ty.t38)))))
 have F := Fc.mk True.intro
 refine v_seqR [2,3] ?_; intro K1 k1
 refine zBox ⟨?_⟩
 refine zBox ⟨?_⟩
 refine zAssign ⟨?_⟩
 refine k1 _ ?_
 refine zk ⟨?_⟩
 refine v_seqR [4] ?_; intro K2 k2
 refine zFieldAddr ⟨?_⟩
 refine zLoad ⟨?_⟩
 refine zFieldAddr ⟨?_⟩
 refine zLoad ⟨?_⟩
 refine zBinOp ⟨?_⟩
 refine zMove ⟨?_⟩
 refine zgFieldAddr ⟨?_⟩
 refine zgLoad ⟨?_⟩
 refine zgFieldAddr ⟨?_⟩
 refine zgLoad ⟨?_⟩
 refine zgc (qThings_con l hl) ⟨?_⟩
 refine zPick ⟨?_⟩
 refine zAssign ⟨?_⟩
 refine k2 _ ?_
 refine zk ⟨?_⟩
 refine v_ret ?_
 refine r0 _ ?_
 refine zf ⟨?_⟩
 exact ret_pure rfl (by simp) (.inl rfl)
def sumC (l : List (ByteArray × Int × Int)) : Int := (l.map fun x => x.2.1).sum
theorem sumC_cons (x : (ByteArray × Int × Int)) (l : List (ByteArray × Int × Int)) : sumC (x :: l) = x.2.1 + sumC l := by simp [sumC]
theorem sumC_app (l m : List (ByteArray × Int × Int)) : sumC (l ++ m) = sumC l + sumC m := by simp [sumC, List.sum_append]
def pairM (x y : (ByteArray × Int × Int)) : Int := if x.1 = y.1 then (if x.2.1 ≤ y.2.1 then x.2.1 else y.2.1) else 0
def sumP (x : (ByteArray × Int × Int)) (t : List (ByteArray × Int × Int)) : Int := (t.map (pairM x)).sum
theorem sumP_none {x : (ByteArray × Int × Int)} : ∀ {t : List (ByteArray × Int × Int)}, (∀ y ∈ t, x.1 ≠ y.1) → sumP x t = 0
  | [], _ => rfl
  | y :: t, h => by
    have ih := sumP_none (t := t) fun z hz => h z (List.mem_cons_of_mem _ hz)
    unfold sumP at ih ⊢
    rw [List.map_cons, List.sum_cons, ih, pairM, if_neg (h y (List.mem_cons_self ..))]; rfl
theorem srt_ne {l : List (ByteArray × Int × Int)} (hs : SortedT l) : l.Pairwise fun x y => x.1 ≠ y.1 := hs.imp fun {x y} h e => by rw [e, str_irr] at h; cases h
theorem sumP_cnt {x : (ByteArray × Int × Int)} : ∀ {t : List (ByteArray × Int × Int)}, t.Pairwise (fun x y => x.1 ≠ y.1) → (∀ y ∈ t, 1 ≤ y.2.1) → 1 ≤ x.2.1 → sumP x t = if x.2.1 ≤ cntOf t x.1 then x.2.1 else cntOf t x.1
  | [], _, _, h1 => by simp [sumP, cntOf]; omega
  | y :: t, hp, hb, h1 => by
    rw [List.pairwise_cons] at hp
    have e : sumP x (y :: t) = pairM x y + sumP x t := by simp [sumP]
    rw [e]
    by_cases q : y.1 = x.1
    · have hz : sumP x t = 0 := sumP_none fun z hz => by rw [← q]; exact hp.1 z hz
      have hc : cntOf (y :: t) x.1 = y.2.1 := by simp [cntOf, List.find?_cons, q]
      rw [hz, hc, pairM, if_pos q.symm]; omega
    · have ih := sumP_cnt (x := x) hp.2 (fun z hz => hb z (List.mem_cons_of_mem _ hz)) h1
      have hc : cntOf (y :: t) x.1 = cntOf t x.1 := by simp [cntOf, List.find?_cons, q]
      rw [ih, hc, pairM, if_neg (fun e => q e.symm)]; omega
theorem pairM_comm (x y : (ByteArray × Int × Int)) : pairM x y = pairM y x := by
  unfold pairM
  by_cases q : x.1 = y.1
  · rw [if_pos q, if_pos q.symm]; split <;> split <;> omega
  · rw [if_neg q, if_neg (fun e => q e.symm)]
theorem sum_add (f g : (ByteArray × Int × Int) → Int) : ∀ l : List (ByteArray × Int × Int), (l.map fun x => f x + g x).sum = (l.map f).sum + (l.map g).sum
  | [] => rfl
  | x :: l => by simp only [List.map_cons, List.sum_cons, sum_add f g l]; omega
theorem sum_zero : ∀ l : List (ByteArray × Int × Int), (l.map fun _ => (0 : Int)).sum = 0
  | [] => rfl
  | x :: l => by rw [List.map_cons, List.sum_cons, sum_zero l]; rfl
theorem sum_swap (w : List (ByteArray × Int × Int)) : ∀ t : List (ByteArray × Int × Int), (w.map fun x => sumP x t).sum = (t.map fun y => sumP y w).sum
  | [] => by
    show (w.map fun x => (0 : Int)).sum = 0
    exact sum_zero w
  | y :: t => by
    have e : (fun x => sumP x (y :: t)) = fun x => pairM x y + sumP x t := by funext x; simp [sumP]
    rw [e, sum_add, sum_swap w t, List.map_cons, List.sum_cons]
    congr 1
    unfold sumP
    congr 1
    apply List.map_congr_left
    intro x _
    exact pairM_comm x y
theorem sum_miss (t : List (ByteArray × Int × Int)) : ∀ w : List (ByteArray × Int × Int), (w.map fun x => x.2.1).sum - sumC (missL w t) = (w.map fun x => if x.2.1 ≤ cntOf t x.1 then x.2.1 else cntOf t x.1).sum
  | [] => by simp [missL, sumC]
  | x :: w => by
    have ih := sum_miss t w
    have e : missL (x :: w) t = missF t x ++ missL w t := by simp [missL]
    rw [e, sumC_app, List.map_cons, List.sum_cons, List.map_cons, List.sum_cons]
    have hf : sumC (missF t x) = if 0 < x.2.1 - cntOf t x.1 then x.2.1 - cntOf t x.1 else 0 := by
      unfold missF; split <;> simp [sumC]
    rw [hf]
    split <;> split <;> omega
theorem sum_spare (w : List (ByteArray × Int × Int)) : ∀ t : List (ByteArray × Int × Int), (t.map fun x => x.2.1).sum - sumC (spareL w t) = (t.map fun x => if x.2.1 ≤ cntOf w x.1 then x.2.1 else cntOf w x.1).sum
  | [] => by simp [spareL, sumC]
  | x :: t => by
    have ih := sum_spare w t
    have e : spareL w (x :: t) = spareF w x ++ spareL w t := by simp [spareL]
    rw [e, sumC_app, List.map_cons, List.sum_cons, List.map_cons, List.sum_cons]
    have hf : sumC (spareF w x) = if 0 < x.2.1 - cntOf w x.1 then x.2.1 - cntOf w x.1 else 0 := by
      unfold spareF; split <;> simp [sumC]
    rw [hf]
    split <;> split <;> omega
theorem sum_all {w t : List (ByteArray × Int × Int)} (hw : ThOK w) (ht : ThOK t) : sumC w - sumC t - sumC (missL w t) + sumC (spareL w t) = 0 := by
  have h1 := sum_miss t w
  have h2 := sum_spare w t
  have e1 : (w.map fun x => if x.2.1 ≤ cntOf t x.1 then x.2.1 else cntOf t x.1) = w.map fun x => sumP x t := by
    apply List.map_congr_left
    intro x hx
    exact (sumP_cnt (srt_ne ht.srt) (fun y hy => (ht.ok y hy).2.1.1) (hw.ok x hx).2.1.1).symm
  have e2 : (t.map fun x => if x.2.1 ≤ cntOf w x.1 then x.2.1 else cntOf w x.1) = t.map fun x => sumP x w := by
    apply List.map_congr_left
    intro x hx
    exact (sumP_cnt (srt_ne hw.srt) (fun y hy => (hw.ok y hy).2.1.1) (ht.ok x hx).2.1.1).symm
  rw [e1] at h1
  rw [e2] at h2
  have hs := sum_swap w t
  unfold sumC at *
  omega
theorem cnt_self {t : List (ByteArray × Int × Int)} (hs : SortedT t) {x : (ByteArray × Int × Int)} (hx : x ∈ t) : cntOf t x.1 = x.2.1 := by
  rcases there_cases hs x.1 with ⟨_, _, h3, _⟩ | ⟨y, _, _, h3, h4, h5⟩
  · exact absurd rfl (h3 x hx)
  · have hy := List.mem_of_getElem? h3
    have : y = x := by
      by_cases q : y = x
      · exact q
      · exfalso
        obtain ⟨i, hi, ei⟩ := List.mem_iff_getElem.1 hx
        obtain ⟨j, hj, ej⟩ := List.mem_iff_getElem.1 hy
        have hn := List.pairwise_iff_getElem.1 (srt_ne hs)
        rcases Nat.lt_trichotomy i j with z | z | z
        · have := hn i j hi hj z; rw [ei, ej] at this; exact this h4.symm
        · subst z; rw [ei] at ej; exact q ej.symm
        · have := hn j i hj hi z; rw [ei, ej] at this; exact this h4
    rw [h5, this]
theorem miss_self {t : List (ByteArray × Int × Int)} (hs : SortedT t) : missL t t = [] := by
  rw [missL, List.flatMap_eq_nil_iff]
  intro x hx
  rw [missF, cnt_self hs hx, if_neg (by omega)]
theorem sumC_step {l : List (ByteArray × Int × Int)} {i : Nat} {x : (ByteArray × Int × Int)} (h : l[i]? = some x) : sumC (l.take (i + 1)) = sumC (l.take i) + x.2.1 := by
  rw [List.take_add_one, h, Option.toList_some, sumC_app]; simp [sumC]
theorem cnt_app (l m : List (ByteArray × Int × Int)) (s : ByteArray) (h : ∀ x ∈ l, x.1 ≠ s) : cntOf (l ++ m) s = cntOf m s := by
  unfold cntOf
  rw [List.find?_append, List.find?_eq_none.2 (fun x hx => by simpa using h x hx)]; rfl
theorem cnt_cons_eq (t : (ByteArray × Int × Int)) (m : List (ByteArray × Int × Int)) (s : ByteArray) (h : t.1 = s) : cntOf (t :: m) s = t.2.1 := by simp [cntOf, List.find?_cons, h]
theorem lb_ne {l : List (ByteArray × Int × Int)} (hs : SortedT l) (s : ByteArray) : ∀ x ∈ l.take (lbT l s), x.1 ≠ s := by
  intro x hx e
  obtain ⟨i, hi, ei⟩ := List.mem_iff_getElem.1 hx
  have hi2 : i < lbT l s := by rw [List.length_take] at hi; omega
  have h1 : l[i]? = some x := by rw [← ei, ← List.getElem?_eq_getElem hi, List.getElem?_take_of_lt hi2]
  have := (lb_spec s l hs).1 i x h1 hi2
  rw [e, str_irr] at this; cases this
theorem cnt_take {l : List (ByteArray × Int × Int)} {s : ByteArray} {n : Int} (hs : SortedT l) (hn : n ≤ cntOf l s) (hp : 1 ≤ n) : cntOf (takeT l s n) s = cntOf l s - n := by
  rcases there_cases hs s with ⟨_, _, _, h4⟩ | ⟨y, hth, _, hy, hyn, hc⟩
  · omega
  · have hne := lb_ne hs s
    unfold takeT
    rw [hy]
    simp only []
    split
    · rw [cnt_app _ _ _ hne, cnt_cons_eq _ _ s (show ((y.1, y.2.1 - n, y.2.2) : (ByteArray × Int × Int)).1 = s from hyn), hc]
    · rename_i q
      have hd : ∀ x ∈ l.take (lbT l s) ++ l.drop (lbT l s + 1), x.1 ≠ s := by
        intro x hx
        rcases List.mem_append.1 hx with hx | hx
        · exact hne x hx
        · intro e
          obtain ⟨i, hi, ei⟩ := List.mem_iff_getElem.1 hx
          rw [List.getElem_drop] at ei
          have hlt := (List.getElem?_eq_some_iff.1 hy)
          obtain ⟨hl, hye⟩ := hlt
          have := List.pairwise_iff_getElem.1 (srt_ne hs) (lbT l s) (lbT l s + 1 + i) hl (by rw [List.length_drop] at hi; omega) (by omega)
          rw [hye, ei, hyn, e] at this
          exact this rfl
      have h0 : cntOf (l.take (lbT l s) ++ l.drop (lbT l s + 1)) s = 0 := by
        rw [← List.append_nil (l.take (lbT l s) ++ l.drop (lbT l s + 1)), cnt_app _ _ _ hd]; rfl
      rw [h0, hc]; omega
theorem cnt_put {l : List (ByteArray × Int × Int)} {s : ByteArray} {n d : Int} (hs : SortedT l) : cntOf (putT l s n d) s = cntOf l s + n := by
  have hne := lb_ne hs s
  rcases there_cases hs s with ⟨hth, _, _, h4⟩ | ⟨y, hth, _, hy, hyn, hc⟩
  · rw [put_new n d hth, cnt_app _ _ _ hne, cnt_cons_eq _ _ _ rfl, h4]; show n = 0 + n; omega
  · rw [put_old n d hth hy, cnt_app _ _ _ hne, cnt_cons_eq _ _ _ rfl, hc]; show n + y.2.1 = y.2.1 + n; omega

theorem len_take {l : List (ByteArray × Int × Int)} {s : ByteArray} {n : Int} (hs : SortedT l) (hn : n ≤ cntOf l s) (hp : 1 ≤ n) : 1 ≤ l.length ∧ (takeT l s n).length = if n < cntOf l s then l.length else l.length - 1 := by
  rcases there_cases hs s with ⟨_, _, _, h4⟩ | ⟨y, hth, _, hy, hyn, hc⟩
  · omega
  · have hk := (List.getElem?_eq_some_iff.1 hy).1
    refine ⟨by omega, ?_⟩
    unfold takeT
    rw [hy]
    simp only []
    by_cases q : n < cntOf l s
    · rw [if_pos q, if_pos (show 0 < y.2.1 - n by omega)]
      simp only [List.length_append, List.length_cons, List.length_take, List.length_drop]; omega
    · rw [if_neg q, if_neg (show ¬ 0 < y.2.1 - n by omega)]
      simp only [List.length_append, List.length_take, List.length_drop]; omega
theorem len_put {l : List (ByteArray × Int × Int)} {s : ByteArray} {n d : Int} (h : ThOK l) : (putT l s n d).length = if 0 < cntOf l s then l.length else l.length + 1 := by
  have hle := lbT_le l s
  rcases there_cases h.srt s with ⟨hth, _, _, h4⟩ | ⟨y, hth, _, hy, hyn, hc⟩
  · rw [put_new n d hth, if_neg (by omega)]
    simp only [List.length_append, List.length_cons, List.length_take, List.length_drop]; omega
  · have hk := (List.getElem?_eq_some_iff.1 hy).1
    have hyo := (h.ok _ (List.mem_of_getElem? hy)).2.1
    rw [put_old n d hth hy, if_pos (by omega)]
    simp only [List.length_append, List.length_cons, List.length_take, List.length_drop]; omega
theorem back_len {fl tl : List (ByteArray × Int × Int)} {s : ByteArray} {n d d2 : Int} (hf : ThOK fl) (ht : ThOK tl) (hF : ThOK (takeT fl s n)) (hT : ThOK (putT tl s n d)) (hn : 1 ≤ n) (hc : n ≤ cntOf fl s) :
    (putT (takeT fl s n) s n d2).length = fl.length ∧ (takeT (putT tl s n d) s n).length = tl.length := by
  have hb := cnt_bound (fun x h => (ht.ok x h).2.1) s
  have a1 := cnt_take (s := s) hf.srt hc hn
  obtain ⟨a0, a2⟩ := len_take (s := s) hf.srt hc hn
  have a3 := len_put (s := s) (n := n) (d := d2) hF
  have b1 := cnt_put (s := s) (n := n) (d := d) ht.srt
  have b2 := len_put (s := s) (n := n) (d := d) ht
  obtain ⟨b0, b3⟩ := len_take (s := s) hT.srt (n := n) (by omega) hn
  rw [a1] at a3
  rw [b1] at b3
  constructor
  · rw [a3, a2]
    by_cases q : n < cntOf fl s
    · rw [if_pos (show 0 < cntOf fl s - n by omega), if_pos q]
    · rw [if_neg (show ¬ 0 < cntOf fl s - n by omega), if_neg q]; omega
  · rw [b3, b2]
    by_cases q : 0 < cntOf tl s
    · rw [if_pos (show n < cntOf tl s + n by omega), if_pos q]
    · rw [if_neg (show ¬ n < cntOf tl s + n by omega), if_neg q]; omega
theorem ld_two {fa ta : ByteArray} {fl tl : List (ByteArray × Int × Int)} (h1 : nameB fa = true) (h2 : nameB ta = true) (h3 : thsB fl = true) (h4 : thsB tl = true) (h5 : fa ≠ ta) : ldChk [] [(fa, fl), (ta, tl)] = true := by
  simp [ldChk, ldOK, h1, h2, h3, h4, h5]
theorem mv_parts {fa ta s : ByteArray} {fl tl : List (ByteArray × Int × Int)} {n : Int} (h : mvAll fa fl ta tl s n = true) : (nameB fa = true ∧ nameB ta = true) ∧ tnB s = true ∧ (1 ≤ n ∧ n ≤ 99) ∧ fa ≠ ta ∧ ThOK fl ∧ ThOK tl ∧ n ≤ cntOf fl s ∧ ThOK (takeT fl s n) ∧ ThOK (putT tl s n (dayOf fl s)) := by
  have h0 := h
  rw [mvAll, Bool.and_eq_true] at h0
  obtain ⟨g1, g2, g3, g4, g5, g6⟩ := mvG_facts h0.1
  have hne : fa ≠ ta := by
    have := h0.1
    simp only [mvG, Bool.and_eq_true, Bool.not_eq_true', decide_eq_false_iff_not] at this
    exact this.2
  have hm := h0.2
  rw [mvB, Bool.and_eq_true, decide_eq_true_eq] at hm
  have hf := (ths_iff _).1 g2
  refine ⟨⟨g1, g3⟩, g5, g6, hne, hf, (ths_iff _).1 g4, hm.1, ?_, (ths_iff _).1 hm.2⟩
  rcases there_cases hf.srt s with ⟨_, _, _, h4⟩ | ⟨y, hth, _, hy, hyn, hc⟩
  · omega
  · exact take_ok hf g6.1 hy
theorem mv_count {fa ta s : ByteArray} {fl tl : List (ByteArray × Int × Int)} {n : Int} (h : mvAll fa fl ta tl s n = true) : cntB [(fa, fl), (ta, tl)] s = true ∧ cntB [(fa, takeT fl s n), (ta, putT tl s n (dayOf fl s))] s = true ∧ cntV [(fa, takeT fl s n), (ta, putT tl s n (dayOf fl s))] s = cntV [(fa, fl), (ta, tl)] s := by
  obtain ⟨⟨a1, a2⟩, a3, ⟨a4, a5⟩, a6, hf, ht, hc, hF, hT⟩ := mv_parts h
  have c1 : cntB [(fa, fl), (ta, tl)] s = true := by rw [cntB, ld_two a1 a2 ((ths_iff _).2 hf) ((ths_iff _).2 ht) a6, a3]; rfl
  have c2 : cntB [(fa, takeT fl s n), (ta, putT tl s n (dayOf fl s))] s = true := by rw [cntB, ld_two a1 a2 ((ths_iff _).2 hF) ((ths_iff _).2 hT) a6, a3]; rfl
  refine ⟨c1, c2, ?_⟩
  rw [cntV, cntV, c1, c2, if_pos rfl, if_pos rfl]
  simp only [cntSum]
  rw [cnt_take hf.srt hc a4, cnt_put ht.srt]; omega
theorem mv_back {fa ta s : ByteArray} {fl tl : List (ByteArray × Int × Int)} {n d2 : Int} (h : mvAll fa fl ta tl s n = true) : (putT (takeT fl s n) s n d2).length = fl.length ∧ (takeT (putT tl s n (dayOf fl s)) s n).length = tl.length := by
  obtain ⟨_, _, ⟨a4, _⟩, _, hf, ht, hc, hF, hT⟩ := mv_parts h
  exact back_len hf ht hF hT a4 hc
theorem miss_cnt {w t : List (ByteArray × Int × Int)} (hw : ThOK w) (ht : ThOK t) : ∀ x ∈ missL w t, 1 ≤ x.2.1 ∧ x.2.1 ≤ 99 := by
  intro x hx
  obtain ⟨y, hy, hm⟩ := List.mem_flatMap.1 hx
  have hyo := (hw.ok y hy).2.1
  have hb := cnt_bound (fun z h => (ht.ok z h).2.1) y.1
  unfold missF at hm
  split at hm
  · rw [List.mem_singleton] at hm
    subst hm
    show 1 ≤ y.2.1 - cntOf t y.1 ∧ y.2.1 - cntOf t y.1 ≤ 99
    omega
  · cases hm
theorem spare_cnt {w t : List (ByteArray × Int × Int)} (hw : ThOK w) (ht : ThOK t) : ∀ x ∈ spareL w t, 1 ≤ x.2.1 ∧ x.2.1 ≤ 99 := by
  intro x hx
  obtain ⟨y, hy, hm⟩ := List.mem_flatMap.1 hx
  have hyo := (ht.ok y hy).2.1
  have hb := cnt_bound (fun z h => (hw.ok z h).2.1) y.1
  unfold spareF at hm
  split at hm
  · rw [List.mem_singleton] at hm
    subst hm
    show 1 ≤ y.2.1 - cntOf w y.1 ∧ y.2.1 - cntOf w y.1 ≤ 99
    omega
  · cases hm

theorem orN_len {α : Type} {b : Bool} {l : List α} {k : Nat} (h : l.length ≤ k) : (orN b l).length ≤ k := by
  cases b
  · exact Nat.zero_le _
  · exact h

end Go.Proofs.Ytbameklegpgkfaa
