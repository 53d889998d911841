/- What functions compute (MarkDetector). No condition. -/
import Derived.Test.YtdgenniiidgimaaTy
import Derived.Test.YtdgenniiidgimaaVmG
import Derived.Test.YtdgenniiidgimaaWMarkG
import Derived.Test.YtdgenniiidgimaaWMarkText
import Derived.Test.YtdgenniiidgimaaWBase
set_option linter.unusedSimpArgs false
set_option linter.unusedVariables false
set_option linter.defProp false
namespace Go.Proofs.Ytdgenniiidgimaa
open Go Go.Vm

def markDetector (kk : Int) (n : Nat) : List (Int × Int × Int × Bool) := markG (fun j : Nat => ((kk + 4 * (j : Int)), (kk + 4 * (j : Int) + 1), (kk + 4 * (j : Int) + 1 + 1), decide (Int.tmod (kk + 4 * (j : Int) + 1 + 1 + 1) 3 = 0))) n

set_option maxHeartbeats 1000000 in
theorem markDetectorS_con (l : List (Int × Int × Int × Bool)) (kk : Int) (hl : l.length ≤ 1048576) (hk : 0 ≤ kk ∧ kk ≤ 1000000000000) : Con Try.prog 19 [.ref 0, .int .i64 kk] [.arr (l.map (fun t : Int × Int × Int × Bool => V.agg [V.int .i64 t.1, V.int .i64 t.2.1, V.int .i64 t.2.2.1, V.bool t.2.2.2])) .flat] (.int .i64 (kk + 4 * l.length)) [.arr ((markDetector kk l.length).map (fun t : Int × Int × Int × Bool => V.agg [V.int .i64 t.1, V.int .i64 t.2.1, V.int .i64 t.2.2.1, V.bool t.2.2.2])) .flat] := by
 refine v_con [.tmp 4] [] Try.func19 rfl rfl rfl (by simp [Try.ntmps19]) ?_
 intro Q0 n0 r0
 simp only [Try.ntmps19, envFrom, Nat.reduceAdd]
 have T := Tys.mk (And.intro Ty.t3 (And.intro Ty.t4 (And.intro Ty.t29 Ty.t59)))
 have F := Fc.mk True.intro
 refine v_seq ?_; intro Q1 n1 e1 r1
 refine v_region ?_; intro K2 k2
 refine zAssign ⟨?_⟩
 refine k2 _ ?_
 refine n1 _ _ (weak_keep [0, 1] _) ?_
 refine zk ⟨?_⟩
 refine v_seq ?_; intro Q3 n3 e3 r3
 refine v_seq ?_; intro Q4 n4 e4 r4
 refine v_region ?_; intro K5 k5
 refine zAssign ⟨?_⟩
 refine k5 _ ?_
 refine n4 _ _ (weak_keep [0, 1, 5] _) ?_
 refine zk ⟨?_⟩
 refine v_block ?_; intro Q6 n6 x6 e6 r6
 refine v_loop (fun i => ⟨[(0, .ref 0), (1, .int .i64 (kk + 4 * (Nat.cast i))), (5, .int .i64 (Nat.cast i))], [.arr ((markG (fun j : Nat => ((kk + 4 * (j : Int)), (kk + 4 * (j : Int) + 1), (kk + 4 * (j : Int) + 1 + 1), decide (Int.tmod (kk + 4 * (j : Int) + 1 + 1 + 1) 3 = 0))) i ++ l.drop i).map (fun t : Int × Int × Int × Bool => V.agg [V.int .i64 t.1, V.int .i64 t.2.1, V.int .i64 t.2.2.1, V.bool t.2.2.2])) .flat], false, 43, 0⟩) (fun i => i ≤ l.length) (fun i => l.length - i) 0 ?_ ?_ ?_
 ·refine weak_bothS [0, 1, 5] [0] ⟨?_⟩
  simp [markG]
 ·exact Nat.zero_le _
 ·rintro i hok7 Q7 n7 e7 r7
  have hi1 : i ≤ l.length := hok7
  refine v_seq ?_; intro Q8 n8 e8 r8
  refine v_seq ?_; intro Q9 n9 e9 r9
  refine v_region ?_; intro K10 k10
  refine zMove ⟨?_⟩
  refine zMove ⟨?_⟩
  refine zLen ⟨?_⟩
  refine zBinOp ⟨?_⟩
  refine k10 _ ?_
  refine n9 _ _ (weak_keep [0, 1, 5, 9] _) ?_
  refine zk ⟨?_⟩
  refine v_condS _ rfl ?_ ?_
  ·intro hc0
   have hml := markG_all (g := (fun j : Nat => ((kk + 4 * (j : Int)), (kk + 4 * (j : Int) + 1), (kk + 4 * (j : Int) + 1 + 1), decide (Int.tmod (kk + 4 * (j : Int) + 1 + 1 + 1) 3 = 0)))) hi1
   rw [hml] at hc0
   have hlt : i < l.length := by omega
   obtain ⟨⟨x0, x1, x2, x3⟩, hx⟩ : ∃ x : Int × Int × Int × Bool, l[i]? = some x := ⟨l[i]'(by omega), List.getElem?_eq_getElem (by omega)⟩
   have hmg := markG_get (g := (fun j : Nat => ((kk + 4 * (j : Int)), (kk + 4 * (j : Int) + 1), (kk + 4 * (j : Int) + 1 + 1), decide (Int.tmod (kk + 4 * (j : Int) + 1 + 1 + 1) 3 = 0)))) hx
   have hms : ((markG (fun j : Nat => ((kk + 4 * (j : Int)), (kk + 4 * (j : Int) + 1), (kk + 4 * (j : Int) + 1 + 1), decide (Int.tmod (kk + 4 * (j : Int) + 1 + 1 + 1) 3 = 0))) i ++ l.drop i).map (fun t : Int × Int × Int × Bool => V.agg [V.int .i64 t.1, V.int .i64 t.2.1, V.int .i64 t.2.2.1, V.bool t.2.2.2])).set i (.agg [V.int .i64 (kk + 4 * (i : Int)), V.int .i64 (kk + 4 * (i : Int) + 1), V.int .i64 (kk + 4 * (i : Int) + 1 + 1), V.bool (decide (Int.tmod (kk + 4 * (i : Int) + 1 + 1 + 1) 3 = 0))]) = (markG (fun j : Nat => ((kk + 4 * (j : Int)), (kk + 4 * (j : Int) + 1), (kk + 4 * (j : Int) + 1 + 1), decide (Int.tmod (kk + 4 * (j : Int) + 1 + 1 + 1) 3 = 0))) (i + 1) ++ l.drop (i + 1)).map (fun t : Int × Int × Int × Bool => V.agg [V.int .i64 t.1, V.int .i64 t.2.1, V.int .i64 t.2.2.1, V.bool t.2.2.2]) := by
    have h := set_map (f := (fun t : Int × Int × Int × Bool => V.agg [V.int .i64 t.1, V.int .i64 t.2.1, V.int .i64 t.2.2.1, V.bool t.2.2.2])) (l := (markG (fun j : Nat => ((kk + 4 * (j : Int)), (kk + 4 * (j : Int) + 1), (kk + 4 * (j : Int) + 1 + 1), decide (Int.tmod (kk + 4 * (j : Int) + 1 + 1 + 1) 3 = 0))) i ++ l.drop i)) (i := i) (x := (fun j : Nat => ((kk + 4 * (j : Int)), (kk + 4 * (j : Int) + 1), (kk + 4 * (j : Int) + 1 + 1), decide (Int.tmod (kk + 4 * (j : Int) + 1 + 1 + 1) 3 = 0))) i)
    rw [markG_step hx] at h
    exact h
   refine v_skip ?_
   refine n8 _ _ (weak_keep [0, 1, 5] _) ?_
   refine zk ⟨?_⟩
   refine v_seq ?_; intro Q12 n12 e12 r12
   refine v_block ?_; intro Q13 n13 x13 e13 r13
   refine v_seq ?_; intro Q14 n14 e14 r14
   refine v_region ?_; intro K15 k15
   have F := Fc.mk (And.intro (fun f => getD_map (f := f) hmg) (And.intro hml (And.intro @getD_set (And.intro hlt (And.intro @List.length_set.{0} (And.intro @List.set_set.{0} hms))))))
   refine zMove ⟨?_⟩
   refine zMove ⟨?_⟩
   refine zMove ⟨?_⟩
   refine v_op ?_; intro K k
   simp only [zE, zL, zN, aStepM, optable, set_some, Nat.reduceEqDiff, reduceIte, Nat.reduceLT, implies_true, forall_const, reduceCtorEq, V.ofValue, V.ofScalar, V.un, V.gd, aExec, aop, aIndexAddr, row_mk, Blk.row, Go.Vm.V.cells, List.forall_mem_map, List.length_map, Int.toNat_natCast, Int.reduceToNat, TypeDesc.slice.injEq, Nat.reduceAdd, Nat.reduceLeDiff, Nat.reduceMul, Try.underlying29, Ty.c29, Ty.a29, Try.underlying59, Ty.c59, Ty.a59, getD_map hmg, hml, getD_set, hlt, List.length_set, List.set_set, hms]
   repeat (refine And.intro (by first | omega | (exact set_all (fun x hx => by obtain ⟨t, _, rfl⟩ := List.mem_map.1 hx; rfl) rfl) | (intros; omega) | (intros; simp_all; done)) ?_)
   refine k _ ?_; clear k K
   refine v_op ?_; intro K k
   simp only [zE, zL, zN, aStepM, optable, set_some, Nat.reduceEqDiff, reduceIte, Nat.reduceLT, implies_true, forall_const, reduceCtorEq, V.ofValue, V.ofScalar, V.un, V.gd, aExec, aop, aFieldAddr, Nat.reduceAdd, Nat.reduceLeDiff, Nat.reduceMul, Try.underlying3, Ty.c3, Ty.a3, Try.underlying4, Ty.c4, Ty.a4, Try.underlying59, Ty.c59, Ty.a59, getD_map hmg, hml, getD_set, hlt, List.length_set, List.set_set, hms]
   repeat (refine And.intro (by first | omega | (exact set_all (fun x hx => by obtain ⟨t, _, rfl⟩ := List.mem_map.1 hx; rfl) rfl) | (intros; omega) | (intros; simp_all; done)) ?_)
   refine k _ ?_; clear k K
   refine v_op ?_; intro K k
   simp only [zE, zS, zJ, zL, zO, zN, aStepM, optable, set_some, Nat.reduceEqDiff, reduceIte, Nat.reduceLT, implies_true, forall_const, reduceCtorEq, V.ofValue, V.ofScalar, V.un, V.gd, aExec, aop, aStore, setCells, V.isVal, V.cells, kindOf, kindAll, V.noSl, V.noRef, gt_iff_lt, Nat.reduceAdd, Nat.reduceLeDiff, Nat.reduceMul, takeV, takeCell, takeCells, row_mk, Blk.row, killAll, Nat.reduceBEq, join_t, Try.underlying3, Ty.c3, Ty.a3, getD_map hmg, hml, getD_set, hlt, List.length_set, List.set_set, hms]
   repeat (refine And.intro (by first | omega | (exact set_all (fun x hx => by obtain ⟨t, _, rfl⟩ := List.mem_map.1 hx; rfl) rfl) | (intros; omega) | (intros; simp_all; done)) ?_)
   refine k _ ?_; clear k K
   refine k15 _ ?_
   refine n14 _ _ (weak_keep [0, 1, 5] _) ?_
   refine zk ⟨?_⟩
   refine v_seq ?_; intro Q16 n16 e16 r16
   refine v_region ?_; intro K17 k17
   refine zMove ⟨?_⟩
   refine zBinOpW ⟨?_⟩
   refine zAssign ⟨?_⟩
   refine k17 _ ?_
   refine n16 _ _ (weak_keep [0, 1, 5] _) ?_
   refine zk ⟨?_⟩
   refine v_seq ?_; intro Q18 n18 e18 r18
   refine v_region ?_; intro K19 k19
   refine zMove ⟨?_⟩
   refine zMove ⟨?_⟩
   refine zMove ⟨?_⟩
   refine v_op ?_; intro K k
   simp only [zE, zL, zN, aStepM, optable, set_some, Nat.reduceEqDiff, reduceIte, Nat.reduceLT, implies_true, forall_const, reduceCtorEq, V.ofValue, V.ofScalar, V.un, V.gd, aExec, aop, aIndexAddr, row_mk, Blk.row, Go.Vm.V.cells, List.forall_mem_map, List.length_map, Int.toNat_natCast, Int.reduceToNat, TypeDesc.slice.injEq, Nat.reduceAdd, Nat.reduceLeDiff, Nat.reduceMul, Try.underlying29, Ty.c29, Ty.a29, Try.underlying59, Ty.c59, Ty.a59, getD_map hmg, hml, getD_set, hlt, List.length_set, List.set_set, hms]
   repeat (refine And.intro (by first | omega | (exact set_all (fun x hx => by obtain ⟨t, _, rfl⟩ := List.mem_map.1 hx; rfl) rfl) | (intros; omega) | (intros; simp_all; done)) ?_)
   refine k _ ?_; clear k K
   refine v_op ?_; intro K k
   simp only [zE, zL, zN, aStepM, optable, set_some, Nat.reduceEqDiff, reduceIte, Nat.reduceLT, implies_true, forall_const, reduceCtorEq, V.ofValue, V.ofScalar, V.un, V.gd, aExec, aop, aFieldAddr, Nat.reduceAdd, Nat.reduceLeDiff, Nat.reduceMul, Try.underlying3, Ty.c3, Ty.a3, Try.underlying4, Ty.c4, Ty.a4, Try.underlying59, Ty.c59, Ty.a59, getD_map hmg, hml, getD_set, hlt, List.length_set, List.set_set, hms]
   repeat (refine And.intro (by first | omega | (exact set_all (fun x hx => by obtain ⟨t, _, rfl⟩ := List.mem_map.1 hx; rfl) rfl) | (intros; omega) | (intros; simp_all; done)) ?_)
   refine k _ ?_; clear k K
   refine v_op ?_; intro K k
   simp only [zE, zS, zJ, zL, zO, zN, aStepM, optable, set_some, Nat.reduceEqDiff, reduceIte, Nat.reduceLT, implies_true, forall_const, reduceCtorEq, V.ofValue, V.ofScalar, V.un, V.gd, aExec, aop, aStore, setCells, V.isVal, V.cells, kindOf, kindAll, V.noSl, V.noRef, gt_iff_lt, Nat.reduceAdd, Nat.reduceLeDiff, Nat.reduceMul, takeV, takeCell, takeCells, row_mk, Blk.row, killAll, Nat.reduceBEq, join_t, Try.underlying3, Ty.c3, Ty.a3, getD_map hmg, hml, getD_set, hlt, List.length_set, List.set_set, hms]
   repeat (refine And.intro (by first | omega | (exact set_all (fun x hx => by obtain ⟨t, _, rfl⟩ := List.mem_map.1 hx; rfl) rfl) | (intros; omega) | (intros; simp_all; done)) ?_)
   refine k _ ?_; clear k K
   refine k19 _ ?_
   refine n18 _ _ (weak_keep [0, 1, 5] _) ?_
   refine zk ⟨?_⟩
   refine v_seq ?_; intro Q20 n20 e20 r20
   refine v_region ?_; intro K21 k21
   refine zMove ⟨?_⟩
   refine zBinOpW ⟨?_⟩
   refine zAssign ⟨?_⟩
   refine k21 _ ?_
   refine n20 _ _ (weak_keep [0, 1, 5] _) ?_
   refine zk ⟨?_⟩
   refine v_seq ?_; intro Q22 n22 e22 r22
   refine v_region ?_; intro K23 k23
   refine zMove ⟨?_⟩
   refine zMove ⟨?_⟩
   refine zMove ⟨?_⟩
   refine v_op ?_; intro K k
   simp only [zE, zL, zN, aStepM, optable, set_some, Nat.reduceEqDiff, reduceIte, Nat.reduceLT, implies_true, forall_const, reduceCtorEq, V.ofValue, V.ofScalar, V.un, V.gd, aExec, aop, aIndexAddr, row_mk, Blk.row, Go.Vm.V.cells, List.forall_mem_map, List.length_map, Int.toNat_natCast, Int.reduceToNat, TypeDesc.slice.injEq, Nat.reduceAdd, Nat.reduceLeDiff, Nat.reduceMul, Try.underlying29, Ty.c29, Ty.a29, Try.underlying59, Ty.c59, Ty.a59, getD_map hmg, hml, getD_set, hlt, List.length_set, List.set_set, hms]
   repeat (refine And.intro (by first | omega | (exact set_all (fun x hx => by obtain ⟨t, _, rfl⟩ := List.mem_map.1 hx; rfl) rfl) | (intros; omega) | (intros; simp_all; done)) ?_)
   refine k _ ?_; clear k K
   refine v_op ?_; intro K k
   simp only [zE, zL, zN, aStepM, optable, set_some, Nat.reduceEqDiff, reduceIte, Nat.reduceLT, implies_true, forall_const, reduceCtorEq, V.ofValue, V.ofScalar, V.un, V.gd, aExec, aop, aFieldAddr, Nat.reduceAdd, Nat.reduceLeDiff, Nat.reduceMul, Try.underlying3, Ty.c3, Ty.a3, Try.underlying4, Ty.c4, Ty.a4, Try.underlying59, Ty.c59, Ty.a59, getD_map hmg, hml, getD_set, hlt, List.length_set, List.set_set, hms]
   repeat (refine And.intro (by first | omega | (exact set_all (fun x hx => by obtain ⟨t, _, rfl⟩ := List.mem_map.1 hx; rfl) rfl) | (intros; omega) | (intros; simp_all; done)) ?_)
   refine k _ ?_; clear k K
   refine v_op ?_; intro K k
   simp only [zE, zS, zJ, zL, zO, zN, aStepM, optable, set_some, Nat.reduceEqDiff, reduceIte, Nat.reduceLT, implies_true, forall_const, reduceCtorEq, V.ofValue, V.ofScalar, V.un, V.gd, aExec, aop, aStore, setCells, V.isVal, V.cells, kindOf, kindAll, V.noSl, V.noRef, gt_iff_lt, Nat.reduceAdd, Nat.reduceLeDiff, Nat.reduceMul, takeV, takeCell, takeCells, row_mk, Blk.row, killAll, Nat.reduceBEq, join_t, Try.underlying3, Ty.c3, Ty.a3, getD_map hmg, hml, getD_set, hlt, List.length_set, List.set_set, hms]
   repeat (refine And.intro (by first | omega | (exact set_all (fun x hx => by obtain ⟨t, _, rfl⟩ := List.mem_map.1 hx; rfl) rfl) | (intros; omega) | (intros; simp_all; done)) ?_)
   refine k _ ?_; clear k K
   refine k23 _ ?_
   refine n22 _ _ (weak_keep [0, 1, 5] _) ?_
   refine zk ⟨?_⟩
   refine v_seq ?_; intro Q24 n24 e24 r24
   refine v_region ?_; intro K25 k25
   refine zMove ⟨?_⟩
   refine zBinOpW ⟨?_⟩
   refine zAssign ⟨?_⟩
   refine k25 _ ?_
   refine n24 _ _ (weak_keep [0, 1, 5] _) ?_
   refine zk ⟨?_⟩
   refine v_seq ?_; intro Q26 n26 e26 r26
   refine v_region ?_; intro K27 k27
   refine zMove ⟨?_⟩
   refine zMove ⟨?_⟩
   refine zMove ⟨?_⟩
   refine zBinOp ⟨?_⟩
   refine zBinOp ⟨?_⟩
   refine v_op ?_; intro K k
   simp only [zE, zL, zN, aStepM, optable, set_some, Nat.reduceEqDiff, reduceIte, Nat.reduceLT, implies_true, forall_const, reduceCtorEq, V.ofValue, V.ofScalar, V.un, V.gd, aExec, aop, aIndexAddr, row_mk, Blk.row, Go.Vm.V.cells, List.forall_mem_map, List.length_map, Int.toNat_natCast, Int.reduceToNat, TypeDesc.slice.injEq, Nat.reduceAdd, Nat.reduceLeDiff, Nat.reduceMul, Try.underlying29, Ty.c29, Ty.a29, Try.underlying59, Ty.c59, Ty.a59, getD_map hmg, hml, getD_set, hlt, List.length_set, List.set_set, hms]
   repeat (refine And.intro (by first | omega | (exact set_all (fun x hx => by obtain ⟨t, _, rfl⟩ := List.mem_map.1 hx; rfl) rfl) | (intros; omega) | (intros; simp_all; done)) ?_)
   refine k _ ?_; clear k K
   refine v_op ?_; intro K k
   simp only [zE, zL, zN, aStepM, optable, set_some, Nat.reduceEqDiff, reduceIte, Nat.reduceLT, implies_true, forall_const, reduceCtorEq, V.ofValue, V.ofScalar, V.un, V.gd, aExec, aop, aFieldAddr, Nat.reduceAdd, Nat.reduceLeDiff, Nat.reduceMul, Try.underlying3, Ty.c3, Ty.a3, Try.underlying4, Ty.c4, Ty.a4, Try.underlying59, Ty.c59, Ty.a59, getD_map hmg, hml, getD_set, hlt, List.length_set, List.set_set, hms]
   repeat (refine And.intro (by first | omega | (exact set_all (fun x hx => by obtain ⟨t, _, rfl⟩ := List.mem_map.1 hx; rfl) rfl) | (intros; omega) | (intros; simp_all; done)) ?_)
   refine k _ ?_; clear k K
   refine v_op ?_; intro K k
   simp only [zE, zS, zJ, zL, zO, zN, aStepM, optable, set_some, Nat.reduceEqDiff, reduceIte, Nat.reduceLT, implies_true, forall_const, reduceCtorEq, V.ofValue, V.ofScalar, V.un, V.gd, aExec, aop, aStore, setCells, V.isVal, V.cells, kindOf, kindAll, V.noSl, V.noRef, gt_iff_lt, Nat.reduceAdd, Nat.reduceLeDiff, Nat.reduceMul, takeV, takeCell, takeCells, row_mk, Blk.row, killAll, Nat.reduceBEq, join_t, Try.underlying4, Ty.c4, Ty.a4, getD_map hmg, hml, getD_set, hlt, List.length_set, List.set_set, hms]
   repeat (refine And.intro (by first | omega | (exact set_all (fun x hx => by obtain ⟨t, _, rfl⟩ := List.mem_map.1 hx; rfl) rfl) | (intros; omega) | (intros; simp_all; done)) ?_)
   refine k _ ?_; clear k K
   refine k27 _ ?_
   refine n26 _ _ (weak_keep [0, 1, 5] _) ?_
   refine zk ⟨?_⟩
   refine v_region ?_; intro K28 k28
   refine zMove ⟨?_⟩
   refine zBinOpW ⟨?_⟩
   refine zAssign ⟨?_⟩
   refine k28 _ ?_
   refine n13 _ ?_
   refine n12 _ _ (weak_keep [0, 1, 5] _) ?_
   refine zk ⟨?_⟩
   refine v_region ?_; intro K29 k29
   refine zMove ⟨?_⟩
   refine zBinOpW ⟨?_⟩
   refine zAssign ⟨?_⟩
   refine k29 _ ?_
   refine n7 _ (i + 1) ?_ ?_ ?_
   ·refine weak_bothS [0, 1, 5] [0] ⟨?_⟩
    simp only [getD_set, List.length_map, hml, hlt, List.length_set, List.set_set, hms, List.take_succ_cons, List.take_zero, List.drop_succ_cons, List.drop_zero, List.drop_nil, List.cons_append, List.nil_append, List.append_nil]; rw [show (kk + 4 * (i : Int) + 1 + 1 + 1 + 1) = kk + 4 * ((i + 1 : Nat) : Int) by omega]; rfl
   ·exact hlt
   ·show _ < _; omega
  ·intro hc0
   rw [markG_all (g := (fun j : Nat => ((kk + 4 * (j : Int)), (kk + 4 * (j : Int) + 1), (kk + 4 * (j : Int) + 1 + 1), decide (Int.tmod (kk + 4 * (j : Int) + 1 + 1 + 1) 3 = 0)))) hi1] at hc0
   refine v_exit ?_
   refine e8 _ _ ?_
   refine e7 _ _ ?_
   refine x6 _ ?_
   refine n3 _ _ (weak_keep [1] _) ?_
   refine zk ⟨?_⟩
   refine v_seq ?_; intro Q30 n30 e30 r30
   refine v_region ?_; intro K31 k31
   refine zMove ⟨?_⟩
   refine zAssign ⟨?_⟩
   refine k31 _ ?_
   refine n30 _ _ (weak_keep [4] _) ?_
   refine zk ⟨?_⟩
   refine v_ret ?_
   refine r0 _ ?_
   refine zf ⟨?_⟩
   have hend : i = l.length := by omega
   subst hend
   exact ret_lent rfl (by simp) rfl (by simp [markDetector]) (by simp [Blk.kindIs]) (.inl rfl)
end Go.Proofs.Ytdgenniiidgimaa
