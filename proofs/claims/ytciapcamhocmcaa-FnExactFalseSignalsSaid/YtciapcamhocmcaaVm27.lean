/- The value machine, part 27: the steps of a walk by short names. -/
import Derived.Test.YtciapcamhocmcaaVm21
set_option linter.unusedSimpArgs false
set_option linter.unusedVariables false
set_option linter.defProp false
namespace Go.Vm
open Go

structure Tys (p : Prop) : Prop where
  h : p
structure Fc (p : Prop) : Prop where
  h : p
structure Ho (p : Prop) : Prop where
  h : p
theorem andA {A B : Prop} (b : B) (a : A := by first | omega | (intros; omega) | (intros; simp_all; done) | (intros; simp_all; omega)) : A ∧ B := ⟨a, b⟩
theorem andC {A B : Prop} (b : B) (a : A := by first | rfl | (intros; simp_all; done)) : A ∧ B := ⟨a, b⟩
theorem v_passB {P : Program} {L : Lend} {s : St} {rg : Array Oper} {K : St → Prop} {o : Oper} {rest : List Oper} {d j : Nat} {want : Bool} (hd : o.dst = some d) (hn : Nat.blt d s.n = true) (hg : o.guard = some (j, want)) (hv : guardV s rg j want = some false) (h : aOps P L rg K rest (s.set (some d) (.opt false .any))) : aOps P L rg K (o :: rest) s :=
  v_pass d j want hd (by rwa [Nat.blt_eq] at hn) hg hv h

theorem zAlloc {A B : Prop} (b : Ho B) (e : Ho B → A := by
  intro b
  refine v_op ?_
  intro K k
  simp only [zE, zS, zO, zN, aStepM, optable, set_some, Nat.reduceEqDiff, reduceIte, Nat.reduceLT, implies_true, forall_const, reduceCtorEq, V.ofValue, V.ofScalar, V.un, V.gd, aExec, aop, Nat.reduceAdd, Value.oneCell', V.isVal, V.cells, kindOf, kindAll, V.noSl, V.noRef, List.all_cons, List.all_nil, List.map_cons, List.map_nil, gt_iff_lt, Nat.reduceLeDiff, Nat.reduceMul, contentL, ‹Tys _›.h, ‹Fc _›.h]
  repeat (refine andA ?_)
  refine k _ ?_
  clear k K
  exact b.h) : A := e b
theorem zgAlloc {A B : Prop} (b : Ho B) (e : Ho B → A := by
  intro b
  first
  | refine v_passB rfl rfl rfl ?_ ?_
    · first | rfl | (simp only [zV, guardV, Nat.reduceEqDiff, reduceIte]; done)
    simp only [zW, set_some, Nat.reduceEqDiff, reduceIte]
  | skip
    refine v_op ?_
    intro K k
    simp only [zE, zS, zO, zV, zN, aStepM, optable, set_some, Nat.reduceEqDiff, reduceIte, Nat.reduceLT, implies_true, forall_const, reduceCtorEq, V.ofValue, V.ofScalar, V.un, V.gd, guardV, V.wrap, aExec, aop, Nat.reduceAdd, Value.oneCell', V.isVal, V.cells, kindOf, kindAll, V.noSl, V.noRef, List.all_cons, List.all_nil, List.map_cons, List.map_nil, gt_iff_lt, Nat.reduceLeDiff, Nat.reduceMul, contentL, ‹Tys _›.h, ‹Fc _›.h]
    repeat (refine andA ?_)
    refine k _ ?_
    clear k K
  exact b.h) : A := e b
theorem zAppend {A B : Prop} (b : Ho B) (e : Ho B → A := by
  intro b
  refine v_op ?_
  intro K k
  simp only [zE, zL, zO, zN, aStepM, optable, set_some, Nat.reduceEqDiff, reduceIte, Nat.reduceLT, implies_true, forall_const, reduceCtorEq, V.ofValue, V.ofScalar, V.un, V.gd, aExec, aop, fillK_thin, beq_self_eq_true, List.nodup_cons, List.mem_singleton, forall_eq', List.size_toArray, List.getD_eq_getElem?_getD, Array.getD_eq_getD_getElem?, Option.getD_some, aAppend, destOf, srcOf, takeElems, takeV, takeCell, takeCells, row_mk, Blk.row, killAll, V.isSub, V.noSl, Value.cells, Option.toList, List.forall_mem_map, List.length_map, List.all_cons, List.all_nil, List.isEmpty_nil, List.isEmpty_cons, List.not_mem_nil, List.nodup_nil, join_ff, join_ft, join_fv, join_d, join_s, fillK_join0, fillK_join, List.mem_cons, or_false, forall_eq_or_imp, forall_eq, List.set_cons_zero, List.set_cons_succ, List.length_append, Go.Vm.V.cells, Nat.reduceAdd, Nat.reduceLeDiff, Nat.reduceMul, contentL, Value.oneCell', ‹Tys _›.h, ‹Fc _›.h]
  repeat (refine andA ?_)
  refine k _ ?_
  clear k K
  exact b.h) : A := e b
theorem zgAppend {A B : Prop} (b : Ho B) (e : Ho B → A := by
  intro b
  first
  | refine v_passB rfl rfl rfl ?_ ?_
    · first | rfl | (simp only [zV, guardV, Nat.reduceEqDiff, reduceIte]; done)
    simp only [zW, set_some, Nat.reduceEqDiff, reduceIte]
  | skip
    refine v_op ?_
    intro K k
    simp only [zE, zL, zO, zN, aStepM, optable, set_some, Nat.reduceEqDiff, reduceIte, Nat.reduceLT, implies_true, forall_const, reduceCtorEq, V.ofValue, V.ofScalar, V.un, V.gd, guardV, V.wrap, aExec, aop, fillK_thin, beq_self_eq_true, List.nodup_cons, List.mem_singleton, forall_eq', List.size_toArray, List.getD_eq_getElem?_getD, Array.getD_eq_getD_getElem?, Option.getD_some, aAppend, destOf, srcOf, takeElems, takeV, takeCell, takeCells, row_mk, Blk.row, killAll, V.isSub, V.noSl, Value.cells, Option.toList, List.forall_mem_map, List.length_map, List.all_cons, List.all_nil, List.isEmpty_nil, List.isEmpty_cons, List.not_mem_nil, List.nodup_nil, join_ff, join_ft, join_fv, join_d, join_s, fillK_join0, fillK_join, List.mem_cons, or_false, forall_eq_or_imp, forall_eq, List.set_cons_zero, List.set_cons_succ, List.length_append, Go.Vm.V.cells, Nat.reduceAdd, Nat.reduceLeDiff, Nat.reduceMul, contentL, Value.oneCell', ‹Tys _›.h, ‹Fc _›.h]
    repeat (refine andA ?_)
    refine k _ ?_
    clear k K
  exact b.h) : A := e b
theorem zAssign {A B : Prop} (b : Ho B) (e : Ho B → A := by
  intro b
  refine v_op ?_
  intro K k
  simp only [zE, zS, aStepM, optable, set_some, Nat.reduceEqDiff, reduceIte, Nat.reduceLT, implies_true, forall_const, reduceCtorEq, V.ofValue, V.ofScalar, V.un, V.gd, aExec, aop, Nat.reduceAdd, contentL, Value.oneCell', List.all_cons, List.all_nil, Bool.and_self, ‹Tys _›.h, ‹Fc _›.h]
  repeat (refine andA ?_)
  refine k _ ?_
  clear k K
  exact b.h) : A := e b
theorem zgAssign {A B : Prop} (b : Ho B) (e : Ho B → A := by
  intro b
  first
  | refine v_passB rfl rfl rfl ?_ ?_
    · first | rfl | (simp only [zV, guardV, Nat.reduceEqDiff, reduceIte]; done)
    simp only [zW, set_some, Nat.reduceEqDiff, reduceIte]
  | skip
    refine v_op ?_
    intro K k
    simp only [zE, zS, zG, aStepM, optable, set_some, Nat.reduceEqDiff, reduceIte, Nat.reduceLT, implies_true, forall_const, reduceCtorEq, V.ofValue, V.ofScalar, V.un, V.gd, guardV, V.wrap, aExec, aop, Nat.reduceAdd, contentL, Value.oneCell', List.all_cons, List.all_nil, Bool.and_self, ‹Tys _›.h, ‹Fc _›.h]
    repeat (refine andA ?_)
    refine k _ ?_
    clear k K
  exact b.h) : A := e b
theorem zBinOp {A B : Prop} (b : Ho B) (e : Ho B → A := by
  intro b
  refine v_op ?_
  intro K k
  simp only [zE, aStepM, optable, set_some, Nat.reduceEqDiff, reduceIte, Nat.reduceLT, implies_true, forall_const, reduceCtorEq, V.ofValue, V.ofScalar, V.un, V.gd, aExec, aop, aBin, isNil, contentL, Value.oneCell', List.all_cons, List.all_nil, Bool.and_self, ‹Tys _›.h, ‹Fc _›.h]
  repeat (refine andA ?_)
  refine k _ ?_
  clear k K
  exact b.h) : A := e b
theorem zBinOpW {A B : Prop} (b : Ho B) (e : Ho B → A := by
  intro b
  refine v_op ?_
  intro K k
  simp only [zE, aStepM, optable, set_some, Nat.reduceEqDiff, reduceIte, Nat.reduceLT, implies_true, forall_const, reduceCtorEq, V.ofValue, V.ofScalar, V.un, V.gd, aExec, aop, aBin, isNil, contentL, Value.oneCell', List.all_cons, List.all_nil, Bool.and_self, ‹Tys _›.h, ‹Fc _›.h]
  try simp (disch := omega) only [wrap64]
  repeat (refine andA ?_)
  refine k _ ?_
  clear k K
  exact b.h) : A := e b
theorem zgBinOp {A B : Prop} (b : Ho B) (e : Ho B → A := by
  intro b
  first
  | refine v_passB rfl rfl rfl ?_ ?_
    · first | rfl | (simp only [zV, guardV, Nat.reduceEqDiff, reduceIte]; done)
    simp only [zW, set_some, Nat.reduceEqDiff, reduceIte]
  | skip
    refine v_op ?_
    intro K k
    simp only [zE, zG, aStepM, optable, set_some, Nat.reduceEqDiff, reduceIte, Nat.reduceLT, implies_true, forall_const, reduceCtorEq, V.ofValue, V.ofScalar, V.un, V.gd, guardV, V.wrap, aExec, aop, aBin, isNil, contentL, Value.oneCell', List.all_cons, List.all_nil, Bool.and_self, ‹Tys _›.h, ‹Fc _›.h]
    repeat (refine andA ?_)
    refine k _ ?_
    clear k K
  exact b.h) : A := e b
theorem zgBinOpW {A B : Prop} (b : Ho B) (e : Ho B → A := by
  intro b
  first
  | refine v_passB rfl rfl rfl ?_ ?_
    · first | rfl | (simp only [zV, guardV, Nat.reduceEqDiff, reduceIte]; done)
    simp only [zW, set_some, Nat.reduceEqDiff, reduceIte]
  | skip
    refine v_op ?_
    intro K k
    simp only [zE, zG, aStepM, optable, set_some, Nat.reduceEqDiff, reduceIte, Nat.reduceLT, implies_true, forall_const, reduceCtorEq, V.ofValue, V.ofScalar, V.un, V.gd, guardV, V.wrap, aExec, aop, aBin, isNil, contentL, Value.oneCell', List.all_cons, List.all_nil, Bool.and_self, ‹Tys _›.h, ‹Fc _›.h]
    try simp (disch := omega) only [wrap64]
    repeat (refine andA ?_)
    refine k _ ?_
    clear k K
  exact b.h) : A := e b
theorem zBox {A B : Prop} (b : Ho B) (e : Ho B → A := by
  intro b
  refine v_op ?_
  intro K k
  simp only [zE, zS, zO, zN, aStepM, optable, set_some, Nat.reduceEqDiff, reduceIte, Nat.reduceLT, implies_true, forall_const, reduceCtorEq, V.ofValue, V.ofScalar, V.un, V.gd, aExec, aop, Nat.reduceAdd, V.isVal, V.cells, kindOf, kindAll, V.noSl, V.noRef, List.all_cons, List.all_nil, List.length_map, gt_iff_lt, Nat.reduceLeDiff, Nat.reduceMul, contentL, Value.oneCell', ‹Tys _›.h, ‹Fc _›.h]
  repeat (refine andA ?_)
  refine k _ ?_
  clear k K
  exact b.h) : A := e b
theorem zgBox {A B : Prop} (b : Ho B) (e : Ho B → A := by
  intro b
  first
  | refine v_passB rfl rfl rfl ?_ ?_
    · first | rfl | (simp only [zV, guardV, Nat.reduceEqDiff, reduceIte]; done)
    simp only [zW, set_some, Nat.reduceEqDiff, reduceIte]
  | skip
    refine v_op ?_
    intro K k
    simp only [zE, zS, zO, zV, zN, aStepM, optable, set_some, Nat.reduceEqDiff, reduceIte, Nat.reduceLT, implies_true, forall_const, reduceCtorEq, V.ofValue, V.ofScalar, V.un, V.gd, guardV, V.wrap, aExec, aop, Nat.reduceAdd, V.isVal, V.cells, kindOf, kindAll, V.noSl, V.noRef, List.all_cons, List.all_nil, List.length_map, gt_iff_lt, Nat.reduceLeDiff, Nat.reduceMul, contentL, Value.oneCell', ‹Tys _›.h, ‹Fc _›.h]
    repeat (refine andA ?_)
    refine k _ ?_
    clear k K
  exact b.h) : A := e b
theorem zBuild {A B : Prop} (b : Ho B) (e : Ho B → A := by
  intro b
  refine v_op ?_
  intro K k
  simp only [zE, aStepM, optable, set_some, Nat.reduceEqDiff, reduceIte, Nat.reduceLT, implies_true, forall_const, reduceCtorEq, V.ofValue, V.ofScalar, V.un, V.gd, aExec, aop, contentL, Value.oneCell', List.all_cons, List.all_nil, Bool.and_self, ‹Tys _›.h, ‹Fc _›.h]
  repeat (refine andA ?_)
  refine k _ ?_
  clear k K
  exact b.h) : A := e b
theorem zgBuild {A B : Prop} (b : Ho B) (e : Ho B → A := by
  intro b
  first
  | refine v_passB rfl rfl rfl ?_ ?_
    · first | rfl | (simp only [zV, guardV, Nat.reduceEqDiff, reduceIte]; done)
    simp only [zW, set_some, Nat.reduceEqDiff, reduceIte]
  | skip
    refine v_op ?_
    intro K k
    simp only [zE, zG, aStepM, optable, set_some, Nat.reduceEqDiff, reduceIte, Nat.reduceLT, implies_true, forall_const, reduceCtorEq, V.ofValue, V.ofScalar, V.un, V.gd, guardV, V.wrap, aExec, aop, contentL, Value.oneCell', List.all_cons, List.all_nil, Bool.and_self, ‹Tys _›.h, ‹Fc _›.h]
    repeat (refine andA ?_)
    refine k _ ?_
    clear k K
  exact b.h) : A := e b
theorem zBuildSlice {A B : Prop} (b : Ho B) (e : Ho B → A := by
  intro b
  refine v_op ?_
  intro K k
  simp only [zE, zO, zN, aStepM, optable, set_some, Nat.reduceEqDiff, reduceIte, Nat.reduceLT, implies_true, forall_const, reduceCtorEq, V.ofValue, V.ofScalar, V.un, V.gd, aExec, aop, litElems, rng0, rng1, rng2, rng3, rng4, List.map_cons, List.map_nil, List.all_cons, List.all_nil, V.isVal, V.cells, content, kindAll, V.noRef, V.noSl, List.mem_cons, List.not_mem_nil, or_false, forall_eq_or_imp, forall_eq, if_true, Option.isSome_some, List.length_cons, List.length_nil, Nat.reduceAdd, Nat.reduceLeDiff, Nat.reduceMul, contentL, Value.oneCell', ‹Tys _›.h, ‹Fc _›.h]
  repeat (refine andA ?_)
  refine k _ ?_
  clear k K
  exact b.h) : A := e b
theorem zgBuildSlice {A B : Prop} (b : Ho B) (e : Ho B → A := by
  intro b
  first
  | refine v_passB rfl rfl rfl ?_ ?_
    · first | rfl | (simp only [zV, guardV, Nat.reduceEqDiff, reduceIte]; done)
    simp only [zW, set_some, Nat.reduceEqDiff, reduceIte]
  | skip
    refine v_op ?_
    intro K k
    simp only [zE, zO, zV, zN, aStepM, optable, set_some, Nat.reduceEqDiff, reduceIte, Nat.reduceLT, implies_true, forall_const, reduceCtorEq, V.ofValue, V.ofScalar, V.un, V.gd, guardV, V.wrap, aExec, aop, litElems, rng0, rng1, rng2, rng3, rng4, List.map_cons, List.map_nil, List.all_cons, List.all_nil, V.isVal, V.cells, content, kindAll, V.noRef, V.noSl, List.mem_cons, List.not_mem_nil, or_false, forall_eq_or_imp, forall_eq, if_true, Option.isSome_some, List.length_cons, List.length_nil, Nat.reduceAdd, Nat.reduceLeDiff, Nat.reduceMul, contentL, Value.oneCell', ‹Tys _›.h, ‹Fc _›.h]
    repeat (refine andA ?_)
    refine k _ ?_
    clear k K
  exact b.h) : A := e b
theorem zClear {A B : Prop} (b : Ho B) (e : Ho B → A := by
  intro b
  refine v_op ?_
  intro K k
  simp only [zE, zL, zO, zN, aStepM, optable, set_some, Nat.reduceEqDiff, reduceIte, Nat.reduceLT, implies_true, forall_const, reduceCtorEq, V.ofValue, V.ofScalar, V.un, V.gd, aExec, aop, List.set_cons_zero, List.set_cons_succ, aClear, content, contentL, V.isVal, V.cells, V.noRef, List.size_toArray, List.getD_eq_getElem?_getD, Array.getD_eq_getD_getElem?, Option.getD_some, List.forall_mem_map, List.all_cons, List.all_nil, List.length_map, Value.oneCell', Nat.reduceAdd, Nat.reduceLeDiff, Nat.reduceMul, ‹Tys _›.h, ‹Fc _›.h]
  repeat (refine andA ?_)
  refine k _ ?_
  clear k K
  exact b.h) : A := e b
theorem zgClear {A B : Prop} (b : Ho B) (e : Ho B → A := by
  intro b
  first
  | refine v_passB rfl rfl rfl ?_ ?_
    · first | rfl | (simp only [zV, guardV, Nat.reduceEqDiff, reduceIte]; done)
    simp only [zW, set_some, Nat.reduceEqDiff, reduceIte]
  | skip
    refine v_op ?_
    intro K k
    simp only [zE, zL, zO, zN, aStepM, optable, set_some, Nat.reduceEqDiff, reduceIte, Nat.reduceLT, implies_true, forall_const, reduceCtorEq, V.ofValue, V.ofScalar, V.un, V.gd, guardV, V.wrap, aExec, aop, List.set_cons_zero, List.set_cons_succ, aClear, content, contentL, V.isVal, V.cells, V.noRef, List.size_toArray, List.getD_eq_getElem?_getD, Array.getD_eq_getD_getElem?, Option.getD_some, List.forall_mem_map, List.all_cons, List.all_nil, List.length_map, Value.oneCell', Nat.reduceAdd, Nat.reduceLeDiff, Nat.reduceMul, ‹Tys _›.h, ‹Fc _›.h]
    repeat (refine andA ?_)
    refine k _ ?_
    clear k K
  exact b.h) : A := e b
theorem zConvert {A B : Prop} (b : Ho B) (e : Ho B → A := by
  intro b
  refine v_op ?_
  intro K k
  simp only [zE, zL, zN, aStepM, optable, set_some, Nat.reduceEqDiff, reduceIte, Nat.reduceLT, implies_true, forall_const, reduceCtorEq, V.ofValue, V.ofScalar, V.un, V.gd, aExec, aop, unByte, row_mk, Blk.row, TypeDesc.slice.injEq, Nat.reduceAdd, Nat.reduceLeDiff, Nat.reduceMul, contentL, Value.oneCell', List.all_cons, List.all_nil, Bool.and_self, ‹Tys _›.h, ‹Fc _›.h]
  repeat (refine andA ?_)
  refine k _ ?_
  clear k K
  exact b.h) : A := e b
theorem zgConvert {A B : Prop} (b : Ho B) (e : Ho B → A := by
  intro b
  first
  | refine v_passB rfl rfl rfl ?_ ?_
    · first | rfl | (simp only [zV, guardV, Nat.reduceEqDiff, reduceIte]; done)
    simp only [zW, set_some, Nat.reduceEqDiff, reduceIte]
  | skip
    refine v_op ?_
    intro K k
    simp only [zE, zL, zN, aStepM, optable, set_some, Nat.reduceEqDiff, reduceIte, Nat.reduceLT, implies_true, forall_const, reduceCtorEq, V.ofValue, V.ofScalar, V.un, V.gd, guardV, V.wrap, aExec, aop, unByte, row_mk, Blk.row, TypeDesc.slice.injEq, Nat.reduceAdd, Nat.reduceLeDiff, Nat.reduceMul, contentL, Value.oneCell', List.all_cons, List.all_nil, Bool.and_self, ‹Tys _›.h, ‹Fc _›.h]
    repeat (refine andA ?_)
    refine k _ ?_
    clear k K
  exact b.h) : A := e b
theorem zExtract {A B : Prop} (b : Ho B) (e : Ho B → A := by
  intro b
  refine v_op ?_
  intro K k
  simp only [zE, zL, zN, aStepM, optable, set_some, Nat.reduceEqDiff, reduceIte, Nat.reduceLT, implies_true, forall_const, reduceCtorEq, V.ofValue, V.ofScalar, V.un, V.gd, aExec, aop, aExtract, Nat.reduceAdd, Nat.reduceLeDiff, Nat.reduceMul, contentL, Value.oneCell', List.all_cons, List.all_nil, Bool.and_self, ‹Tys _›.h, ‹Fc _›.h]
  repeat (refine andA ?_)
  refine k _ ?_
  clear k K
  exact b.h) : A := e b
theorem zgExtract {A B : Prop} (b : Ho B) (e : Ho B → A := by
  intro b
  first
  | refine v_passB rfl rfl rfl ?_ ?_
    · first | rfl | (simp only [zV, guardV, Nat.reduceEqDiff, reduceIte]; done)
    simp only [zW, set_some, Nat.reduceEqDiff, reduceIte]
  | skip
    refine v_op ?_
    intro K k
    simp only [zE, zL, zN, aStepM, optable, set_some, Nat.reduceEqDiff, reduceIte, Nat.reduceLT, implies_true, forall_const, reduceCtorEq, V.ofValue, V.ofScalar, V.un, V.gd, guardV, V.wrap, aExec, aop, aExtract, Nat.reduceAdd, Nat.reduceLeDiff, Nat.reduceMul, contentL, Value.oneCell', List.all_cons, List.all_nil, Bool.and_self, ‹Tys _›.h, ‹Fc _›.h]
    repeat (refine andA ?_)
    refine k _ ?_
    clear k K
  exact b.h) : A := e b
theorem zField {A B : Prop} (b : Ho B) (e : Ho B → A := by
  intro b
  refine v_op ?_
  intro K k
  simp only [zE, aStepM, optable, set_some, Nat.reduceEqDiff, reduceIte, Nat.reduceLT, implies_true, forall_const, reduceCtorEq, V.ofValue, V.ofScalar, V.un, V.gd, aExec, aop, contentL, Value.oneCell', List.all_cons, List.all_nil, Bool.and_self, ‹Tys _›.h, ‹Fc _›.h]
  repeat (refine andA ?_)
  refine k _ ?_
  clear k K
  exact b.h) : A := e b
theorem zgField {A B : Prop} (b : Ho B) (e : Ho B → A := by
  intro b
  first
  | refine v_passB rfl rfl rfl ?_ ?_
    · first | rfl | (simp only [zV, guardV, Nat.reduceEqDiff, reduceIte]; done)
    simp only [zW, set_some, Nat.reduceEqDiff, reduceIte]
  | skip
    refine v_op ?_
    intro K k
    simp only [zE, zG, aStepM, optable, set_some, Nat.reduceEqDiff, reduceIte, Nat.reduceLT, implies_true, forall_const, reduceCtorEq, V.ofValue, V.ofScalar, V.un, V.gd, guardV, V.wrap, aExec, aop, contentL, Value.oneCell', List.all_cons, List.all_nil, Bool.and_self, ‹Tys _›.h, ‹Fc _›.h]
    repeat (refine andA ?_)
    refine k _ ?_
    clear k K
  exact b.h) : A := e b
theorem zFieldAddr {A B : Prop} (b : Ho B) (e : Ho B → A := by
  intro b
  refine v_op ?_
  intro K k
  simp only [zE, zL, zN, aStepM, optable, set_some, Nat.reduceEqDiff, reduceIte, Nat.reduceLT, implies_true, forall_const, reduceCtorEq, V.ofValue, V.ofScalar, V.un, V.gd, aExec, aop, aFieldAddr, Nat.reduceAdd, Nat.reduceLeDiff, Nat.reduceMul, contentL, Value.oneCell', List.all_cons, List.all_nil, Bool.and_self, ‹Tys _›.h, ‹Fc _›.h]
  repeat (refine andA ?_)
  refine k _ ?_
  clear k K
  exact b.h) : A := e b
theorem zgFieldAddr {A B : Prop} (b : Ho B) (e : Ho B → A := by
  intro b
  first
  | refine v_passB rfl rfl rfl ?_ ?_
    · first | rfl | (simp only [zV, guardV, Nat.reduceEqDiff, reduceIte]; done)
    simp only [zW, set_some, Nat.reduceEqDiff, reduceIte]
  | skip
    refine v_op ?_
    intro K k
    simp only [zE, zL, zN, aStepM, optable, set_some, Nat.reduceEqDiff, reduceIte, Nat.reduceLT, implies_true, forall_const, reduceCtorEq, V.ofValue, V.ofScalar, V.un, V.gd, guardV, V.wrap, aExec, aop, aFieldAddr, Nat.reduceAdd, Nat.reduceLeDiff, Nat.reduceMul, contentL, Value.oneCell', List.all_cons, List.all_nil, Bool.and_self, ‹Tys _›.h, ‹Fc _›.h]
    repeat (refine andA ?_)
    refine k _ ?_
    clear k K
  exact b.h) : A := e b
theorem zIndex {A B : Prop} (b : Ho B) (e : Ho B → A := by
  intro b
  refine v_op ?_
  intro K k
  simp only [zE, aStepM, optable, set_some, Nat.reduceEqDiff, reduceIte, Nat.reduceLT, implies_true, forall_const, reduceCtorEq, V.ofValue, V.ofScalar, V.un, V.gd, aExec, aop, aIndex, Int.toNat_natCast, contentL, Value.oneCell', List.all_cons, List.all_nil, Bool.and_self, ‹Tys _›.h, ‹Fc _›.h]
  repeat (refine andA ?_)
  refine k _ ?_
  clear k K
  exact b.h) : A := e b
theorem zgIndex {A B : Prop} (b : Ho B) (e : Ho B → A := by
  intro b
  first
  | refine v_passB rfl rfl rfl ?_ ?_
    · first | rfl | (simp only [zV, guardV, Nat.reduceEqDiff, reduceIte]; done)
    simp only [zW, set_some, Nat.reduceEqDiff, reduceIte]
  | skip
    refine v_op ?_
    intro K k
    simp only [zE, zG, aStepM, optable, set_some, Nat.reduceEqDiff, reduceIte, Nat.reduceLT, implies_true, forall_const, reduceCtorEq, V.ofValue, V.ofScalar, V.un, V.gd, guardV, V.wrap, aExec, aop, aIndex, Int.toNat_natCast, contentL, Value.oneCell', List.all_cons, List.all_nil, Bool.and_self, ‹Tys _›.h, ‹Fc _›.h]
    repeat (refine andA ?_)
    refine k _ ?_
    clear k K
  exact b.h) : A := e b
theorem zIndexAddr {A B : Prop} (b : Ho B) (e : Ho B → A := by
  intro b
  refine v_op ?_
  intro K k
  simp only [zE, zL, zN, aStepM, optable, set_some, Nat.reduceEqDiff, reduceIte, Nat.reduceLT, implies_true, forall_const, reduceCtorEq, V.ofValue, V.ofScalar, V.un, V.gd, aExec, aop, aIndexAddr, row_mk, Blk.row, Go.Vm.V.cells, List.forall_mem_map, List.length_map, Int.toNat_natCast, Int.reduceToNat, TypeDesc.slice.injEq, Nat.reduceAdd, Nat.reduceLeDiff, Nat.reduceMul, contentL, Value.oneCell', List.all_cons, List.all_nil, Bool.and_self, ‹Tys _›.h, ‹Fc _›.h]
  repeat (refine andA ?_)
  refine k _ ?_
  clear k K
  exact b.h) : A := e b
theorem zgIndexAddr {A B : Prop} (b : Ho B) (e : Ho B → A := by
  intro b
  first
  | refine v_passB rfl rfl rfl ?_ ?_
    · first | rfl | (simp only [zV, guardV, Nat.reduceEqDiff, reduceIte]; done)
    simp only [zW, set_some, Nat.reduceEqDiff, reduceIte]
  | skip
    refine v_op ?_
    intro K k
    simp only [zE, zL, zN, aStepM, optable, set_some, Nat.reduceEqDiff, reduceIte, Nat.reduceLT, implies_true, forall_const, reduceCtorEq, V.ofValue, V.ofScalar, V.un, V.gd, guardV, V.wrap, aExec, aop, aIndexAddr, row_mk, Blk.row, Go.Vm.V.cells, List.forall_mem_map, List.length_map, Int.toNat_natCast, Int.reduceToNat, TypeDesc.slice.injEq, Nat.reduceAdd, Nat.reduceLeDiff, Nat.reduceMul, contentL, Value.oneCell', List.all_cons, List.all_nil, Bool.and_self, ‹Tys _›.h, ‹Fc _›.h]
    repeat (refine andA ?_)
    refine k _ ?_
    clear k K
  exact b.h) : A := e b
theorem zLen {A B : Prop} (b : Ho B) (e : Ho B → A := by
  intro b
  refine v_op ?_
  intro K k
  simp only [zE, zL, zN, aStepM, optable, set_some, Nat.reduceEqDiff, reduceIte, Nat.reduceLT, implies_true, forall_const, reduceCtorEq, V.ofValue, V.ofScalar, V.un, V.gd, aExec, aop, List.length_map, aLen, lenOK, row_mk, Blk.row, List.size_toArray, List.getD_eq_getElem?_getD, Array.getD_eq_getD_getElem?, Option.getD_some, Nat.reduceAdd, Nat.reduceLeDiff, Nat.reduceMul, contentL, Value.oneCell', List.all_cons, List.all_nil, Bool.and_self, ‹Tys _›.h, ‹Fc _›.h]
  repeat (refine andA ?_)
  refine k _ ?_
  clear k K
  exact b.h) : A := e b
theorem zgLen {A B : Prop} (b : Ho B) (e : Ho B → A := by
  intro b
  first
  | refine v_passB rfl rfl rfl ?_ ?_
    · first | rfl | (simp only [zV, guardV, Nat.reduceEqDiff, reduceIte]; done)
    simp only [zW, set_some, Nat.reduceEqDiff, reduceIte]
  | skip
    refine v_op ?_
    intro K k
    simp only [zE, zL, zN, aStepM, optable, set_some, Nat.reduceEqDiff, reduceIte, Nat.reduceLT, implies_true, forall_const, reduceCtorEq, V.ofValue, V.ofScalar, V.un, V.gd, guardV, V.wrap, aExec, aop, List.length_map, aLen, lenOK, row_mk, Blk.row, List.size_toArray, List.getD_eq_getElem?_getD, Array.getD_eq_getD_getElem?, Option.getD_some, Nat.reduceAdd, Nat.reduceLeDiff, Nat.reduceMul, contentL, Value.oneCell', List.all_cons, List.all_nil, Bool.and_self, ‹Tys _›.h, ‹Fc _›.h]
    repeat (refine andA ?_)
    refine k _ ?_
    clear k K
  exact b.h) : A := e b
theorem zLoad {A B : Prop} (b : Ho B) (e : Ho B → A := by
  intro b
  refine v_op ?_
  intro K k
  simp only [zE, zL, zO, zN, aStepM, optable, set_some, Nat.reduceEqDiff, reduceIte, Nat.reduceLT, implies_true, forall_const, reduceCtorEq, V.ofValue, V.ofScalar, V.un, V.gd, aExec, aop, aLoad, row_mk, Blk.row, PartOK, Go.Vm.part, V.cells, V.noSl, V.noRef, Nat.reduceAdd, Nat.reduceLeDiff, Nat.reduceMul, contentL, Value.oneCell', List.all_cons, List.all_nil, ‹Tys _›.h, ‹Fc _›.h]
  repeat (refine andA ?_)
  refine k _ ?_
  clear k K
  exact b.h) : A := e b
theorem zgLoad {A B : Prop} (b : Ho B) (e : Ho B → A := by
  intro b
  first
  | refine v_passB rfl rfl rfl ?_ ?_
    · first | rfl | (simp only [zV, guardV, Nat.reduceEqDiff, reduceIte]; done)
    simp only [zW, set_some, Nat.reduceEqDiff, reduceIte]
  | skip
    refine v_op ?_
    intro K k
    simp only [zE, zL, zO, zN, aStepM, optable, set_some, Nat.reduceEqDiff, reduceIte, Nat.reduceLT, implies_true, forall_const, reduceCtorEq, V.ofValue, V.ofScalar, V.un, V.gd, guardV, V.wrap, aExec, aop, aLoad, row_mk, Blk.row, PartOK, Go.Vm.part, V.cells, V.noSl, V.noRef, Nat.reduceAdd, Nat.reduceLeDiff, Nat.reduceMul, contentL, Value.oneCell', List.all_cons, List.all_nil, ‹Tys _›.h, ‹Fc _›.h]
    repeat (refine andA ?_)
    refine k _ ?_
    clear k K
  exact b.h) : A := e b
theorem zMakeFunc {A B : Prop} (b : Ho B) (e : Ho B → A := by
  intro b
  refine v_op ?_
  intro K k
  simp only [zE, zL, aStepM, optable, set_some, Nat.reduceEqDiff, reduceIte, Nat.reduceLT, implies_true, forall_const, reduceCtorEq, V.ofValue, V.ofScalar, V.un, V.gd, aExec, aop, contentL, Value.oneCell', List.all_cons, List.all_nil, Bool.and_self, ‹Tys _›.h, ‹Fc _›.h]
  repeat (refine andA ?_)
  refine k _ ?_
  clear k K
  exact b.h) : A := e b
theorem zgMakeFunc {A B : Prop} (b : Ho B) (e : Ho B → A := by
  intro b
  first
  | refine v_passB rfl rfl rfl ?_ ?_
    · first | rfl | (simp only [zV, guardV, Nat.reduceEqDiff, reduceIte]; done)
    simp only [zW, set_some, Nat.reduceEqDiff, reduceIte]
  | skip
    refine v_op ?_
    intro K k
    simp only [zE, zL, aStepM, optable, set_some, Nat.reduceEqDiff, reduceIte, Nat.reduceLT, implies_true, forall_const, reduceCtorEq, V.ofValue, V.ofScalar, V.un, V.gd, guardV, V.wrap, aExec, aop, contentL, Value.oneCell', List.all_cons, List.all_nil, Bool.and_self, ‹Tys _›.h, ‹Fc _›.h]
    repeat (refine andA ?_)
    refine k _ ?_
    clear k K
  exact b.h) : A := e b
theorem zMakeSlice {A B : Prop} (b : Ho B) (e : Ho B → A := by
  intro b
  refine v_op ?_
  intro K k
  simp only [zE, zL, zO, zN, aStepM, optable, set_some, Nat.reduceEqDiff, reduceIte, Nat.reduceLT, implies_true, forall_const, reduceCtorEq, V.ofValue, V.ofScalar, V.un, V.gd, aExec, aop, content, V.isVal, V.cells, V.noRef, V.noSl, Int.toNat_natCast, Nat.reduceAdd, Nat.reduceLeDiff, Nat.reduceMul, contentL, Value.oneCell', List.all_cons, List.all_nil, ‹Tys _›.h, ‹Fc _›.h]
  repeat (refine andA ?_)
  refine k _ ?_
  clear k K
  exact b.h) : A := e b
theorem zgMakeSlice {A B : Prop} (b : Ho B) (e : Ho B → A := by
  intro b
  first
  | refine v_passB rfl rfl rfl ?_ ?_
    · first | rfl | (simp only [zV, guardV, Nat.reduceEqDiff, reduceIte]; done)
    simp only [zW, set_some, Nat.reduceEqDiff, reduceIte]
  | skip
    refine v_op ?_
    intro K k
    simp only [zE, zL, zO, zN, aStepM, optable, set_some, Nat.reduceEqDiff, reduceIte, Nat.reduceLT, implies_true, forall_const, reduceCtorEq, V.ofValue, V.ofScalar, V.un, V.gd, guardV, V.wrap, aExec, aop, content, V.isVal, V.cells, V.noRef, V.noSl, Int.toNat_natCast, Nat.reduceAdd, Nat.reduceLeDiff, Nat.reduceMul, contentL, Value.oneCell', List.all_cons, List.all_nil, ‹Tys _›.h, ‹Fc _›.h]
    repeat (refine andA ?_)
    refine k _ ?_
    clear k K
  exact b.h) : A := e b
theorem zMax {A B : Prop} (b : Ho B) (e : Ho B → A := by
  intro b
  refine v_op ?_
  intro K k
  simp only [zE, aStepM, optable, set_some, Nat.reduceEqDiff, reduceIte, Nat.reduceLT, implies_true, forall_const, reduceCtorEq, V.ofValue, V.ofScalar, V.un, V.gd, aExec, aop, aMinMax, List.mem_cons, List.not_mem_nil, or_false, forall_eq_or_imp, forall_eq, List.map_cons, List.map_nil, if_true, if_false, contentL, Value.oneCell', List.all_cons, List.all_nil, Bool.and_self, ‹Tys _›.h, ‹Fc _›.h]
  repeat (refine andA ?_)
  refine k _ ?_
  clear k K
  exact b.h) : A := e b
theorem zgMax {A B : Prop} (b : Ho B) (e : Ho B → A := by
  intro b
  first
  | refine v_passB rfl rfl rfl ?_ ?_
    · first | rfl | (simp only [zV, guardV, Nat.reduceEqDiff, reduceIte]; done)
    simp only [zW, set_some, Nat.reduceEqDiff, reduceIte]
  | skip
    refine v_op ?_
    intro K k
    simp only [zE, zG, aStepM, optable, set_some, Nat.reduceEqDiff, reduceIte, Nat.reduceLT, implies_true, forall_const, reduceCtorEq, V.ofValue, V.ofScalar, V.un, V.gd, guardV, V.wrap, aExec, aop, aMinMax, List.mem_cons, List.not_mem_nil, or_false, forall_eq_or_imp, forall_eq, List.map_cons, List.map_nil, if_true, if_false, contentL, Value.oneCell', List.all_cons, List.all_nil, Bool.and_self, ‹Tys _›.h, ‹Fc _›.h]
    repeat (refine andA ?_)
    refine k _ ?_
    clear k K
  exact b.h) : A := e b
theorem zMin {A B : Prop} (b : Ho B) (e : Ho B → A := by
  intro b
  refine v_op ?_
  intro K k
  simp only [zE, aStepM, optable, set_some, Nat.reduceEqDiff, reduceIte, Nat.reduceLT, implies_true, forall_const, reduceCtorEq, V.ofValue, V.ofScalar, V.un, V.gd, aExec, aop, aMinMax, List.mem_cons, List.not_mem_nil, or_false, forall_eq_or_imp, forall_eq, List.map_cons, List.map_nil, if_true, if_false, contentL, Value.oneCell', List.all_cons, List.all_nil, Bool.and_self, ‹Tys _›.h, ‹Fc _›.h]
  repeat (refine andA ?_)
  refine k _ ?_
  clear k K
  exact b.h) : A := e b
theorem zgMin {A B : Prop} (b : Ho B) (e : Ho B → A := by
  intro b
  first
  | refine v_passB rfl rfl rfl ?_ ?_
    · first | rfl | (simp only [zV, guardV, Nat.reduceEqDiff, reduceIte]; done)
    simp only [zW, set_some, Nat.reduceEqDiff, reduceIte]
  | skip
    refine v_op ?_
    intro K k
    simp only [zE, zG, aStepM, optable, set_some, Nat.reduceEqDiff, reduceIte, Nat.reduceLT, implies_true, forall_const, reduceCtorEq, V.ofValue, V.ofScalar, V.un, V.gd, guardV, V.wrap, aExec, aop, aMinMax, List.mem_cons, List.not_mem_nil, or_false, forall_eq_or_imp, forall_eq, List.map_cons, List.map_nil, if_true, if_false, contentL, Value.oneCell', List.all_cons, List.all_nil, Bool.and_self, ‹Tys _›.h, ‹Fc _›.h]
    repeat (refine andA ?_)
    refine k _ ?_
    clear k K
  exact b.h) : A := e b
theorem zMove {A B : Prop} (b : Ho B) (e : Ho B → A := by
  intro b
  refine v_op ?_
  intro K k
  simp only [zE, aStepM, optable, set_some, Nat.reduceEqDiff, reduceIte, Nat.reduceLT, implies_true, forall_const, reduceCtorEq, V.ofValue, V.ofScalar, V.un, V.gd, aExec, aop, contentL, Value.oneCell', List.all_cons, List.all_nil, Bool.and_self, ‹Tys _›.h, ‹Fc _›.h]
  repeat (refine andA ?_)
  refine k _ ?_
  clear k K
  exact b.h) : A := e b
theorem zgMove {A B : Prop} (b : Ho B) (e : Ho B → A := by
  intro b
  first
  | refine v_passB rfl rfl rfl ?_ ?_
    · first | rfl | (simp only [zV, guardV, Nat.reduceEqDiff, reduceIte]; done)
    simp only [zW, set_some, Nat.reduceEqDiff, reduceIte]
  | skip
    refine v_op ?_
    intro K k
    simp only [zE, zG, aStepM, optable, set_some, Nat.reduceEqDiff, reduceIte, Nat.reduceLT, implies_true, forall_const, reduceCtorEq, V.ofValue, V.ofScalar, V.un, V.gd, guardV, V.wrap, aExec, aop, contentL, Value.oneCell', List.all_cons, List.all_nil, Bool.and_self, ‹Tys _›.h, ‹Fc _›.h]
    repeat (refine andA ?_)
    refine k _ ?_
    clear k K
  exact b.h) : A := e b
theorem zNilCheck {A B : Prop} (b : Ho B) (e : Ho B → A := by
  intro b
  refine v_op ?_
  intro K k
  simp only [zE, aStepM, optable, set_some, Nat.reduceEqDiff, reduceIte, Nat.reduceLT, implies_true, forall_const, reduceCtorEq, V.ofValue, V.ofScalar, V.un, V.gd, aExec, aop, contentL, Value.oneCell', List.all_cons, List.all_nil, Bool.and_self, ‹Tys _›.h, ‹Fc _›.h]
  repeat (refine andA ?_)
  refine k _ ?_
  clear k K
  exact b.h) : A := e b
theorem zgNilCheck {A B : Prop} (b : Ho B) (e : Ho B → A := by
  intro b
  first
  | refine v_passB rfl rfl rfl ?_ ?_
    · first | rfl | (simp only [zV, guardV, Nat.reduceEqDiff, reduceIte]; done)
    simp only [zW, set_some, Nat.reduceEqDiff, reduceIte]
  | skip
    refine v_op ?_
    intro K k
    simp only [zE, zG, aStepM, optable, set_some, Nat.reduceEqDiff, reduceIte, Nat.reduceLT, implies_true, forall_const, reduceCtorEq, V.ofValue, V.ofScalar, V.un, V.gd, guardV, V.wrap, aExec, aop, contentL, Value.oneCell', List.all_cons, List.all_nil, Bool.and_self, ‹Tys _›.h, ‹Fc _›.h]
    repeat (refine andA ?_)
    refine k _ ?_
    clear k K
  exact b.h) : A := e b
theorem zPick {A B : Prop} (b : Ho B) (e : Ho B → A := by
  intro b
  refine v_op ?_
  intro K k
  simp only [zE, zP, aStepM, optable, set_some, Nat.reduceEqDiff, reduceIte, Nat.reduceLT, implies_true, forall_const, reduceCtorEq, V.ofValue, V.ofScalar, V.un, V.gd, aExec, aop, pickV, contentL, Value.oneCell', List.all_cons, List.all_nil, Bool.and_self, ‹Tys _›.h, ‹Fc _›.h]
  repeat (refine andA ?_)
  refine k _ ?_
  clear k K
  exact b.h) : A := e b
theorem zgPick {A B : Prop} (b : Ho B) (e : Ho B → A := by
  intro b
  first
  | refine v_passB rfl rfl rfl ?_ ?_
    · first | rfl | (simp only [zV, guardV, Nat.reduceEqDiff, reduceIte]; done)
    simp only [zW, set_some, Nat.reduceEqDiff, reduceIte]
  | skip
    refine v_op ?_
    intro K k
    simp only [zE, zP, zG, aStepM, optable, set_some, Nat.reduceEqDiff, reduceIte, Nat.reduceLT, implies_true, forall_const, reduceCtorEq, V.ofValue, V.ofScalar, V.un, V.gd, guardV, V.wrap, aExec, aop, pickV, contentL, Value.oneCell', List.all_cons, List.all_nil, Bool.and_self, ‹Tys _›.h, ‹Fc _›.h]
    repeat (refine andA ?_)
    refine k _ ?_
    clear k K
  exact b.h) : A := e b
theorem zSlice {A B : Prop} (b : Ho B) (e : Ho B → A := by
  intro b
  refine v_op ?_
  intro K k
  simp only [zE, zL, zN, aStepM, optable, set_some, Nat.reduceEqDiff, reduceIte, Nat.reduceLT, implies_true, forall_const, reduceCtorEq, V.ofValue, V.ofScalar, V.un, V.gd, aExec, aop, List.set_cons_zero, List.set_cons_succ, aSlice, forall_eq', bound, ElemsOK, Option.map_none, Option.isNone_none, row_mk, Blk.row, TypeDesc.slice.injEq, List.forall_mem_map, List.length_map, Go.Vm.V.cells, Int.toNat_natCast, Int.reduceToNat, ← List.map_take, ← List.map_drop, List.take_length, Nat.reduceAdd, Nat.reduceLeDiff, Nat.reduceMul, contentL, Value.oneCell', List.all_cons, List.all_nil, Bool.and_self, ‹Tys _›.h, ‹Fc _›.h]
  repeat (refine andA ?_)
  refine k _ ?_
  clear k K
  exact b.h) : A := e b
theorem zgSlice {A B : Prop} (b : Ho B) (e : Ho B → A := by
  intro b
  first
  | refine v_passB rfl rfl rfl ?_ ?_
    · first | rfl | (simp only [zV, guardV, Nat.reduceEqDiff, reduceIte]; done)
    simp only [zW, set_some, Nat.reduceEqDiff, reduceIte]
  | skip
    refine v_op ?_
    intro K k
    simp only [zE, zL, zN, aStepM, optable, set_some, Nat.reduceEqDiff, reduceIte, Nat.reduceLT, implies_true, forall_const, reduceCtorEq, V.ofValue, V.ofScalar, V.un, V.gd, guardV, V.wrap, aExec, aop, List.set_cons_zero, List.set_cons_succ, aSlice, forall_eq', bound, ElemsOK, Option.map_none, Option.isNone_none, row_mk, Blk.row, TypeDesc.slice.injEq, List.forall_mem_map, List.length_map, Go.Vm.V.cells, Int.toNat_natCast, Int.reduceToNat, ← List.map_take, ← List.map_drop, List.take_length, Nat.reduceAdd, Nat.reduceLeDiff, Nat.reduceMul, contentL, Value.oneCell', List.all_cons, List.all_nil, Bool.and_self, ‹Tys _›.h, ‹Fc _›.h]
    repeat (refine andA ?_)
    refine k _ ?_
    clear k K
  exact b.h) : A := e b
theorem zStore {A B : Prop} (b : Ho B) (e : Ho B → A := by
  intro b
  refine v_op ?_
  intro K k
  simp only [zE, zS, zJ, zL, zO, zN, aStepM, optable, set_some, Nat.reduceEqDiff, reduceIte, Nat.reduceLT, implies_true, forall_const, reduceCtorEq, V.ofValue, V.ofScalar, V.un, V.gd, aExec, aop, aStore, setCells, V.isVal, V.cells, kindOf, kindAll, V.noSl, V.noRef, gt_iff_lt, Nat.reduceAdd, Nat.reduceLeDiff, Nat.reduceMul, takeV, takeCell, takeCells, row_mk, Blk.row, killAll, Nat.reduceBEq, join_t, contentL, Value.oneCell', ‹Tys _›.h, ‹Fc _›.h]
  repeat (refine andA ?_)
  refine k _ ?_
  clear k K
  exact b.h) : A := e b
theorem zgStore {A B : Prop} (b : Ho B) (e : Ho B → A := by
  intro b
  first
  | refine v_passB rfl rfl rfl ?_ ?_
    · first | rfl | (simp only [zV, guardV, Nat.reduceEqDiff, reduceIte]; done)
    simp only [zW, set_some, Nat.reduceEqDiff, reduceIte]
  | skip
    refine v_op ?_
    intro K k
    simp only [zE, zS, zJ, zL, zO, zN, aStepM, optable, set_some, Nat.reduceEqDiff, reduceIte, Nat.reduceLT, implies_true, forall_const, reduceCtorEq, V.ofValue, V.ofScalar, V.un, V.gd, guardV, V.wrap, aExec, aop, aStore, setCells, V.isVal, V.cells, kindOf, kindAll, V.noSl, V.noRef, gt_iff_lt, Nat.reduceAdd, Nat.reduceLeDiff, Nat.reduceMul, takeV, takeCell, takeCells, row_mk, Blk.row, killAll, Nat.reduceBEq, join_t, contentL, Value.oneCell', ‹Tys _›.h, ‹Fc _›.h]
    repeat (refine andA ?_)
    refine k _ ?_
    clear k K
  exact b.h) : A := e b
theorem zUnOp {A B : Prop} (b : Ho B) (e : Ho B → A := by
  intro b
  refine v_op ?_
  intro K k
  simp only [zE, aStepM, optable, set_some, Nat.reduceEqDiff, reduceIte, Nat.reduceLT, implies_true, forall_const, reduceCtorEq, V.ofValue, V.ofScalar, V.un, V.gd, aExec, aop, aUn, contentL, Value.oneCell', List.all_cons, List.all_nil, Bool.and_self, ‹Tys _›.h, ‹Fc _›.h]
  repeat (refine andA ?_)
  refine k _ ?_
  clear k K
  exact b.h) : A := e b
theorem zgUnOp {A B : Prop} (b : Ho B) (e : Ho B → A := by
  intro b
  first
  | refine v_passB rfl rfl rfl ?_ ?_
    · first | rfl | (simp only [zV, guardV, Nat.reduceEqDiff, reduceIte]; done)
    simp only [zW, set_some, Nat.reduceEqDiff, reduceIte]
  | skip
    refine v_op ?_
    intro K k
    simp only [zE, zG, aStepM, optable, set_some, Nat.reduceEqDiff, reduceIte, Nat.reduceLT, implies_true, forall_const, reduceCtorEq, V.ofValue, V.ofScalar, V.un, V.gd, guardV, V.wrap, aExec, aop, aUn, contentL, Value.oneCell', List.all_cons, List.all_nil, Bool.and_self, ‹Tys _›.h, ‹Fc _›.h]
    repeat (refine andA ?_)
    refine k _ ?_
    clear k K
  exact b.h) : A := e b
theorem zNil {A B : Prop} (b : Ho B) (e : Ho B → A := by
  intro b
  refine v_op ?_
  intro K k
  simp only [zE, aStepM, optable, set_some, Nat.reduceEqDiff, reduceIte, Nat.reduceLT, implies_true, forall_const, reduceCtorEq, V.ofValue, V.ofScalar, V.un, V.gd, aExec, aop, aBin, isNil, aNil, TypeDesc.slice.injEq, true_or, or_true, nil_eql, nil_neq, contentL, Value.oneCell', List.all_cons, List.all_nil, Bool.and_self, ‹Tys _›.h, ‹Fc _›.h]
  repeat (refine andA ?_)
  intro nb hnb
  refine k _ ?_
  clear k K
  revert nb hnb
  exact b.h) : A := e b
theorem zk {A B : Prop} (b : Ho B) (e : Ho B → A := by
  intro b
  simp only [keep_mk, keepE_nil, keepE_cons, look_cons, look_nil, Nat.reduceEqDiff, reduceIte]
  exact b.h) : A := e b
theorem zf {A B : Prop} (b : Ho B) (e : Ho B → A := by
  intro b
  simp only [resK, pickRV, get_mk, look_cons, look_nil, Nat.reduceEqDiff, reduceIte, List.map_cons, List.map_nil]
  exact b.h) : A := e b
theorem v_condS {P : Program} {L : Lend} {m : Nat} {Q : AEx → St → Prop} {s : St} {c : Operand} {x y : Code} (b : Bool) (hc : s.ev c = .bool b) {p q : Prop} (h1 : p → awp P L m x Q s) (h2 : q → awp P L m y Q s)
    (hp : b = true → p := by first | (intro h; simp only [zC, reduceCtorEq] at h; exact h) | exact fun h => h) (hq : b = false → q := by first | (intro h; simp only [zC, reduceCtorEq] at h; exact h) | exact fun h => h) : awp P L m (.cond c x y) Q s :=
  v_cond b hc (fun h => h1 (hp h)) (fun h => h2 (hq h))
theorem weak_bothS {m : Nat} {s s' : St} {B : Prop} (ks ids : List Nat) (b : Ho B) (hn : ids.Nodup := by decide) (hm : ∀ j, j < m → ids[j]? = some j := by simp)
    (he : ∀ p ∈ (s.keep ks).env, p.2.only (fun id => (idx ids id).isSome) = true := by simp [keep_mk, keepE_nil, keepE_cons, look_cons, V.only, V.onlyL, idx] <;> (first | rfl | decide))
    (hb : ∀ id ∈ ids, ∀ bk, s.O[id]? = some bk → bk.kindIs (fun k => k != .mix) = true := by simp [Blk.kindIs, fillK_mix])
    (e : Ho B → (s.keep ks).comp ids = s' := by
      intro b
      simp only [keep_mk, keepE_nil, keepE_cons, look_cons, look_nil, Nat.reduceEqDiff, reduceIte, St.comp, List.map_cons, List.map_nil, V.ren, V.renL, idx, List.getD_cons_zero, List.getD_cons_succ, Nat.reduceBEq, cond_true, cond_false, Option.map_some, Option.getD_some, Nat.reduceAdd, beq_dec, decide_true, decide_false]
      exact b.h) : Weak m s s' := weak_both ks ids hn hm he hb (e b)
theorem weak_bothC {m : Nat} {s s' : St} {B : Prop} (ks ids : List Nat) (b : Ho B) (hn : ids.Nodup := by decide) (hm : ∀ j, j < m → ids[j]? = some j := by simp)
    (he : ∀ p ∈ (s.keep ks).env, p.2.only (fun id => (idx ids id).isSome) = true := by simp [keep_mk, keepE_nil, keepE_cons, look_cons, V.only, V.onlyL, idx, ‹Caps _›.cn] <;> (first | rfl | decide))
    (hb : ∀ id ∈ ids, ∀ bk, s.O[id]? = some bk → bk.kindIs (fun k => k != .mix) = true := by simp [Blk.kindIs, fillK_mix])
    (e : Ho B → (s.keep ks).comp ids = s' := by
      intro b
      simp only [keep_mk, keepE_nil, keepE_cons, look_cons, look_nil, Nat.reduceEqDiff, reduceIte, St.comp, List.map_cons, List.map_nil, V.ren, V.renL, idx, List.getD_cons_zero, List.getD_cons_succ, Nat.reduceBEq, cond_true, cond_false, Option.map_some, Option.getD_some, Nat.reduceAdd, beq_dec, decide_true, decide_false, ‹Caps _›.cr]
      exact b.h) : Weak m s s' := weak_both ks ids hn hm he hb (e b)
theorem zc {C A B : Prop} (con : C) (b : Ho B) (e : C → Ho B → A := by
  intro con b
  refine v_op ?_
  intro K k
  simp only [zE, zM, aStepM, optable, set_some, Nat.reduceEqDiff, reduceIte, Nat.reduceLT, implies_true, forall_const, reduceCtorEq, V.ofValue, V.ofScalar, V.un, V.gd, aExec, lentIds, lendOf, ‹Tys _›.h, ‹Fc _›.h]
  repeat (refine andC ?_)
  refine aCall_new con (by first | rfl | (simp only [toArgs, toArg, toCell, toCells, idx, row_mk, List.getElem?_cons_zero, List.getElem?_cons_succ, Option.bind_some, Option.map_some, Blk.row, fillK_mix, flat_mix, deep_mix, thin_mix, shal_mix, cond_true, List.map_take]; done) | (simp [toArgs, toArg, toCell, toCells, idx, row_mk, Blk.row, fillK_mix, flat_mix, deep_mix, thin_mix, shal_mix, Nat.beq_refl]; done)) (by first | exact .inl ⟨rfl, by simp [Blk.kindIs, fillK_fd]⟩ | exact .inr (by simp [V.cold])) ?_
  refine k _ ?_
  clear k K
  simp only [zY, zW, set_some, Nat.reduceEqDiff, reduceIte, V.ren, V.renL, rho, Nat.reduceAdd]
  exact b.h) : A := e con b
theorem zcl {C A B : Prop} (con : C) (b : Ho B) (e : C → Ho B → A := by
  intro con b
  refine v_op ?_
  intro K k
  simp only [zE, zM, aStepM, optable, set_some, Nat.reduceEqDiff, reduceIte, Nat.reduceLT, implies_true, forall_const, reduceCtorEq, V.ofValue, V.ofScalar, V.un, V.gd, aExec, lentIds, lendOf, ‹Tys _›.h, ‹Fc _›.h]
  repeat (refine andC ?_)
  refine aCall_lent _ con (by first | rfl | (simp only [toArgs, toArg, toCell, toCells, idx, row_mk, List.getElem?_cons_zero, List.getElem?_cons_succ, Option.bind_some, Option.map_some, Blk.row, fillK_mix, flat_mix, deep_mix, thin_mix, shal_mix, cond_true, List.map_take]; done) | (simp [toArgs, toArg, toCell, toCells, idx, row_mk, Blk.row, fillK_mix, flat_mix, deep_mix, thin_mix, shal_mix, Nat.beq_refl]; done)) (by rfl) ⟨by simp [Blk.kindIs, fillK_mix], by simp⟩ (by first | exact .inl rfl | exact .inr (by simp [Blk.kindIs])) ⟨rfl, by simp [Blk.kindIs, fillK_fd]⟩ ?_
  refine k _ ?_
  clear k K
  simp only [zY, zW, set_some, Nat.reduceEqDiff, reduceIte, rho_one, V.ren, V.renL, List.set_cons_zero, List.set_cons_succ, Nat.reduceAdd]
  exact b.h) : A := e con b
theorem zcc {C A B : Prop} (con : C) (b : Ho B) (e : C → Ho B → A := by
  intro con b
  refine v_op ?_
  intro K k
  simp only [zE, zM, aStepM, optable, set_some, Nat.reduceEqDiff, reduceIte, Nat.reduceLT, implies_true, forall_const, reduceCtorEq, V.ofValue, V.ofScalar, V.un, V.gd, aExec, lentIds, lendOf, ‹Tys _›.h, ‹Fc _›.h]
  repeat (refine andC ?_)
  refine aCall_new con (by first | rfl | (simp only [toArgs, toArg, toCell, toCells, idx, row_mk, List.getElem?_cons_zero, List.getElem?_cons_succ, Option.bind_some, Option.map_some, Blk.row, fillK_mix, flat_mix, deep_mix, thin_mix, shal_mix, cond_true, List.map_take, ‹Caps _›.cc, ‹Caps _›.ca]; done) | (simp [toArgs, toArg, toCell, toCells, idx, row_mk, Blk.row, fillK_mix, flat_mix, deep_mix, thin_mix, shal_mix, Nat.beq_refl, ‹Caps _›.cc, ‹Caps _›.ca]; done)) (by first | exact .inl ⟨rfl, by simp [Blk.kindIs, fillK_fd]⟩ | exact .inr (by simp [V.cold])) ?_
  refine k _ ?_
  clear k K
  simp only [zY, zW, set_some, Nat.reduceEqDiff, reduceIte, V.ren, V.renL, rho, Nat.reduceAdd]
  exact b.h) : A := e con b
theorem zclc {C A B : Prop} (con : C) (b : Ho B) (e : C → Ho B → A := by
  intro con b
  refine v_op ?_
  intro K k
  simp only [zE, zM, aStepM, optable, set_some, Nat.reduceEqDiff, reduceIte, Nat.reduceLT, implies_true, forall_const, reduceCtorEq, V.ofValue, V.ofScalar, V.un, V.gd, aExec, lentIds, lendOf, ‹Tys _›.h, ‹Fc _›.h]
  repeat (refine andC ?_)
  refine aCall_lent _ con (by first | rfl | (simp only [toArgs, toArg, toCell, toCells, idx, row_mk, List.getElem?_cons_zero, List.getElem?_cons_succ, Option.bind_some, Option.map_some, Blk.row, fillK_mix, flat_mix, deep_mix, thin_mix, shal_mix, cond_true, List.map_take, ‹Caps _›.cc, ‹Caps _›.ca]; done) | (simp [toArgs, toArg, toCell, toCells, idx, row_mk, Blk.row, fillK_mix, flat_mix, deep_mix, thin_mix, shal_mix, Nat.beq_refl, ‹Caps _›.cc, ‹Caps _›.ca]; done)) (by rfl) ⟨by simp [Blk.kindIs, fillK_mix], by simp⟩ (by first | exact .inl rfl | exact .inr (by simp [Blk.kindIs])) ⟨rfl, by simp [Blk.kindIs, fillK_fd]⟩ ?_
  refine k _ ?_
  clear k K
  simp only [zY, zW, set_some, Nat.reduceEqDiff, reduceIte, rho_one, V.ren, V.renL, List.set_cons_zero, List.set_cons_succ, Nat.reduceAdd]
  exact b.h) : A := e con b
theorem zgc {C A B : Prop} (con : C) (b : Ho B) (e : C → Ho B → A := by
  intro con b
  first
  | refine v_passB rfl rfl rfl ?_ ?_
    · first | rfl | (simp only [zV, guardV, Nat.reduceEqDiff, reduceIte]; done)
    simp only [zW, set_some, Nat.reduceEqDiff, reduceIte]
  | skip
    refine v_op ?_
    intro K k
    simp only [zE, zG, aStepM, optable, set_some, Nat.reduceEqDiff, reduceIte, Nat.reduceLT, implies_true, forall_const, reduceCtorEq, V.ofValue, V.ofScalar, V.un, V.gd, guardV, ‹Tys _›.h, ‹Fc _›.h]
    simp only [zM, zW, aExec, lentIds, lendOf, set_some, Nat.reduceEqDiff, reduceIte, V.ofValue, V.ofScalar, V.un, V.gd, and_true, true_and, implies_true, and_self, decide_eq_true_eq]
    first | refine Exists.imp (fun r h => h) (aCall_guardT con (by first | rfl | (simp only [toArgs, toArg, toCell, toCells, idx, row_mk, List.getElem?_cons_zero, List.getElem?_cons_succ, Option.bind_some, Option.map_some, Blk.row, fillK_mix, flat_mix, deep_mix, thin_mix, shal_mix, cond_true, List.map_take]; done) | (simp [toArgs, toArg, toCell, toCells, idx, row_mk, Blk.row, fillK_mix, flat_mix, deep_mix, thin_mix, shal_mix, Nat.beq_refl]; done)) rfl rfl ?_) | refine Exists.imp (fun r h => h) (aCall_guard (by first | (intros; trivial) | (intros; simp_all; done)) (fun hg => con) (by first | rfl | (simp only [toArgs, toArg, toCell, toCells, idx, row_mk, List.getElem?_cons_zero, List.getElem?_cons_succ, Option.bind_some, Option.map_some, Blk.row, fillK_mix, flat_mix, deep_mix, thin_mix, shal_mix, cond_true, List.map_take]; done) | (simp [toArgs, toArg, toCell, toCells, idx, row_mk, Blk.row, fillK_mix, flat_mix, deep_mix, thin_mix, shal_mix, Nat.beq_refl]; done)) rfl rfl ?_)
    refine k _ ?_
    clear k K
  exact b.h) : A := e con b
theorem zgcc {C A B : Prop} (con : C) (b : Ho B) (e : C → Ho B → A := by
  intro con b
  first
  | refine v_passB rfl rfl rfl ?_ ?_
    · first | rfl | (simp only [zV, guardV, Nat.reduceEqDiff, reduceIte]; done)
    simp only [zW, set_some, Nat.reduceEqDiff, reduceIte]
  | skip
    refine v_op ?_
    intro K k
    simp only [zE, zG, aStepM, optable, set_some, Nat.reduceEqDiff, reduceIte, Nat.reduceLT, implies_true, forall_const, reduceCtorEq, V.ofValue, V.ofScalar, V.un, V.gd, guardV, ‹Tys _›.h, ‹Fc _›.h]
    simp only [zM, zW, aExec, lentIds, lendOf, set_some, Nat.reduceEqDiff, reduceIte, V.ofValue, V.ofScalar, V.un, V.gd, and_true, true_and, implies_true, and_self, decide_eq_true_eq]
    first | refine Exists.imp (fun r h => h) (aCall_guardT con (by first | rfl | (simp only [toArgs, toArg, toCell, toCells, idx, row_mk, List.getElem?_cons_zero, List.getElem?_cons_succ, Option.bind_some, Option.map_some, Blk.row, fillK_mix, flat_mix, deep_mix, thin_mix, shal_mix, cond_true, List.map_take, ‹Caps _›.cc, ‹Caps _›.ca]; done) | (simp [toArgs, toArg, toCell, toCells, idx, row_mk, Blk.row, fillK_mix, flat_mix, deep_mix, thin_mix, shal_mix, Nat.beq_refl, ‹Caps _›.cc, ‹Caps _›.ca]; done)) rfl rfl ?_) | refine Exists.imp (fun r h => h) (aCall_guard (by first | (intros; trivial) | (intros; simp_all; done)) (fun hg => con) (by first | rfl | (simp only [toArgs, toArg, toCell, toCells, idx, row_mk, List.getElem?_cons_zero, List.getElem?_cons_succ, Option.bind_some, Option.map_some, Blk.row, fillK_mix, flat_mix, deep_mix, thin_mix, shal_mix, cond_true, List.map_take, ‹Caps _›.cc, ‹Caps _›.ca]; done) | (simp [toArgs, toArg, toCell, toCells, idx, row_mk, Blk.row, fillK_mix, flat_mix, deep_mix, thin_mix, shal_mix, Nat.beq_refl, ‹Caps _›.cc, ‹Caps _›.ca]; done)) rfl rfl ?_)
    refine k _ ?_
    clear k K
  exact b.h) : A := e con b
theorem row_all {O : List Blk} {t : St} (h : Grow O t.O) : ∀ i, (O[i]?).isSome = true → t.row i = (O[i]?).bind Blk.row := by
  intro i hi
  unfold St.row
  cases hb : O[i]? with
  | none => rw [hb] at hi; cases hi
  | some b => rw [h i b hb]
theorem zdMove {P : Program} {L : Lend} {rg : Array Oper} {K : St → Prop} {fuel : Nat} {listed : Array Bool} {env : List (Nat × V)} {O : List Blk} {vw : Bool} {n m : Nat} {oi : Oper} {rest : List Oper} {v : V} (hK : ∀ s t, EqS s t → K s → K t) (kp : Bool) (i d : Nat)
    (b : aAny P L rg K fuel (listed.setIfInBounds i true) ⟨(d, v) :: env, O, vw, n, m⟩) (hi : rg.toList.drop i = oi :: rest := by rfl) (hd : oi.dst = some d := by rfl) (hf : Region.freeG L kp rg listed i = true := by kernel_rfl) (hr : (Region.ready .any rg listed).contains i = true := by kernel_rfl)
    (hp : PureH P L rg kp oi d v ⟨env, O, vw, n, m⟩ := by
      intro t hn gx ho K' k'
      dsimp only at hn
      refine .inl ?_
      simp (disch := first | decide | rfl) only [gx, zE, aStepM, optable, Nat.reduceEqDiff, reduceIte, Nat.reduceLT, implies_true, forall_const, reduceCtorEq, V.ofValue, V.ofScalar, V.un, V.gd, aExec, aop, contentL, Value.oneCell', List.all_cons, List.all_nil, Bool.and_self, ‹Tys _›.h, ‹Fc _›.h]
      repeat (refine andA ?_)
      exact k') : aAny P L rg K (fuel + 1) listed ⟨env, O, vw, n, m⟩ := aAny_take hK kp i d hi hd hf hr ⟨v, hp, b⟩
theorem zdgMove {P : Program} {L : Lend} {rg : Array Oper} {K : St → Prop} {fuel : Nat} {listed : Array Bool} {env : List (Nat × V)} {O : List Blk} {vw : Bool} {n m : Nat} {oi : Oper} {rest : List Oper} {v : V} (hK : ∀ s t, EqS s t → K s → K t) (kp : Bool) (i d : Nat)
    (b : aAny P L rg K fuel (listed.setIfInBounds i true) ⟨(d, v) :: env, O, vw, n, m⟩) (hi : rg.toList.drop i = oi :: rest := by rfl) (hd : oi.dst = some d := by rfl) (hf : Region.freeG L kp rg listed i = true := by kernel_rfl) (hr : (Region.ready .any rg listed).contains i = true := by kernel_rfl)
    (hp : PureH P L rg kp oi d v ⟨env, O, vw, n, m⟩ := by
      intro t hn gx ho K' k'
      dsimp only at hn
      first
      | refine .inr ⟨?_, _, _, rfl, ?_, k'⟩
        · simp only [hn, dst_some, Nat.reduceLT]
        · first | rfl | (simp (disch := decide) only [gx, zV, guardV, Nat.reduceEqDiff, reduceIte]; done)
      | skip
        refine .inl ?_
        simp (disch := first | decide | rfl) only [gx, zE, zG, aStepM, optable, Nat.reduceEqDiff, reduceIte, Nat.reduceLT, implies_true, forall_const, reduceCtorEq, V.ofValue, V.ofScalar, V.un, V.gd, guardV, V.wrap, aExec, aop, contentL, Value.oneCell', List.all_cons, List.all_nil, Bool.and_self, ‹Tys _›.h, ‹Fc _›.h]
        repeat (refine andA ?_)
        exact k') : aAny P L rg K (fuel + 1) listed ⟨env, O, vw, n, m⟩ := aAny_take hK kp i d hi hd hf hr ⟨v, hp, b⟩
theorem zdPick {P : Program} {L : Lend} {rg : Array Oper} {K : St → Prop} {fuel : Nat} {listed : Array Bool} {env : List (Nat × V)} {O : List Blk} {vw : Bool} {n m : Nat} {oi : Oper} {rest : List Oper} {v : V} (hK : ∀ s t, EqS s t → K s → K t) (kp : Bool) (i d : Nat)
    (b : aAny P L rg K fuel (listed.setIfInBounds i true) ⟨(d, v) :: env, O, vw, n, m⟩) (hi : rg.toList.drop i = oi :: rest := by rfl) (hd : oi.dst = some d := by rfl) (hf : Region.freeG L kp rg listed i = true := by kernel_rfl) (hr : (Region.ready .any rg listed).contains i = true := by kernel_rfl)
    (hp : PureH P L rg kp oi d v ⟨env, O, vw, n, m⟩ := by
      intro t hn gx ho K' k'
      dsimp only at hn
      refine .inl ?_
      simp (disch := first | decide | rfl) only [gx, zE, zP, aStepM, optable, Nat.reduceEqDiff, reduceIte, Nat.reduceLT, implies_true, forall_const, reduceCtorEq, V.ofValue, V.ofScalar, V.un, V.gd, aExec, aop, pickV, contentL, Value.oneCell', List.all_cons, List.all_nil, Bool.and_self, ‹Tys _›.h, ‹Fc _›.h]
      repeat (refine andA ?_)
      exact k') : aAny P L rg K (fuel + 1) listed ⟨env, O, vw, n, m⟩ := aAny_take hK kp i d hi hd hf hr ⟨v, hp, b⟩
theorem zdgPick {P : Program} {L : Lend} {rg : Array Oper} {K : St → Prop} {fuel : Nat} {listed : Array Bool} {env : List (Nat × V)} {O : List Blk} {vw : Bool} {n m : Nat} {oi : Oper} {rest : List Oper} {v : V} (hK : ∀ s t, EqS s t → K s → K t) (kp : Bool) (i d : Nat)
    (b : aAny P L rg K fuel (listed.setIfInBounds i true) ⟨(d, v) :: env, O, vw, n, m⟩) (hi : rg.toList.drop i = oi :: rest := by rfl) (hd : oi.dst = some d := by rfl) (hf : Region.freeG L kp rg listed i = true := by kernel_rfl) (hr : (Region.ready .any rg listed).contains i = true := by kernel_rfl)
    (hp : PureH P L rg kp oi d v ⟨env, O, vw, n, m⟩ := by
      intro t hn gx ho K' k'
      dsimp only at hn
      first
      | refine .inr ⟨?_, _, _, rfl, ?_, k'⟩
        · simp only [hn, dst_some, Nat.reduceLT]
        · first | rfl | (simp (disch := decide) only [gx, zV, guardV, Nat.reduceEqDiff, reduceIte]; done)
      | skip
        refine .inl ?_
        simp (disch := first | decide | rfl) only [gx, zE, zP, zG, aStepM, optable, Nat.reduceEqDiff, reduceIte, Nat.reduceLT, implies_true, forall_const, reduceCtorEq, V.ofValue, V.ofScalar, V.un, V.gd, guardV, V.wrap, aExec, aop, pickV, contentL, Value.oneCell', List.all_cons, List.all_nil, Bool.and_self, ‹Tys _›.h, ‹Fc _›.h]
        repeat (refine andA ?_)
        exact k') : aAny P L rg K (fuel + 1) listed ⟨env, O, vw, n, m⟩ := aAny_take hK kp i d hi hd hf hr ⟨v, hp, b⟩
theorem zdLoad {P : Program} {L : Lend} {rg : Array Oper} {K : St → Prop} {fuel : Nat} {listed : Array Bool} {env : List (Nat × V)} {O : List Blk} {vw : Bool} {n m : Nat} {oi : Oper} {rest : List Oper} {v : V} (hK : ∀ s t, EqS s t → K s → K t) (kp : Bool) (i d : Nat)
    (b : aAny P L rg K fuel (listed.setIfInBounds i true) ⟨(d, v) :: env, O, vw, n, m⟩) (hi : rg.toList.drop i = oi :: rest := by rfl) (hd : oi.dst = some d := by rfl) (hf : Region.freeG L kp rg listed i = true := by kernel_rfl) (hr : (Region.ready .any rg listed).contains i = true := by kernel_rfl)
    (hp : PureH P L rg kp oi d v ⟨env, O, vw, n, m⟩ := by
      intro t hn gx ho K' k'
      dsimp only at hn
      first | have r0 := row_all (ho rfl) 0 rfl | have r0 := True.intro
      first | have r1 := row_all (ho rfl) 1 rfl | have r1 := True.intro
      first | have r2 := row_all (ho rfl) 2 rfl | have r2 := True.intro
      first | have r3 := row_all (ho rfl) 3 rfl | have r3 := True.intro
      first | have r4 := row_all (ho rfl) 4 rfl | have r4 := True.intro
      first | have r5 := row_all (ho rfl) 5 rfl | have r5 := True.intro
      refine .inl ?_
      simp (disch := first | decide | rfl) only [gx, r0, r1, r2, r3, r4, r5, zE, zL, zO, zN, aStepM, optable, Nat.reduceEqDiff, reduceIte, Nat.reduceLT, implies_true, forall_const, reduceCtorEq, V.ofValue, V.ofScalar, V.un, V.gd, aExec, aop, aLoad, row_mk, Blk.row, PartOK, Go.Vm.part, V.cells, V.noSl, V.noRef, Nat.reduceAdd, Nat.reduceLeDiff, Nat.reduceMul, contentL, Value.oneCell', List.all_cons, List.all_nil, ‹Tys _›.h, ‹Fc _›.h]
      repeat (refine andA ?_)
      exact k') : aAny P L rg K (fuel + 1) listed ⟨env, O, vw, n, m⟩ := aAny_take hK kp i d hi hd hf hr ⟨v, hp, b⟩
theorem zdgLoad {P : Program} {L : Lend} {rg : Array Oper} {K : St → Prop} {fuel : Nat} {listed : Array Bool} {env : List (Nat × V)} {O : List Blk} {vw : Bool} {n m : Nat} {oi : Oper} {rest : List Oper} {v : V} (hK : ∀ s t, EqS s t → K s → K t) (kp : Bool) (i d : Nat)
    (b : aAny P L rg K fuel (listed.setIfInBounds i true) ⟨(d, v) :: env, O, vw, n, m⟩) (hi : rg.toList.drop i = oi :: rest := by rfl) (hd : oi.dst = some d := by rfl) (hf : Region.freeG L kp rg listed i = true := by kernel_rfl) (hr : (Region.ready .any rg listed).contains i = true := by kernel_rfl)
    (hp : PureH P L rg kp oi d v ⟨env, O, vw, n, m⟩ := by
      intro t hn gx ho K' k'
      dsimp only at hn
      first | have r0 := row_all (ho rfl) 0 rfl | have r0 := True.intro
      first | have r1 := row_all (ho rfl) 1 rfl | have r1 := True.intro
      first | have r2 := row_all (ho rfl) 2 rfl | have r2 := True.intro
      first | have r3 := row_all (ho rfl) 3 rfl | have r3 := True.intro
      first | have r4 := row_all (ho rfl) 4 rfl | have r4 := True.intro
      first | have r5 := row_all (ho rfl) 5 rfl | have r5 := True.intro
      first
      | refine .inr ⟨?_, _, _, rfl, ?_, k'⟩
        · simp only [hn, dst_some, Nat.reduceLT]
        · first | rfl | (simp (disch := decide) only [gx, zV, guardV, Nat.reduceEqDiff, reduceIte]; done)
      | skip
        refine .inl ?_
        simp (disch := first | decide | rfl) only [gx, r0, r1, r2, r3, r4, r5, zE, zL, zO, zN, aStepM, optable, Nat.reduceEqDiff, reduceIte, Nat.reduceLT, implies_true, forall_const, reduceCtorEq, V.ofValue, V.ofScalar, V.un, V.gd, guardV, V.wrap, aExec, aop, aLoad, row_mk, Blk.row, PartOK, Go.Vm.part, V.cells, V.noSl, V.noRef, Nat.reduceAdd, Nat.reduceLeDiff, Nat.reduceMul, contentL, Value.oneCell', List.all_cons, List.all_nil, ‹Tys _›.h, ‹Fc _›.h]
        repeat (refine andA ?_)
        exact k') : aAny P L rg K (fuel + 1) listed ⟨env, O, vw, n, m⟩ := aAny_take hK kp i d hi hd hf hr ⟨v, hp, b⟩
theorem zdNilCheck {P : Program} {L : Lend} {rg : Array Oper} {K : St → Prop} {fuel : Nat} {listed : Array Bool} {env : List (Nat × V)} {O : List Blk} {vw : Bool} {n m : Nat} {oi : Oper} {rest : List Oper} {v : V} (hK : ∀ s t, EqS s t → K s → K t) (kp : Bool) (i d : Nat)
    (b : aAny P L rg K fuel (listed.setIfInBounds i true) ⟨(d, v) :: env, O, vw, n, m⟩) (hi : rg.toList.drop i = oi :: rest := by rfl) (hd : oi.dst = some d := by rfl) (hf : Region.freeG L kp rg listed i = true := by kernel_rfl) (hr : (Region.ready .any rg listed).contains i = true := by kernel_rfl)
    (hp : PureH P L rg kp oi d v ⟨env, O, vw, n, m⟩ := by
      intro t hn gx ho K' k'
      dsimp only at hn
      refine .inl ?_
      simp (disch := first | decide | rfl) only [gx, zE, aStepM, optable, Nat.reduceEqDiff, reduceIte, Nat.reduceLT, implies_true, forall_const, reduceCtorEq, V.ofValue, V.ofScalar, V.un, V.gd, aExec, aop, contentL, Value.oneCell', List.all_cons, List.all_nil, Bool.and_self, ‹Tys _›.h, ‹Fc _›.h]
      repeat (refine andA ?_)
      exact k') : aAny P L rg K (fuel + 1) listed ⟨env, O, vw, n, m⟩ := aAny_take hK kp i d hi hd hf hr ⟨v, hp, b⟩
theorem zdgNilCheck {P : Program} {L : Lend} {rg : Array Oper} {K : St → Prop} {fuel : Nat} {listed : Array Bool} {env : List (Nat × V)} {O : List Blk} {vw : Bool} {n m : Nat} {oi : Oper} {rest : List Oper} {v : V} (hK : ∀ s t, EqS s t → K s → K t) (kp : Bool) (i d : Nat)
    (b : aAny P L rg K fuel (listed.setIfInBounds i true) ⟨(d, v) :: env, O, vw, n, m⟩) (hi : rg.toList.drop i = oi :: rest := by rfl) (hd : oi.dst = some d := by rfl) (hf : Region.freeG L kp rg listed i = true := by kernel_rfl) (hr : (Region.ready .any rg listed).contains i = true := by kernel_rfl)
    (hp : PureH P L rg kp oi d v ⟨env, O, vw, n, m⟩ := by
      intro t hn gx ho K' k'
      dsimp only at hn
      first
      | refine .inr ⟨?_, _, _, rfl, ?_, k'⟩
        · simp only [hn, dst_some, Nat.reduceLT]
        · first | rfl | (simp (disch := decide) only [gx, zV, guardV, Nat.reduceEqDiff, reduceIte]; done)
      | skip
        refine .inl ?_
        simp (disch := first | decide | rfl) only [gx, zE, zG, aStepM, optable, Nat.reduceEqDiff, reduceIte, Nat.reduceLT, implies_true, forall_const, reduceCtorEq, V.ofValue, V.ofScalar, V.un, V.gd, guardV, V.wrap, aExec, aop, contentL, Value.oneCell', List.all_cons, List.all_nil, Bool.and_self, ‹Tys _›.h, ‹Fc _›.h]
        repeat (refine andA ?_)
        exact k') : aAny P L rg K (fuel + 1) listed ⟨env, O, vw, n, m⟩ := aAny_take hK kp i d hi hd hf hr ⟨v, hp, b⟩
theorem zdBinOp {P : Program} {L : Lend} {rg : Array Oper} {K : St → Prop} {fuel : Nat} {listed : Array Bool} {env : List (Nat × V)} {O : List Blk} {vw : Bool} {n m : Nat} {oi : Oper} {rest : List Oper} {v : V} (hK : ∀ s t, EqS s t → K s → K t) (kp : Bool) (i d : Nat)
    (b : aAny P L rg K fuel (listed.setIfInBounds i true) ⟨(d, v) :: env, O, vw, n, m⟩) (hi : rg.toList.drop i = oi :: rest := by rfl) (hd : oi.dst = some d := by rfl) (hf : Region.freeG L kp rg listed i = true := by kernel_rfl) (hr : (Region.ready .any rg listed).contains i = true := by kernel_rfl)
    (hp : PureH P L rg kp oi d v ⟨env, O, vw, n, m⟩ := by
      intro t hn gx ho K' k'
      dsimp only at hn
      refine .inl ?_
      simp (disch := first | decide | rfl) only [gx, zE, aStepM, optable, Nat.reduceEqDiff, reduceIte, Nat.reduceLT, implies_true, forall_const, reduceCtorEq, V.ofValue, V.ofScalar, V.un, V.gd, aExec, aop, aBin, isNil, contentL, Value.oneCell', List.all_cons, List.all_nil, Bool.and_self, ‹Tys _›.h, ‹Fc _›.h]
      repeat (refine andA ?_)
      exact k') : aAny P L rg K (fuel + 1) listed ⟨env, O, vw, n, m⟩ := aAny_take hK kp i d hi hd hf hr ⟨v, hp, b⟩
theorem zdBinOpW {P : Program} {L : Lend} {rg : Array Oper} {K : St → Prop} {fuel : Nat} {listed : Array Bool} {env : List (Nat × V)} {O : List Blk} {vw : Bool} {n m : Nat} {oi : Oper} {rest : List Oper} {v : V} (hK : ∀ s t, EqS s t → K s → K t) (kp : Bool) (i d : Nat)
    (b : aAny P L rg K fuel (listed.setIfInBounds i true) ⟨(d, v) :: env, O, vw, n, m⟩) (hi : rg.toList.drop i = oi :: rest := by rfl) (hd : oi.dst = some d := by rfl) (hf : Region.freeG L kp rg listed i = true := by kernel_rfl) (hr : (Region.ready .any rg listed).contains i = true := by kernel_rfl)
    (hp : PureH P L rg kp oi d v ⟨env, O, vw, n, m⟩ := by
      intro t hn gx ho K' k'
      dsimp only at hn
      refine .inl ?_
      simp (disch := first | decide | rfl) only [gx, zE, aStepM, optable, Nat.reduceEqDiff, reduceIte, Nat.reduceLT, implies_true, forall_const, reduceCtorEq, V.ofValue, V.ofScalar, V.un, V.gd, aExec, aop, aBin, isNil, contentL, Value.oneCell', List.all_cons, List.all_nil, Bool.and_self, ‹Tys _›.h, ‹Fc _›.h]
      try simp (disch := omega) only [wrap64]
      repeat (refine andA ?_)
      exact k') : aAny P L rg K (fuel + 1) listed ⟨env, O, vw, n, m⟩ := aAny_take hK kp i d hi hd hf hr ⟨v, hp, b⟩
theorem zdgBinOp {P : Program} {L : Lend} {rg : Array Oper} {K : St → Prop} {fuel : Nat} {listed : Array Bool} {env : List (Nat × V)} {O : List Blk} {vw : Bool} {n m : Nat} {oi : Oper} {rest : List Oper} {v : V} (hK : ∀ s t, EqS s t → K s → K t) (kp : Bool) (i d : Nat)
    (b : aAny P L rg K fuel (listed.setIfInBounds i true) ⟨(d, v) :: env, O, vw, n, m⟩) (hi : rg.toList.drop i = oi :: rest := by rfl) (hd : oi.dst = some d := by rfl) (hf : Region.freeG L kp rg listed i = true := by kernel_rfl) (hr : (Region.ready .any rg listed).contains i = true := by kernel_rfl)
    (hp : PureH P L rg kp oi d v ⟨env, O, vw, n, m⟩ := by
      intro t hn gx ho K' k'
      dsimp only at hn
      first
      | refine .inr ⟨?_, _, _, rfl, ?_, k'⟩
        · simp only [hn, dst_some, Nat.reduceLT]
        · first | rfl | (simp (disch := decide) only [gx, zV, guardV, Nat.reduceEqDiff, reduceIte]; done)
      | skip
        refine .inl ?_
        simp (disch := first | decide | rfl) only [gx, zE, zG, aStepM, optable, Nat.reduceEqDiff, reduceIte, Nat.reduceLT, implies_true, forall_const, reduceCtorEq, V.ofValue, V.ofScalar, V.un, V.gd, guardV, V.wrap, aExec, aop, aBin, isNil, contentL, Value.oneCell', List.all_cons, List.all_nil, Bool.and_self, ‹Tys _›.h, ‹Fc _›.h]
        repeat (refine andA ?_)
        exact k') : aAny P L rg K (fuel + 1) listed ⟨env, O, vw, n, m⟩ := aAny_take hK kp i d hi hd hf hr ⟨v, hp, b⟩
theorem zdgBinOpW {P : Program} {L : Lend} {rg : Array Oper} {K : St → Prop} {fuel : Nat} {listed : Array Bool} {env : List (Nat × V)} {O : List Blk} {vw : Bool} {n m : Nat} {oi : Oper} {rest : List Oper} {v : V} (hK : ∀ s t, EqS s t → K s → K t) (kp : Bool) (i d : Nat)
    (b : aAny P L rg K fuel (listed.setIfInBounds i true) ⟨(d, v) :: env, O, vw, n, m⟩) (hi : rg.toList.drop i = oi :: rest := by rfl) (hd : oi.dst = some d := by rfl) (hf : Region.freeG L kp rg listed i = true := by kernel_rfl) (hr : (Region.ready .any rg listed).contains i = true := by kernel_rfl)
    (hp : PureH P L rg kp oi d v ⟨env, O, vw, n, m⟩ := by
      intro t hn gx ho K' k'
      dsimp only at hn
      first
      | refine .inr ⟨?_, _, _, rfl, ?_, k'⟩
        · simp only [hn, dst_some, Nat.reduceLT]
        · first | rfl | (simp (disch := decide) only [gx, zV, guardV, Nat.reduceEqDiff, reduceIte]; done)
      | skip
        refine .inl ?_
        simp (disch := first | decide | rfl) only [gx, zE, zG, aStepM, optable, Nat.reduceEqDiff, reduceIte, Nat.reduceLT, implies_true, forall_const, reduceCtorEq, V.ofValue, V.ofScalar, V.un, V.gd, guardV, V.wrap, aExec, aop, aBin, isNil, contentL, Value.oneCell', List.all_cons, List.all_nil, Bool.and_self, ‹Tys _›.h, ‹Fc _›.h]
        try simp (disch := omega) only [wrap64]
        repeat (refine andA ?_)
        exact k') : aAny P L rg K (fuel + 1) listed ⟨env, O, vw, n, m⟩ := aAny_take hK kp i d hi hd hf hr ⟨v, hp, b⟩
theorem zdUnOp {P : Program} {L : Lend} {rg : Array Oper} {K : St → Prop} {fuel : Nat} {listed : Array Bool} {env : List (Nat × V)} {O : List Blk} {vw : Bool} {n m : Nat} {oi : Oper} {rest : List Oper} {v : V} (hK : ∀ s t, EqS s t → K s → K t) (kp : Bool) (i d : Nat)
    (b : aAny P L rg K fuel (listed.setIfInBounds i true) ⟨(d, v) :: env, O, vw, n, m⟩) (hi : rg.toList.drop i = oi :: rest := by rfl) (hd : oi.dst = some d := by rfl) (hf : Region.freeG L kp rg listed i = true := by kernel_rfl) (hr : (Region.ready .any rg listed).contains i = true := by kernel_rfl)
    (hp : PureH P L rg kp oi d v ⟨env, O, vw, n, m⟩ := by
      intro t hn gx ho K' k'
      dsimp only at hn
      refine .inl ?_
      simp (disch := first | decide | rfl) only [gx, zE, aStepM, optable, Nat.reduceEqDiff, reduceIte, Nat.reduceLT, implies_true, forall_const, reduceCtorEq, V.ofValue, V.ofScalar, V.un, V.gd, aExec, aop, aUn, contentL, Value.oneCell', List.all_cons, List.all_nil, Bool.and_self, ‹Tys _›.h, ‹Fc _›.h]
      repeat (refine andA ?_)
      exact k') : aAny P L rg K (fuel + 1) listed ⟨env, O, vw, n, m⟩ := aAny_take hK kp i d hi hd hf hr ⟨v, hp, b⟩
theorem zdgUnOp {P : Program} {L : Lend} {rg : Array Oper} {K : St → Prop} {fuel : Nat} {listed : Array Bool} {env : List (Nat × V)} {O : List Blk} {vw : Bool} {n m : Nat} {oi : Oper} {rest : List Oper} {v : V} (hK : ∀ s t, EqS s t → K s → K t) (kp : Bool) (i d : Nat)
    (b : aAny P L rg K fuel (listed.setIfInBounds i true) ⟨(d, v) :: env, O, vw, n, m⟩) (hi : rg.toList.drop i = oi :: rest := by rfl) (hd : oi.dst = some d := by rfl) (hf : Region.freeG L kp rg listed i = true := by kernel_rfl) (hr : (Region.ready .any rg listed).contains i = true := by kernel_rfl)
    (hp : PureH P L rg kp oi d v ⟨env, O, vw, n, m⟩ := by
      intro t hn gx ho K' k'
      dsimp only at hn
      first
      | refine .inr ⟨?_, _, _, rfl, ?_, k'⟩
        · simp only [hn, dst_some, Nat.reduceLT]
        · first | rfl | (simp (disch := decide) only [gx, zV, guardV, Nat.reduceEqDiff, reduceIte]; done)
      | skip
        refine .inl ?_
        simp (disch := first | decide | rfl) only [gx, zE, zG, aStepM, optable, Nat.reduceEqDiff, reduceIte, Nat.reduceLT, implies_true, forall_const, reduceCtorEq, V.ofValue, V.ofScalar, V.un, V.gd, guardV, V.wrap, aExec, aop, aUn, contentL, Value.oneCell', List.all_cons, List.all_nil, Bool.and_self, ‹Tys _›.h, ‹Fc _›.h]
        repeat (refine andA ?_)
        exact k') : aAny P L rg K (fuel + 1) listed ⟨env, O, vw, n, m⟩ := aAny_take hK kp i d hi hd hf hr ⟨v, hp, b⟩
theorem zdFieldAddr {P : Program} {L : Lend} {rg : Array Oper} {K : St → Prop} {fuel : Nat} {listed : Array Bool} {env : List (Nat × V)} {O : List Blk} {vw : Bool} {n m : Nat} {oi : Oper} {rest : List Oper} {v : V} (hK : ∀ s t, EqS s t → K s → K t) (kp : Bool) (i d : Nat)
    (b : aAny P L rg K fuel (listed.setIfInBounds i true) ⟨(d, v) :: env, O, vw, n, m⟩) (hi : rg.toList.drop i = oi :: rest := by rfl) (hd : oi.dst = some d := by rfl) (hf : Region.freeG L kp rg listed i = true := by kernel_rfl) (hr : (Region.ready .any rg listed).contains i = true := by kernel_rfl)
    (hp : PureH P L rg kp oi d v ⟨env, O, vw, n, m⟩ := by
      intro t hn gx ho K' k'
      dsimp only at hn
      refine .inl ?_
      simp (disch := first | decide | rfl) only [gx, zE, zL, zN, aStepM, optable, Nat.reduceEqDiff, reduceIte, Nat.reduceLT, implies_true, forall_const, reduceCtorEq, V.ofValue, V.ofScalar, V.un, V.gd, aExec, aop, aFieldAddr, Nat.reduceAdd, Nat.reduceLeDiff, Nat.reduceMul, contentL, Value.oneCell', List.all_cons, List.all_nil, Bool.and_self, ‹Tys _›.h, ‹Fc _›.h]
      repeat (refine andA ?_)
      exact k') : aAny P L rg K (fuel + 1) listed ⟨env, O, vw, n, m⟩ := aAny_take hK kp i d hi hd hf hr ⟨v, hp, b⟩
theorem zdgFieldAddr {P : Program} {L : Lend} {rg : Array Oper} {K : St → Prop} {fuel : Nat} {listed : Array Bool} {env : List (Nat × V)} {O : List Blk} {vw : Bool} {n m : Nat} {oi : Oper} {rest : List Oper} {v : V} (hK : ∀ s t, EqS s t → K s → K t) (kp : Bool) (i d : Nat)
    (b : aAny P L rg K fuel (listed.setIfInBounds i true) ⟨(d, v) :: env, O, vw, n, m⟩) (hi : rg.toList.drop i = oi :: rest := by rfl) (hd : oi.dst = some d := by rfl) (hf : Region.freeG L kp rg listed i = true := by kernel_rfl) (hr : (Region.ready .any rg listed).contains i = true := by kernel_rfl)
    (hp : PureH P L rg kp oi d v ⟨env, O, vw, n, m⟩ := by
      intro t hn gx ho K' k'
      dsimp only at hn
      first
      | refine .inr ⟨?_, _, _, rfl, ?_, k'⟩
        · simp only [hn, dst_some, Nat.reduceLT]
        · first | rfl | (simp (disch := decide) only [gx, zV, guardV, Nat.reduceEqDiff, reduceIte]; done)
      | skip
        refine .inl ?_
        simp (disch := first | decide | rfl) only [gx, zE, zL, zN, aStepM, optable, Nat.reduceEqDiff, reduceIte, Nat.reduceLT, implies_true, forall_const, reduceCtorEq, V.ofValue, V.ofScalar, V.un, V.gd, guardV, V.wrap, aExec, aop, aFieldAddr, Nat.reduceAdd, Nat.reduceLeDiff, Nat.reduceMul, contentL, Value.oneCell', List.all_cons, List.all_nil, Bool.and_self, ‹Tys _›.h, ‹Fc _›.h]
        repeat (refine andA ?_)
        exact k') : aAny P L rg K (fuel + 1) listed ⟨env, O, vw, n, m⟩ := aAny_take hK kp i d hi hd hf hr ⟨v, hp, b⟩
theorem zdField {P : Program} {L : Lend} {rg : Array Oper} {K : St → Prop} {fuel : Nat} {listed : Array Bool} {env : List (Nat × V)} {O : List Blk} {vw : Bool} {n m : Nat} {oi : Oper} {rest : List Oper} {v : V} (hK : ∀ s t, EqS s t → K s → K t) (kp : Bool) (i d : Nat)
    (b : aAny P L rg K fuel (listed.setIfInBounds i true) ⟨(d, v) :: env, O, vw, n, m⟩) (hi : rg.toList.drop i = oi :: rest := by rfl) (hd : oi.dst = some d := by rfl) (hf : Region.freeG L kp rg listed i = true := by kernel_rfl) (hr : (Region.ready .any rg listed).contains i = true := by kernel_rfl)
    (hp : PureH P L rg kp oi d v ⟨env, O, vw, n, m⟩ := by
      intro t hn gx ho K' k'
      dsimp only at hn
      refine .inl ?_
      simp (disch := first | decide | rfl) only [gx, zE, aStepM, optable, Nat.reduceEqDiff, reduceIte, Nat.reduceLT, implies_true, forall_const, reduceCtorEq, V.ofValue, V.ofScalar, V.un, V.gd, aExec, aop, contentL, Value.oneCell', List.all_cons, List.all_nil, Bool.and_self, ‹Tys _›.h, ‹Fc _›.h]
      repeat (refine andA ?_)
      exact k') : aAny P L rg K (fuel + 1) listed ⟨env, O, vw, n, m⟩ := aAny_take hK kp i d hi hd hf hr ⟨v, hp, b⟩
theorem zdgField {P : Program} {L : Lend} {rg : Array Oper} {K : St → Prop} {fuel : Nat} {listed : Array Bool} {env : List (Nat × V)} {O : List Blk} {vw : Bool} {n m : Nat} {oi : Oper} {rest : List Oper} {v : V} (hK : ∀ s t, EqS s t → K s → K t) (kp : Bool) (i d : Nat)
    (b : aAny P L rg K fuel (listed.setIfInBounds i true) ⟨(d, v) :: env, O, vw, n, m⟩) (hi : rg.toList.drop i = oi :: rest := by rfl) (hd : oi.dst = some d := by rfl) (hf : Region.freeG L kp rg listed i = true := by kernel_rfl) (hr : (Region.ready .any rg listed).contains i = true := by kernel_rfl)
    (hp : PureH P L rg kp oi d v ⟨env, O, vw, n, m⟩ := by
      intro t hn gx ho K' k'
      dsimp only at hn
      first
      | refine .inr ⟨?_, _, _, rfl, ?_, k'⟩
        · simp only [hn, dst_some, Nat.reduceLT]
        · first | rfl | (simp (disch := decide) only [gx, zV, guardV, Nat.reduceEqDiff, reduceIte]; done)
      | skip
        refine .inl ?_
        simp (disch := first | decide | rfl) only [gx, zE, zG, aStepM, optable, Nat.reduceEqDiff, reduceIte, Nat.reduceLT, implies_true, forall_const, reduceCtorEq, V.ofValue, V.ofScalar, V.un, V.gd, guardV, V.wrap, aExec, aop, contentL, Value.oneCell', List.all_cons, List.all_nil, Bool.and_self, ‹Tys _›.h, ‹Fc _›.h]
        repeat (refine andA ?_)
        exact k') : aAny P L rg K (fuel + 1) listed ⟨env, O, vw, n, m⟩ := aAny_take hK kp i d hi hd hf hr ⟨v, hp, b⟩
theorem zdIndexAddr {P : Program} {L : Lend} {rg : Array Oper} {K : St → Prop} {fuel : Nat} {listed : Array Bool} {env : List (Nat × V)} {O : List Blk} {vw : Bool} {n m : Nat} {oi : Oper} {rest : List Oper} {v : V} (hK : ∀ s t, EqS s t → K s → K t) (kp : Bool) (i d : Nat)
    (b : aAny P L rg K fuel (listed.setIfInBounds i true) ⟨(d, v) :: env, O, vw, n, m⟩) (hi : rg.toList.drop i = oi :: rest := by rfl) (hd : oi.dst = some d := by rfl) (hf : Region.freeG L kp rg listed i = true := by kernel_rfl) (hr : (Region.ready .any rg listed).contains i = true := by kernel_rfl)
    (hp : PureH P L rg kp oi d v ⟨env, O, vw, n, m⟩ := by
      intro t hn gx ho K' k'
      dsimp only at hn
      first | have r0 := row_all (ho rfl) 0 rfl | have r0 := True.intro
      first | have r1 := row_all (ho rfl) 1 rfl | have r1 := True.intro
      first | have r2 := row_all (ho rfl) 2 rfl | have r2 := True.intro
      first | have r3 := row_all (ho rfl) 3 rfl | have r3 := True.intro
      first | have r4 := row_all (ho rfl) 4 rfl | have r4 := True.intro
      first | have r5 := row_all (ho rfl) 5 rfl | have r5 := True.intro
      refine .inl ?_
      simp (disch := first | decide | rfl) only [gx, r0, r1, r2, r3, r4, r5, zE, zL, zN, aStepM, optable, Nat.reduceEqDiff, reduceIte, Nat.reduceLT, implies_true, forall_const, reduceCtorEq, V.ofValue, V.ofScalar, V.un, V.gd, aExec, aop, aIndexAddr, row_mk, Blk.row, Go.Vm.V.cells, List.forall_mem_map, List.length_map, Int.toNat_natCast, Int.reduceToNat, TypeDesc.slice.injEq, Nat.reduceAdd, Nat.reduceLeDiff, Nat.reduceMul, contentL, Value.oneCell', List.all_cons, List.all_nil, Bool.and_self, ‹Tys _›.h, ‹Fc _›.h]
      repeat (refine andA ?_)
      exact k') : aAny P L rg K (fuel + 1) listed ⟨env, O, vw, n, m⟩ := aAny_take hK kp i d hi hd hf hr ⟨v, hp, b⟩
theorem zdgIndexAddr {P : Program} {L : Lend} {rg : Array Oper} {K : St → Prop} {fuel : Nat} {listed : Array Bool} {env : List (Nat × V)} {O : List Blk} {vw : Bool} {n m : Nat} {oi : Oper} {rest : List Oper} {v : V} (hK : ∀ s t, EqS s t → K s → K t) (kp : Bool) (i d : Nat)
    (b : aAny P L rg K fuel (listed.setIfInBounds i true) ⟨(d, v) :: env, O, vw, n, m⟩) (hi : rg.toList.drop i = oi :: rest := by rfl) (hd : oi.dst = some d := by rfl) (hf : Region.freeG L kp rg listed i = true := by kernel_rfl) (hr : (Region.ready .any rg listed).contains i = true := by kernel_rfl)
    (hp : PureH P L rg kp oi d v ⟨env, O, vw, n, m⟩ := by
      intro t hn gx ho K' k'
      dsimp only at hn
      first | have r0 := row_all (ho rfl) 0 rfl | have r0 := True.intro
      first | have r1 := row_all (ho rfl) 1 rfl | have r1 := True.intro
      first | have r2 := row_all (ho rfl) 2 rfl | have r2 := True.intro
      first | have r3 := row_all (ho rfl) 3 rfl | have r3 := True.intro
      first | have r4 := row_all (ho rfl) 4 rfl | have r4 := True.intro
      first | have r5 := row_all (ho rfl) 5 rfl | have r5 := True.intro
      first
      | refine .inr ⟨?_, _, _, rfl, ?_, k'⟩
        · simp only [hn, dst_some, Nat.reduceLT]
        · first | rfl | (simp (disch := decide) only [gx, zV, guardV, Nat.reduceEqDiff, reduceIte]; done)
      | skip
        refine .inl ?_
        simp (disch := first | decide | rfl) only [gx, r0, r1, r2, r3, r4, r5, zE, zL, zN, aStepM, optable, Nat.reduceEqDiff, reduceIte, Nat.reduceLT, implies_true, forall_const, reduceCtorEq, V.ofValue, V.ofScalar, V.un, V.gd, guardV, V.wrap, aExec, aop, aIndexAddr, row_mk, Blk.row, Go.Vm.V.cells, List.forall_mem_map, List.length_map, Int.toNat_natCast, Int.reduceToNat, TypeDesc.slice.injEq, Nat.reduceAdd, Nat.reduceLeDiff, Nat.reduceMul, contentL, Value.oneCell', List.all_cons, List.all_nil, Bool.and_self, ‹Tys _›.h, ‹Fc _›.h]
        repeat (refine andA ?_)
        exact k') : aAny P L rg K (fuel + 1) listed ⟨env, O, vw, n, m⟩ := aAny_take hK kp i d hi hd hf hr ⟨v, hp, b⟩
theorem zdIndex {P : Program} {L : Lend} {rg : Array Oper} {K : St → Prop} {fuel : Nat} {listed : Array Bool} {env : List (Nat × V)} {O : List Blk} {vw : Bool} {n m : Nat} {oi : Oper} {rest : List Oper} {v : V} (hK : ∀ s t, EqS s t → K s → K t) (kp : Bool) (i d : Nat)
    (b : aAny P L rg K fuel (listed.setIfInBounds i true) ⟨(d, v) :: env, O, vw, n, m⟩) (hi : rg.toList.drop i = oi :: rest := by rfl) (hd : oi.dst = some d := by rfl) (hf : Region.freeG L kp rg listed i = true := by kernel_rfl) (hr : (Region.ready .any rg listed).contains i = true := by kernel_rfl)
    (hp : PureH P L rg kp oi d v ⟨env, O, vw, n, m⟩ := by
      intro t hn gx ho K' k'
      dsimp only at hn
      refine .inl ?_
      simp (disch := first | decide | rfl) only [gx, zE, aStepM, optable, Nat.reduceEqDiff, reduceIte, Nat.reduceLT, implies_true, forall_const, reduceCtorEq, V.ofValue, V.ofScalar, V.un, V.gd, aExec, aop, aIndex, Int.toNat_natCast, contentL, Value.oneCell', List.all_cons, List.all_nil, Bool.and_self, ‹Tys _›.h, ‹Fc _›.h]
      repeat (refine andA ?_)
      exact k') : aAny P L rg K (fuel + 1) listed ⟨env, O, vw, n, m⟩ := aAny_take hK kp i d hi hd hf hr ⟨v, hp, b⟩
theorem zdgIndex {P : Program} {L : Lend} {rg : Array Oper} {K : St → Prop} {fuel : Nat} {listed : Array Bool} {env : List (Nat × V)} {O : List Blk} {vw : Bool} {n m : Nat} {oi : Oper} {rest : List Oper} {v : V} (hK : ∀ s t, EqS s t → K s → K t) (kp : Bool) (i d : Nat)
    (b : aAny P L rg K fuel (listed.setIfInBounds i true) ⟨(d, v) :: env, O, vw, n, m⟩) (hi : rg.toList.drop i = oi :: rest := by rfl) (hd : oi.dst = some d := by rfl) (hf : Region.freeG L kp rg listed i = true := by kernel_rfl) (hr : (Region.ready .any rg listed).contains i = true := by kernel_rfl)
    (hp : PureH P L rg kp oi d v ⟨env, O, vw, n, m⟩ := by
      intro t hn gx ho K' k'
      dsimp only at hn
      first
      | refine .inr ⟨?_, _, _, rfl, ?_, k'⟩
        · simp only [hn, dst_some, Nat.reduceLT]
        · first | rfl | (simp (disch := decide) only [gx, zV, guardV, Nat.reduceEqDiff, reduceIte]; done)
      | skip
        refine .inl ?_
        simp (disch := first | decide | rfl) only [gx, zE, zG, aStepM, optable, Nat.reduceEqDiff, reduceIte, Nat.reduceLT, implies_true, forall_const, reduceCtorEq, V.ofValue, V.ofScalar, V.un, V.gd, guardV, V.wrap, aExec, aop, aIndex, Int.toNat_natCast, contentL, Value.oneCell', List.all_cons, List.all_nil, Bool.and_self, ‹Tys _›.h, ‹Fc _›.h]
        repeat (refine andA ?_)
        exact k') : aAny P L rg K (fuel + 1) listed ⟨env, O, vw, n, m⟩ := aAny_take hK kp i d hi hd hf hr ⟨v, hp, b⟩
theorem zdExtract {P : Program} {L : Lend} {rg : Array Oper} {K : St → Prop} {fuel : Nat} {listed : Array Bool} {env : List (Nat × V)} {O : List Blk} {vw : Bool} {n m : Nat} {oi : Oper} {rest : List Oper} {v : V} (hK : ∀ s t, EqS s t → K s → K t) (kp : Bool) (i d : Nat)
    (b : aAny P L rg K fuel (listed.setIfInBounds i true) ⟨(d, v) :: env, O, vw, n, m⟩) (hi : rg.toList.drop i = oi :: rest := by rfl) (hd : oi.dst = some d := by rfl) (hf : Region.freeG L kp rg listed i = true := by kernel_rfl) (hr : (Region.ready .any rg listed).contains i = true := by kernel_rfl)
    (hp : PureH P L rg kp oi d v ⟨env, O, vw, n, m⟩ := by
      intro t hn gx ho K' k'
      dsimp only at hn
      refine .inl ?_
      simp (disch := first | decide | rfl) only [gx, zE, zL, zN, aStepM, optable, Nat.reduceEqDiff, reduceIte, Nat.reduceLT, implies_true, forall_const, reduceCtorEq, V.ofValue, V.ofScalar, V.un, V.gd, aExec, aop, aExtract, Nat.reduceAdd, Nat.reduceLeDiff, Nat.reduceMul, contentL, Value.oneCell', List.all_cons, List.all_nil, Bool.and_self, ‹Tys _›.h, ‹Fc _›.h]
      repeat (refine andA ?_)
      exact k') : aAny P L rg K (fuel + 1) listed ⟨env, O, vw, n, m⟩ := aAny_take hK kp i d hi hd hf hr ⟨v, hp, b⟩
theorem zdgExtract {P : Program} {L : Lend} {rg : Array Oper} {K : St → Prop} {fuel : Nat} {listed : Array Bool} {env : List (Nat × V)} {O : List Blk} {vw : Bool} {n m : Nat} {oi : Oper} {rest : List Oper} {v : V} (hK : ∀ s t, EqS s t → K s → K t) (kp : Bool) (i d : Nat)
    (b : aAny P L rg K fuel (listed.setIfInBounds i true) ⟨(d, v) :: env, O, vw, n, m⟩) (hi : rg.toList.drop i = oi :: rest := by rfl) (hd : oi.dst = some d := by rfl) (hf : Region.freeG L kp rg listed i = true := by kernel_rfl) (hr : (Region.ready .any rg listed).contains i = true := by kernel_rfl)
    (hp : PureH P L rg kp oi d v ⟨env, O, vw, n, m⟩ := by
      intro t hn gx ho K' k'
      dsimp only at hn
      first
      | refine .inr ⟨?_, _, _, rfl, ?_, k'⟩
        · simp only [hn, dst_some, Nat.reduceLT]
        · first | rfl | (simp (disch := decide) only [gx, zV, guardV, Nat.reduceEqDiff, reduceIte]; done)
      | skip
        refine .inl ?_
        simp (disch := first | decide | rfl) only [gx, zE, zL, zN, aStepM, optable, Nat.reduceEqDiff, reduceIte, Nat.reduceLT, implies_true, forall_const, reduceCtorEq, V.ofValue, V.ofScalar, V.un, V.gd, guardV, V.wrap, aExec, aop, aExtract, Nat.reduceAdd, Nat.reduceLeDiff, Nat.reduceMul, contentL, Value.oneCell', List.all_cons, List.all_nil, Bool.and_self, ‹Tys _›.h, ‹Fc _›.h]
        repeat (refine andA ?_)
        exact k') : aAny P L rg K (fuel + 1) listed ⟨env, O, vw, n, m⟩ := aAny_take hK kp i d hi hd hf hr ⟨v, hp, b⟩
theorem zdSlice {P : Program} {L : Lend} {rg : Array Oper} {K : St → Prop} {fuel : Nat} {listed : Array Bool} {env : List (Nat × V)} {O : List Blk} {vw : Bool} {n m : Nat} {oi : Oper} {rest : List Oper} {v : V} (hK : ∀ s t, EqS s t → K s → K t) (kp : Bool) (i d : Nat)
    (b : aAny P L rg K fuel (listed.setIfInBounds i true) ⟨(d, v) :: env, O, vw, n, m⟩) (hi : rg.toList.drop i = oi :: rest := by rfl) (hd : oi.dst = some d := by rfl) (hf : Region.freeG L kp rg listed i = true := by kernel_rfl) (hr : (Region.ready .any rg listed).contains i = true := by kernel_rfl)
    (hp : PureH P L rg kp oi d v ⟨env, O, vw, n, m⟩ := by
      intro t hn gx ho K' k'
      dsimp only at hn
      first | have r0 := row_all (ho rfl) 0 rfl | have r0 := True.intro
      first | have r1 := row_all (ho rfl) 1 rfl | have r1 := True.intro
      first | have r2 := row_all (ho rfl) 2 rfl | have r2 := True.intro
      first | have r3 := row_all (ho rfl) 3 rfl | have r3 := True.intro
      first | have r4 := row_all (ho rfl) 4 rfl | have r4 := True.intro
      first | have r5 := row_all (ho rfl) 5 rfl | have r5 := True.intro
      refine .inl ?_
      simp (disch := first | decide | rfl) only [gx, r0, r1, r2, r3, r4, r5, zE, zL, zN, aStepM, optable, Nat.reduceEqDiff, reduceIte, Nat.reduceLT, implies_true, forall_const, reduceCtorEq, V.ofValue, V.ofScalar, V.un, V.gd, aExec, aop, List.set_cons_zero, List.set_cons_succ, aSlice, forall_eq', bound, ElemsOK, Option.map_none, Option.isNone_none, row_mk, Blk.row, TypeDesc.slice.injEq, List.forall_mem_map, List.length_map, Go.Vm.V.cells, Int.toNat_natCast, Int.reduceToNat, ← List.map_take, ← List.map_drop, List.take_length, Nat.reduceAdd, Nat.reduceLeDiff, Nat.reduceMul, contentL, Value.oneCell', List.all_cons, List.all_nil, Bool.and_self, ‹Tys _›.h, ‹Fc _›.h]
      repeat (refine andA ?_)
      exact k') : aAny P L rg K (fuel + 1) listed ⟨env, O, vw, n, m⟩ := aAny_take hK kp i d hi hd hf hr ⟨v, hp, b⟩
theorem zdgSlice {P : Program} {L : Lend} {rg : Array Oper} {K : St → Prop} {fuel : Nat} {listed : Array Bool} {env : List (Nat × V)} {O : List Blk} {vw : Bool} {n m : Nat} {oi : Oper} {rest : List Oper} {v : V} (hK : ∀ s t, EqS s t → K s → K t) (kp : Bool) (i d : Nat)
    (b : aAny P L rg K fuel (listed.setIfInBounds i true) ⟨(d, v) :: env, O, vw, n, m⟩) (hi : rg.toList.drop i = oi :: rest := by rfl) (hd : oi.dst = some d := by rfl) (hf : Region.freeG L kp rg listed i = true := by kernel_rfl) (hr : (Region.ready .any rg listed).contains i = true := by kernel_rfl)
    (hp : PureH P L rg kp oi d v ⟨env, O, vw, n, m⟩ := by
      intro t hn gx ho K' k'
      dsimp only at hn
      first | have r0 := row_all (ho rfl) 0 rfl | have r0 := True.intro
      first | have r1 := row_all (ho rfl) 1 rfl | have r1 := True.intro
      first | have r2 := row_all (ho rfl) 2 rfl | have r2 := True.intro
      first | have r3 := row_all (ho rfl) 3 rfl | have r3 := True.intro
      first | have r4 := row_all (ho rfl) 4 rfl | have r4 := True.intro
      first | have r5 := row_all (ho rfl) 5 rfl | have r5 := True.intro
      first
      | refine .inr ⟨?_, _, _, rfl, ?_, k'⟩
        · simp only [hn, dst_some, Nat.reduceLT]
        · first | rfl | (simp (disch := decide) only [gx, zV, guardV, Nat.reduceEqDiff, reduceIte]; done)
      | skip
        refine .inl ?_
        simp (disch := first | decide | rfl) only [gx, r0, r1, r2, r3, r4, r5, zE, zL, zN, aStepM, optable, Nat.reduceEqDiff, reduceIte, Nat.reduceLT, implies_true, forall_const, reduceCtorEq, V.ofValue, V.ofScalar, V.un, V.gd, guardV, V.wrap, aExec, aop, List.set_cons_zero, List.set_cons_succ, aSlice, forall_eq', bound, ElemsOK, Option.map_none, Option.isNone_none, row_mk, Blk.row, TypeDesc.slice.injEq, List.forall_mem_map, List.length_map, Go.Vm.V.cells, Int.toNat_natCast, Int.reduceToNat, ← List.map_take, ← List.map_drop, List.take_length, Nat.reduceAdd, Nat.reduceLeDiff, Nat.reduceMul, contentL, Value.oneCell', List.all_cons, List.all_nil, Bool.and_self, ‹Tys _›.h, ‹Fc _›.h]
        repeat (refine andA ?_)
        exact k') : aAny P L rg K (fuel + 1) listed ⟨env, O, vw, n, m⟩ := aAny_take hK kp i d hi hd hf hr ⟨v, hp, b⟩
theorem zdLen {P : Program} {L : Lend} {rg : Array Oper} {K : St → Prop} {fuel : Nat} {listed : Array Bool} {env : List (Nat × V)} {O : List Blk} {vw : Bool} {n m : Nat} {oi : Oper} {rest : List Oper} {v : V} (hK : ∀ s t, EqS s t → K s → K t) (kp : Bool) (i d : Nat)
    (b : aAny P L rg K fuel (listed.setIfInBounds i true) ⟨(d, v) :: env, O, vw, n, m⟩) (hi : rg.toList.drop i = oi :: rest := by rfl) (hd : oi.dst = some d := by rfl) (hf : Region.freeG L kp rg listed i = true := by kernel_rfl) (hr : (Region.ready .any rg listed).contains i = true := by kernel_rfl)
    (hp : PureH P L rg kp oi d v ⟨env, O, vw, n, m⟩ := by
      intro t hn gx ho K' k'
      dsimp only at hn
      first | have r0 := row_all (ho rfl) 0 rfl | have r0 := True.intro
      first | have r1 := row_all (ho rfl) 1 rfl | have r1 := True.intro
      first | have r2 := row_all (ho rfl) 2 rfl | have r2 := True.intro
      first | have r3 := row_all (ho rfl) 3 rfl | have r3 := True.intro
      first | have r4 := row_all (ho rfl) 4 rfl | have r4 := True.intro
      first | have r5 := row_all (ho rfl) 5 rfl | have r5 := True.intro
      refine .inl ?_
      simp (disch := first | decide | rfl) only [gx, r0, r1, r2, r3, r4, r5, zE, zL, zN, aStepM, optable, Nat.reduceEqDiff, reduceIte, Nat.reduceLT, implies_true, forall_const, reduceCtorEq, V.ofValue, V.ofScalar, V.un, V.gd, aExec, aop, List.length_map, aLen, lenOK, row_mk, Blk.row, List.size_toArray, List.getD_eq_getElem?_getD, Array.getD_eq_getD_getElem?, Option.getD_some, Nat.reduceAdd, Nat.reduceLeDiff, Nat.reduceMul, contentL, Value.oneCell', List.all_cons, List.all_nil, Bool.and_self, ‹Tys _›.h, ‹Fc _›.h]
      repeat (refine andA ?_)
      exact k') : aAny P L rg K (fuel + 1) listed ⟨env, O, vw, n, m⟩ := aAny_take hK kp i d hi hd hf hr ⟨v, hp, b⟩
theorem zdgLen {P : Program} {L : Lend} {rg : Array Oper} {K : St → Prop} {fuel : Nat} {listed : Array Bool} {env : List (Nat × V)} {O : List Blk} {vw : Bool} {n m : Nat} {oi : Oper} {rest : List Oper} {v : V} (hK : ∀ s t, EqS s t → K s → K t) (kp : Bool) (i d : Nat)
    (b : aAny P L rg K fuel (listed.setIfInBounds i true) ⟨(d, v) :: env, O, vw, n, m⟩) (hi : rg.toList.drop i = oi :: rest := by rfl) (hd : oi.dst = some d := by rfl) (hf : Region.freeG L kp rg listed i = true := by kernel_rfl) (hr : (Region.ready .any rg listed).contains i = true := by kernel_rfl)
    (hp : PureH P L rg kp oi d v ⟨env, O, vw, n, m⟩ := by
      intro t hn gx ho K' k'
      dsimp only at hn
      first | have r0 := row_all (ho rfl) 0 rfl | have r0 := True.intro
      first | have r1 := row_all (ho rfl) 1 rfl | have r1 := True.intro
      first | have r2 := row_all (ho rfl) 2 rfl | have r2 := True.intro
      first | have r3 := row_all (ho rfl) 3 rfl | have r3 := True.intro
      first | have r4 := row_all (ho rfl) 4 rfl | have r4 := True.intro
      first | have r5 := row_all (ho rfl) 5 rfl | have r5 := True.intro
      first
      | refine .inr ⟨?_, _, _, rfl, ?_, k'⟩
        · simp only [hn, dst_some, Nat.reduceLT]
        · first | rfl | (simp (disch := decide) only [gx, zV, guardV, Nat.reduceEqDiff, reduceIte]; done)
      | skip
        refine .inl ?_
        simp (disch := first | decide | rfl) only [gx, r0, r1, r2, r3, r4, r5, zE, zL, zN, aStepM, optable, Nat.reduceEqDiff, reduceIte, Nat.reduceLT, implies_true, forall_const, reduceCtorEq, V.ofValue, V.ofScalar, V.un, V.gd, guardV, V.wrap, aExec, aop, List.length_map, aLen, lenOK, row_mk, Blk.row, List.size_toArray, List.getD_eq_getElem?_getD, Array.getD_eq_getD_getElem?, Option.getD_some, Nat.reduceAdd, Nat.reduceLeDiff, Nat.reduceMul, contentL, Value.oneCell', List.all_cons, List.all_nil, Bool.and_self, ‹Tys _›.h, ‹Fc _›.h]
        repeat (refine andA ?_)
        exact k') : aAny P L rg K (fuel + 1) listed ⟨env, O, vw, n, m⟩ := aAny_take hK kp i d hi hd hf hr ⟨v, hp, b⟩
theorem zdMax {P : Program} {L : Lend} {rg : Array Oper} {K : St → Prop} {fuel : Nat} {listed : Array Bool} {env : List (Nat × V)} {O : List Blk} {vw : Bool} {n m : Nat} {oi : Oper} {rest : List Oper} {v : V} (hK : ∀ s t, EqS s t → K s → K t) (kp : Bool) (i d : Nat)
    (b : aAny P L rg K fuel (listed.setIfInBounds i true) ⟨(d, v) :: env, O, vw, n, m⟩) (hi : rg.toList.drop i = oi :: rest := by rfl) (hd : oi.dst = some d := by rfl) (hf : Region.freeG L kp rg listed i = true := by kernel_rfl) (hr : (Region.ready .any rg listed).contains i = true := by kernel_rfl)
    (hp : PureH P L rg kp oi d v ⟨env, O, vw, n, m⟩ := by
      intro t hn gx ho K' k'
      dsimp only at hn
      refine .inl ?_
      simp (disch := first | decide | rfl) only [gx, zE, aStepM, optable, Nat.reduceEqDiff, reduceIte, Nat.reduceLT, implies_true, forall_const, reduceCtorEq, V.ofValue, V.ofScalar, V.un, V.gd, aExec, aop, aMinMax, List.mem_cons, List.not_mem_nil, or_false, forall_eq_or_imp, forall_eq, List.map_cons, List.map_nil, if_true, if_false, contentL, Value.oneCell', List.all_cons, List.all_nil, Bool.and_self, ‹Tys _›.h, ‹Fc _›.h]
      repeat (refine andA ?_)
      exact k') : aAny P L rg K (fuel + 1) listed ⟨env, O, vw, n, m⟩ := aAny_take hK kp i d hi hd hf hr ⟨v, hp, b⟩
theorem zdgMax {P : Program} {L : Lend} {rg : Array Oper} {K : St → Prop} {fuel : Nat} {listed : Array Bool} {env : List (Nat × V)} {O : List Blk} {vw : Bool} {n m : Nat} {oi : Oper} {rest : List Oper} {v : V} (hK : ∀ s t, EqS s t → K s → K t) (kp : Bool) (i d : Nat)
    (b : aAny P L rg K fuel (listed.setIfInBounds i true) ⟨(d, v) :: env, O, vw, n, m⟩) (hi : rg.toList.drop i = oi :: rest := by rfl) (hd : oi.dst = some d := by rfl) (hf : Region.freeG L kp rg listed i = true := by kernel_rfl) (hr : (Region.ready .any rg listed).contains i = true := by kernel_rfl)
    (hp : PureH P L rg kp oi d v ⟨env, O, vw, n, m⟩ := by
      intro t hn gx ho K' k'
      dsimp only at hn
      first
      | refine .inr ⟨?_, _, _, rfl, ?_, k'⟩
        · simp only [hn, dst_some, Nat.reduceLT]
        · first | rfl | (simp (disch := decide) only [gx, zV, guardV, Nat.reduceEqDiff, reduceIte]; done)
      | skip
        refine .inl ?_
        simp (disch := first | decide | rfl) only [gx, zE, zG, aStepM, optable, Nat.reduceEqDiff, reduceIte, Nat.reduceLT, implies_true, forall_const, reduceCtorEq, V.ofValue, V.ofScalar, V.un, V.gd, guardV, V.wrap, aExec, aop, aMinMax, List.mem_cons, List.not_mem_nil, or_false, forall_eq_or_imp, forall_eq, List.map_cons, List.map_nil, if_true, if_false, contentL, Value.oneCell', List.all_cons, List.all_nil, Bool.and_self, ‹Tys _›.h, ‹Fc _›.h]
        repeat (refine andA ?_)
        exact k') : aAny P L rg K (fuel + 1) listed ⟨env, O, vw, n, m⟩ := aAny_take hK kp i d hi hd hf hr ⟨v, hp, b⟩
theorem zdMin {P : Program} {L : Lend} {rg : Array Oper} {K : St → Prop} {fuel : Nat} {listed : Array Bool} {env : List (Nat × V)} {O : List Blk} {vw : Bool} {n m : Nat} {oi : Oper} {rest : List Oper} {v : V} (hK : ∀ s t, EqS s t → K s → K t) (kp : Bool) (i d : Nat)
    (b : aAny P L rg K fuel (listed.setIfInBounds i true) ⟨(d, v) :: env, O, vw, n, m⟩) (hi : rg.toList.drop i = oi :: rest := by rfl) (hd : oi.dst = some d := by rfl) (hf : Region.freeG L kp rg listed i = true := by kernel_rfl) (hr : (Region.ready .any rg listed).contains i = true := by kernel_rfl)
    (hp : PureH P L rg kp oi d v ⟨env, O, vw, n, m⟩ := by
      intro t hn gx ho K' k'
      dsimp only at hn
      refine .inl ?_
      simp (disch := first | decide | rfl) only [gx, zE, aStepM, optable, Nat.reduceEqDiff, reduceIte, Nat.reduceLT, implies_true, forall_const, reduceCtorEq, V.ofValue, V.ofScalar, V.un, V.gd, aExec, aop, aMinMax, List.mem_cons, List.not_mem_nil, or_false, forall_eq_or_imp, forall_eq, List.map_cons, List.map_nil, if_true, if_false, contentL, Value.oneCell', List.all_cons, List.all_nil, Bool.and_self, ‹Tys _›.h, ‹Fc _›.h]
      repeat (refine andA ?_)
      exact k') : aAny P L rg K (fuel + 1) listed ⟨env, O, vw, n, m⟩ := aAny_take hK kp i d hi hd hf hr ⟨v, hp, b⟩
theorem zdgMin {P : Program} {L : Lend} {rg : Array Oper} {K : St → Prop} {fuel : Nat} {listed : Array Bool} {env : List (Nat × V)} {O : List Blk} {vw : Bool} {n m : Nat} {oi : Oper} {rest : List Oper} {v : V} (hK : ∀ s t, EqS s t → K s → K t) (kp : Bool) (i d : Nat)
    (b : aAny P L rg K fuel (listed.setIfInBounds i true) ⟨(d, v) :: env, O, vw, n, m⟩) (hi : rg.toList.drop i = oi :: rest := by rfl) (hd : oi.dst = some d := by rfl) (hf : Region.freeG L kp rg listed i = true := by kernel_rfl) (hr : (Region.ready .any rg listed).contains i = true := by kernel_rfl)
    (hp : PureH P L rg kp oi d v ⟨env, O, vw, n, m⟩ := by
      intro t hn gx ho K' k'
      dsimp only at hn
      first
      | refine .inr ⟨?_, _, _, rfl, ?_, k'⟩
        · simp only [hn, dst_some, Nat.reduceLT]
        · first | rfl | (simp (disch := decide) only [gx, zV, guardV, Nat.reduceEqDiff, reduceIte]; done)
      | skip
        refine .inl ?_
        simp (disch := first | decide | rfl) only [gx, zE, zG, aStepM, optable, Nat.reduceEqDiff, reduceIte, Nat.reduceLT, implies_true, forall_const, reduceCtorEq, V.ofValue, V.ofScalar, V.un, V.gd, guardV, V.wrap, aExec, aop, aMinMax, List.mem_cons, List.not_mem_nil, or_false, forall_eq_or_imp, forall_eq, List.map_cons, List.map_nil, if_true, if_false, contentL, Value.oneCell', List.all_cons, List.all_nil, Bool.and_self, ‹Tys _›.h, ‹Fc _›.h]
        repeat (refine andA ?_)
        exact k') : aAny P L rg K (fuel + 1) listed ⟨env, O, vw, n, m⟩ := aAny_take hK kp i d hi hd hf hr ⟨v, hp, b⟩
theorem zdConvert {P : Program} {L : Lend} {rg : Array Oper} {K : St → Prop} {fuel : Nat} {listed : Array Bool} {env : List (Nat × V)} {O : List Blk} {vw : Bool} {n m : Nat} {oi : Oper} {rest : List Oper} {v : V} (hK : ∀ s t, EqS s t → K s → K t) (kp : Bool) (i d : Nat)
    (b : aAny P L rg K fuel (listed.setIfInBounds i true) ⟨(d, v) :: env, O, vw, n, m⟩) (hi : rg.toList.drop i = oi :: rest := by rfl) (hd : oi.dst = some d := by rfl) (hf : Region.freeG L kp rg listed i = true := by kernel_rfl) (hr : (Region.ready .any rg listed).contains i = true := by kernel_rfl)
    (hp : PureH P L rg kp oi d v ⟨env, O, vw, n, m⟩ := by
      intro t hn gx ho K' k'
      dsimp only at hn
      refine .inl ?_
      simp (disch := first | decide | rfl) only [gx, zE, zL, zN, aStepM, optable, Nat.reduceEqDiff, reduceIte, Nat.reduceLT, implies_true, forall_const, reduceCtorEq, V.ofValue, V.ofScalar, V.un, V.gd, aExec, aop, unByte, row_mk, Blk.row, TypeDesc.slice.injEq, Nat.reduceAdd, Nat.reduceLeDiff, Nat.reduceMul, contentL, Value.oneCell', List.all_cons, List.all_nil, Bool.and_self, ‹Tys _›.h, ‹Fc _›.h]
      repeat (refine andA ?_)
      exact k') : aAny P L rg K (fuel + 1) listed ⟨env, O, vw, n, m⟩ := aAny_take hK kp i d hi hd hf hr ⟨v, hp, b⟩
theorem zdgConvert {P : Program} {L : Lend} {rg : Array Oper} {K : St → Prop} {fuel : Nat} {listed : Array Bool} {env : List (Nat × V)} {O : List Blk} {vw : Bool} {n m : Nat} {oi : Oper} {rest : List Oper} {v : V} (hK : ∀ s t, EqS s t → K s → K t) (kp : Bool) (i d : Nat)
    (b : aAny P L rg K fuel (listed.setIfInBounds i true) ⟨(d, v) :: env, O, vw, n, m⟩) (hi : rg.toList.drop i = oi :: rest := by rfl) (hd : oi.dst = some d := by rfl) (hf : Region.freeG L kp rg listed i = true := by kernel_rfl) (hr : (Region.ready .any rg listed).contains i = true := by kernel_rfl)
    (hp : PureH P L rg kp oi d v ⟨env, O, vw, n, m⟩ := by
      intro t hn gx ho K' k'
      dsimp only at hn
      first
      | refine .inr ⟨?_, _, _, rfl, ?_, k'⟩
        · simp only [hn, dst_some, Nat.reduceLT]
        · first | rfl | (simp (disch := decide) only [gx, zV, guardV, Nat.reduceEqDiff, reduceIte]; done)
      | skip
        refine .inl ?_
        simp (disch := first | decide | rfl) only [gx, zE, zL, zN, aStepM, optable, Nat.reduceEqDiff, reduceIte, Nat.reduceLT, implies_true, forall_const, reduceCtorEq, V.ofValue, V.ofScalar, V.un, V.gd, guardV, V.wrap, aExec, aop, unByte, row_mk, Blk.row, TypeDesc.slice.injEq, Nat.reduceAdd, Nat.reduceLeDiff, Nat.reduceMul, contentL, Value.oneCell', List.all_cons, List.all_nil, Bool.and_self, ‹Tys _›.h, ‹Fc _›.h]
        repeat (refine andA ?_)
        exact k') : aAny P L rg K (fuel + 1) listed ⟨env, O, vw, n, m⟩ := aAny_take hK kp i d hi hd hf hr ⟨v, hp, b⟩
theorem zoAssign {P : Program} {L : Lend} {rg : Array Oper} {K : St → Prop} {fuel : Nat} {listed : Array Bool} {s : St} {oi : Oper} {rest : List Oper} {B : Prop} (i : Nat) (b : Ho B) (hi : rg.toList.drop i = oi :: rest := by rfl) (hr : Region.ready .any rg listed = [i] := by kernel_rfl)
    (e : Ho B → (∀ K' : St → Prop, (∀ s, aAny P L rg K fuel (listed.setIfInBounds i true) s → K' s) → aStepM P L rg oi s K') := by
      intro b K k
      simp only [zE, zS, aStepM, optable, set_some, Nat.reduceEqDiff, reduceIte, Nat.reduceLT, implies_true, forall_const, reduceCtorEq, V.ofValue, V.ofScalar, V.un, V.gd, aExec, aop, Nat.reduceAdd, contentL, Value.oneCell', List.all_cons, List.all_nil, Bool.and_self, ‹Tys _›.h, ‹Fc _›.h]
      repeat (refine andA ?_)
      refine k _ ?_
      clear k K
      exact b.h) : aAny P L rg K (fuel + 1) listed s := aAny_only i hi hr (e b)
theorem zoStore {P : Program} {L : Lend} {rg : Array Oper} {K : St → Prop} {fuel : Nat} {listed : Array Bool} {s : St} {oi : Oper} {rest : List Oper} {B : Prop} (i : Nat) (b : Ho B) (hi : rg.toList.drop i = oi :: rest := by rfl) (hr : Region.ready .any rg listed = [i] := by kernel_rfl)
    (e : Ho B → (∀ K' : St → Prop, (∀ s, aAny P L rg K fuel (listed.setIfInBounds i true) s → K' s) → aStepM P L rg oi s K') := by
      intro b K k
      simp only [zE, zS, zJ, zL, zO, zN, aStepM, optable, set_some, Nat.reduceEqDiff, reduceIte, Nat.reduceLT, implies_true, forall_const, reduceCtorEq, V.ofValue, V.ofScalar, V.un, V.gd, aExec, aop, aStore, setCells, V.isVal, V.cells, kindOf, kindAll, V.noSl, V.noRef, gt_iff_lt, Nat.reduceAdd, Nat.reduceLeDiff, Nat.reduceMul, takeV, takeCell, takeCells, row_mk, Blk.row, killAll, Nat.reduceBEq, join_t, contentL, Value.oneCell', ‹Tys _›.h, ‹Fc _›.h]
      repeat (refine andA ?_)
      refine k _ ?_
      clear k K
      exact b.h) : aAny P L rg K (fuel + 1) listed s := aAny_only i hi hr (e b)
theorem zoAlloc {P : Program} {L : Lend} {rg : Array Oper} {K : St → Prop} {fuel : Nat} {listed : Array Bool} {s : St} {oi : Oper} {rest : List Oper} {B : Prop} (i : Nat) (b : Ho B) (hi : rg.toList.drop i = oi :: rest := by rfl) (hr : Region.ready .any rg listed = [i] := by kernel_rfl)
    (e : Ho B → (∀ K' : St → Prop, (∀ s, aAny P L rg K fuel (listed.setIfInBounds i true) s → K' s) → aStepM P L rg oi s K') := by
      intro b K k
      simp only [zE, zS, zO, zN, aStepM, optable, set_some, Nat.reduceEqDiff, reduceIte, Nat.reduceLT, implies_true, forall_const, reduceCtorEq, V.ofValue, V.ofScalar, V.un, V.gd, aExec, aop, Nat.reduceAdd, Value.oneCell', V.isVal, V.cells, kindOf, kindAll, V.noSl, V.noRef, List.all_cons, List.all_nil, List.map_cons, List.map_nil, gt_iff_lt, Nat.reduceLeDiff, Nat.reduceMul, contentL, ‹Tys _›.h, ‹Fc _›.h]
      repeat (refine andA ?_)
      refine k _ ?_
      clear k K
      exact b.h) : aAny P L rg K (fuel + 1) listed s := aAny_only i hi hr (e b)
theorem zoBox {P : Program} {L : Lend} {rg : Array Oper} {K : St → Prop} {fuel : Nat} {listed : Array Bool} {s : St} {oi : Oper} {rest : List Oper} {B : Prop} (i : Nat) (b : Ho B) (hi : rg.toList.drop i = oi :: rest := by rfl) (hr : Region.ready .any rg listed = [i] := by kernel_rfl)
    (e : Ho B → (∀ K' : St → Prop, (∀ s, aAny P L rg K fuel (listed.setIfInBounds i true) s → K' s) → aStepM P L rg oi s K') := by
      intro b K k
      simp only [zE, zS, zO, zN, aStepM, optable, set_some, Nat.reduceEqDiff, reduceIte, Nat.reduceLT, implies_true, forall_const, reduceCtorEq, V.ofValue, V.ofScalar, V.un, V.gd, aExec, aop, Nat.reduceAdd, V.isVal, V.cells, kindOf, kindAll, V.noSl, V.noRef, List.all_cons, List.all_nil, List.length_map, gt_iff_lt, Nat.reduceLeDiff, Nat.reduceMul, contentL, Value.oneCell', ‹Tys _›.h, ‹Fc _›.h]
      repeat (refine andA ?_)
      refine k _ ?_
      clear k K
      exact b.h) : aAny P L rg K (fuel + 1) listed s := aAny_only i hi hr (e b)
theorem zoBuildSlice {P : Program} {L : Lend} {rg : Array Oper} {K : St → Prop} {fuel : Nat} {listed : Array Bool} {s : St} {oi : Oper} {rest : List Oper} {B : Prop} (i : Nat) (b : Ho B) (hi : rg.toList.drop i = oi :: rest := by rfl) (hr : Region.ready .any rg listed = [i] := by kernel_rfl)
    (e : Ho B → (∀ K' : St → Prop, (∀ s, aAny P L rg K fuel (listed.setIfInBounds i true) s → K' s) → aStepM P L rg oi s K') := by
      intro b K k
      simp only [zE, zO, zN, aStepM, optable, set_some, Nat.reduceEqDiff, reduceIte, Nat.reduceLT, implies_true, forall_const, reduceCtorEq, V.ofValue, V.ofScalar, V.un, V.gd, aExec, aop, litElems, rng0, rng1, rng2, rng3, rng4, List.map_cons, List.map_nil, List.all_cons, List.all_nil, V.isVal, V.cells, content, kindAll, V.noRef, V.noSl, List.mem_cons, List.not_mem_nil, or_false, forall_eq_or_imp, forall_eq, if_true, Option.isSome_some, List.length_cons, List.length_nil, Nat.reduceAdd, Nat.reduceLeDiff, Nat.reduceMul, contentL, Value.oneCell', ‹Tys _›.h, ‹Fc _›.h]
      repeat (refine andA ?_)
      refine k _ ?_
      clear k K
      exact b.h) : aAny P L rg K (fuel + 1) listed s := aAny_only i hi hr (e b)
theorem zoAppend {P : Program} {L : Lend} {rg : Array Oper} {K : St → Prop} {fuel : Nat} {listed : Array Bool} {s : St} {oi : Oper} {rest : List Oper} {B : Prop} (i : Nat) (b : Ho B) (hi : rg.toList.drop i = oi :: rest := by rfl) (hr : Region.ready .any rg listed = [i] := by kernel_rfl)
    (e : Ho B → (∀ K' : St → Prop, (∀ s, aAny P L rg K fuel (listed.setIfInBounds i true) s → K' s) → aStepM P L rg oi s K') := by
      intro b K k
      simp only [zE, zL, zO, zN, aStepM, optable, set_some, Nat.reduceEqDiff, reduceIte, Nat.reduceLT, implies_true, forall_const, reduceCtorEq, V.ofValue, V.ofScalar, V.un, V.gd, aExec, aop, fillK_thin, beq_self_eq_true, List.nodup_cons, List.mem_singleton, forall_eq', List.size_toArray, List.getD_eq_getElem?_getD, Array.getD_eq_getD_getElem?, Option.getD_some, aAppend, destOf, srcOf, takeElems, takeV, takeCell, takeCells, row_mk, Blk.row, killAll, V.isSub, V.noSl, Value.cells, Option.toList, List.forall_mem_map, List.length_map, List.all_cons, List.all_nil, List.isEmpty_nil, List.isEmpty_cons, List.not_mem_nil, List.nodup_nil, join_ff, join_ft, join_fv, join_d, join_s, fillK_join0, fillK_join, List.mem_cons, or_false, forall_eq_or_imp, forall_eq, List.set_cons_zero, List.set_cons_succ, List.length_append, Go.Vm.V.cells, Nat.reduceAdd, Nat.reduceLeDiff, Nat.reduceMul, contentL, Value.oneCell', ‹Tys _›.h, ‹Fc _›.h]
      repeat (refine andA ?_)
      refine k _ ?_
      clear k K
      exact b.h) : aAny P L rg K (fuel + 1) listed s := aAny_only i hi hr (e b)
theorem zoMakeSlice {P : Program} {L : Lend} {rg : Array Oper} {K : St → Prop} {fuel : Nat} {listed : Array Bool} {s : St} {oi : Oper} {rest : List Oper} {B : Prop} (i : Nat) (b : Ho B) (hi : rg.toList.drop i = oi :: rest := by rfl) (hr : Region.ready .any rg listed = [i] := by kernel_rfl)
    (e : Ho B → (∀ K' : St → Prop, (∀ s, aAny P L rg K fuel (listed.setIfInBounds i true) s → K' s) → aStepM P L rg oi s K') := by
      intro b K k
      simp only [zE, zL, zO, zN, aStepM, optable, set_some, Nat.reduceEqDiff, reduceIte, Nat.reduceLT, implies_true, forall_const, reduceCtorEq, V.ofValue, V.ofScalar, V.un, V.gd, aExec, aop, content, V.isVal, V.cells, V.noRef, V.noSl, Int.toNat_natCast, Nat.reduceAdd, Nat.reduceLeDiff, Nat.reduceMul, contentL, Value.oneCell', List.all_cons, List.all_nil, ‹Tys _›.h, ‹Fc _›.h]
      repeat (refine andA ?_)
      refine k _ ?_
      clear k K
      exact b.h) : aAny P L rg K (fuel + 1) listed s := aAny_only i hi hr (e b)
theorem zoMakeFunc {P : Program} {L : Lend} {rg : Array Oper} {K : St → Prop} {fuel : Nat} {listed : Array Bool} {s : St} {oi : Oper} {rest : List Oper} {B : Prop} (i : Nat) (b : Ho B) (hi : rg.toList.drop i = oi :: rest := by rfl) (hr : Region.ready .any rg listed = [i] := by kernel_rfl)
    (e : Ho B → (∀ K' : St → Prop, (∀ s, aAny P L rg K fuel (listed.setIfInBounds i true) s → K' s) → aStepM P L rg oi s K') := by
      intro b K k
      simp only [zE, zL, aStepM, optable, set_some, Nat.reduceEqDiff, reduceIte, Nat.reduceLT, implies_true, forall_const, reduceCtorEq, V.ofValue, V.ofScalar, V.un, V.gd, aExec, aop, contentL, Value.oneCell', List.all_cons, List.all_nil, Bool.and_self, ‹Tys _›.h, ‹Fc _›.h]
      repeat (refine andA ?_)
      refine k _ ?_
      clear k K
      exact b.h) : aAny P L rg K (fuel + 1) listed s := aAny_only i hi hr (e b)
theorem zoClear {P : Program} {L : Lend} {rg : Array Oper} {K : St → Prop} {fuel : Nat} {listed : Array Bool} {s : St} {oi : Oper} {rest : List Oper} {B : Prop} (i : Nat) (b : Ho B) (hi : rg.toList.drop i = oi :: rest := by rfl) (hr : Region.ready .any rg listed = [i] := by kernel_rfl)
    (e : Ho B → (∀ K' : St → Prop, (∀ s, aAny P L rg K fuel (listed.setIfInBounds i true) s → K' s) → aStepM P L rg oi s K') := by
      intro b K k
      simp only [zE, zL, zO, zN, aStepM, optable, set_some, Nat.reduceEqDiff, reduceIte, Nat.reduceLT, implies_true, forall_const, reduceCtorEq, V.ofValue, V.ofScalar, V.un, V.gd, aExec, aop, List.set_cons_zero, List.set_cons_succ, aClear, content, contentL, V.isVal, V.cells, V.noRef, List.size_toArray, List.getD_eq_getElem?_getD, Array.getD_eq_getD_getElem?, Option.getD_some, List.forall_mem_map, List.all_cons, List.all_nil, List.length_map, Value.oneCell', Nat.reduceAdd, Nat.reduceLeDiff, Nat.reduceMul, ‹Tys _›.h, ‹Fc _›.h]
      repeat (refine andA ?_)
      refine k _ ?_
      clear k K
      exact b.h) : aAny P L rg K (fuel + 1) listed s := aAny_only i hi hr (e b)
theorem zoc {P : Program} {L : Lend} {rg : Array Oper} {K : St → Prop} {fuel : Nat} {listed : Array Bool} {s : St} {oi : Oper} {rest : List Oper} {B : Prop} {C : Prop} (i : Nat) (con : C) (b : Ho B) (hi : rg.toList.drop i = oi :: rest := by rfl) (hr : Region.ready .any rg listed = [i] := by kernel_rfl)
    (e : C → Ho B → (∀ K' : St → Prop, (∀ s, aAny P L rg K fuel (listed.setIfInBounds i true) s → K' s) → aStepM P L rg oi s K') := by
      intro con b K k
      simp only [zE, zM, aStepM, optable, set_some, Nat.reduceEqDiff, reduceIte, Nat.reduceLT, implies_true, forall_const, reduceCtorEq, V.ofValue, V.ofScalar, V.un, V.gd, aExec, lentIds, lendOf, ‹Tys _›.h, ‹Fc _›.h]
      repeat (refine andC ?_)
      refine aCall_new con (by first | rfl | (simp only [toArgs, toArg, toCell, toCells, idx, row_mk, List.getElem?_cons_zero, List.getElem?_cons_succ, Option.bind_some, Option.map_some, Blk.row, fillK_mix, flat_mix, deep_mix, thin_mix, shal_mix, cond_true, List.map_take]; done) | (simp [toArgs, toArg, toCell, toCells, idx, row_mk, Blk.row, fillK_mix, flat_mix, deep_mix, thin_mix, shal_mix, Nat.beq_refl]; done)) (by first | exact .inl ⟨rfl, by simp [Blk.kindIs, fillK_fd]⟩ | exact .inr (by simp [V.cold])) ?_
      refine k _ ?_
      clear k K
      simp only [zY, zW, set_some, Nat.reduceEqDiff, reduceIte, V.ren, V.renL, rho, Nat.reduceAdd]
      exact b.h) : aAny P L rg K (fuel + 1) listed s := aAny_only i hi hr (e con b)
theorem zol {P : Program} {L : Lend} {rg : Array Oper} {K : St → Prop} {fuel : Nat} {listed : Array Bool} {s : St} {oi : Oper} {rest : List Oper} {B : Prop} {C : Prop} (i : Nat) (con : C) (b : Ho B) (hi : rg.toList.drop i = oi :: rest := by rfl) (hr : Region.ready .any rg listed = [i] := by kernel_rfl)
    (e : C → Ho B → (∀ K' : St → Prop, (∀ s, aAny P L rg K fuel (listed.setIfInBounds i true) s → K' s) → aStepM P L rg oi s K') := by
      intro con b K k
      simp only [zE, zM, aStepM, optable, set_some, Nat.reduceEqDiff, reduceIte, Nat.reduceLT, implies_true, forall_const, reduceCtorEq, V.ofValue, V.ofScalar, V.un, V.gd, aExec, lentIds, lendOf, ‹Tys _›.h, ‹Fc _›.h]
      repeat (refine andC ?_)
      refine aCall_lent _ con (by first | rfl | (simp only [toArgs, toArg, toCell, toCells, idx, row_mk, List.getElem?_cons_zero, List.getElem?_cons_succ, Option.bind_some, Option.map_some, Blk.row, fillK_mix, flat_mix, deep_mix, thin_mix, shal_mix, cond_true, List.map_take]; done) | (simp [toArgs, toArg, toCell, toCells, idx, row_mk, Blk.row, fillK_mix, flat_mix, deep_mix, thin_mix, shal_mix, Nat.beq_refl]; done)) (by rfl) ⟨by simp [Blk.kindIs, fillK_mix], by simp⟩ (by first | exact .inl rfl | exact .inr (by simp [Blk.kindIs])) ⟨rfl, by simp [Blk.kindIs, fillK_fd]⟩ ?_
      refine k _ ?_
      clear k K
      simp only [zY, zW, set_some, Nat.reduceEqDiff, reduceIte, rho_one, V.ren, V.renL, List.set_cons_zero, List.set_cons_succ, Nat.reduceAdd]
      exact b.h) : aAny P L rg K (fuel + 1) listed s := aAny_only i hi hr (e con b)
theorem zogc {P : Program} {L : Lend} {rg : Array Oper} {K : St → Prop} {fuel : Nat} {listed : Array Bool} {s : St} {oi : Oper} {rest : List Oper} {B : Prop} {C : Prop} (i : Nat) (con : C) (b : Ho B) (hi : rg.toList.drop i = oi :: rest := by rfl) (hr : Region.ready .any rg listed = [i] := by kernel_rfl)
    (e : C → Ho B → (Region.ready .any rg listed = [i]) → (rg.toList.drop i = oi :: rest) → aAny P L rg K (fuel + 1) listed s := by
      intro con b hr hi
      first
      | refine aAny_pass _ _ _ _ hi rfl (Nat.le_of_ble_eq_true rfl) hr rfl ?_ ?_
        · first | rfl | (simp only [zV, guardV, Nat.reduceEqDiff, reduceIte]; done)
        simp only [zW, set_some, Nat.reduceEqDiff, reduceIte]
        exact b.h
      | skip
        refine aAny_only _ hi hr ?_
        intro K k
        simp only [zE, zG, aStepM, optable, set_some, Nat.reduceEqDiff, reduceIte, Nat.reduceLT, implies_true, forall_const, reduceCtorEq, V.ofValue, V.ofScalar, V.un, V.gd, guardV, ‹Tys _›.h, ‹Fc _›.h]
        simp only [zM, zW, aExec, lentIds, lendOf, set_some, Nat.reduceEqDiff, reduceIte, V.ofValue, V.ofScalar, V.un, V.gd, and_true, true_and, implies_true, and_self, decide_eq_true_eq]
        first | refine Exists.imp (fun r h => h) (aCall_guardT con (by first | rfl | (simp only [toArgs, toArg, toCell, toCells, idx, row_mk, List.getElem?_cons_zero, List.getElem?_cons_succ, Option.bind_some, Option.map_some, Blk.row, fillK_mix, flat_mix, deep_mix, thin_mix, shal_mix, cond_true, List.map_take]; done) | (simp [toArgs, toArg, toCell, toCells, idx, row_mk, Blk.row, fillK_mix, flat_mix, deep_mix, thin_mix, shal_mix, Nat.beq_refl]; done)) rfl rfl ?_) | refine Exists.imp (fun r h => h) (aCall_guard (by first | (intros; trivial) | (intros; simp_all; done)) (fun hg => con) (by first | rfl | (simp only [toArgs, toArg, toCell, toCells, idx, row_mk, List.getElem?_cons_zero, List.getElem?_cons_succ, Option.bind_some, Option.map_some, Blk.row, fillK_mix, flat_mix, deep_mix, thin_mix, shal_mix, cond_true, List.map_take]; done) | (simp [toArgs, toArg, toCell, toCells, idx, row_mk, Blk.row, fillK_mix, flat_mix, deep_mix, thin_mix, shal_mix, Nat.beq_refl]; done)) rfl rfl ?_)
        refine k _ ?_
        clear k K
        exact b.h) : aAny P L rg K (fuel + 1) listed s := e con b hr hi
theorem zocc {P : Program} {L : Lend} {rg : Array Oper} {K : St → Prop} {fuel : Nat} {listed : Array Bool} {s : St} {oi : Oper} {rest : List Oper} {B : Prop} {C : Prop} (i : Nat) (con : C) (b : Ho B) (hi : rg.toList.drop i = oi :: rest := by rfl) (hr : Region.ready .any rg listed = [i] := by kernel_rfl)
    (e : C → Ho B → (∀ K' : St → Prop, (∀ s, aAny P L rg K fuel (listed.setIfInBounds i true) s → K' s) → aStepM P L rg oi s K') := by
      intro con b K k
      simp only [zE, zM, aStepM, optable, set_some, Nat.reduceEqDiff, reduceIte, Nat.reduceLT, implies_true, forall_const, reduceCtorEq, V.ofValue, V.ofScalar, V.un, V.gd, aExec, lentIds, lendOf, ‹Tys _›.h, ‹Fc _›.h]
      repeat (refine andC ?_)
      refine aCall_new con (by first | rfl | (simp only [toArgs, toArg, toCell, toCells, idx, row_mk, List.getElem?_cons_zero, List.getElem?_cons_succ, Option.bind_some, Option.map_some, Blk.row, fillK_mix, flat_mix, deep_mix, thin_mix, shal_mix, cond_true, List.map_take, ‹Caps _›.cc, ‹Caps _›.ca]; done) | (simp [toArgs, toArg, toCell, toCells, idx, row_mk, Blk.row, fillK_mix, flat_mix, deep_mix, thin_mix, shal_mix, Nat.beq_refl, ‹Caps _›.cc, ‹Caps _›.ca]; done)) (by first | exact .inl ⟨rfl, by simp [Blk.kindIs, fillK_fd]⟩ | exact .inr (by simp [V.cold])) ?_
      refine k _ ?_
      clear k K
      simp only [zY, zW, set_some, Nat.reduceEqDiff, reduceIte, V.ren, V.renL, rho, Nat.reduceAdd]
      exact b.h) : aAny P L rg K (fuel + 1) listed s := aAny_only i hi hr (e con b)
theorem zolc {P : Program} {L : Lend} {rg : Array Oper} {K : St → Prop} {fuel : Nat} {listed : Array Bool} {s : St} {oi : Oper} {rest : List Oper} {B : Prop} {C : Prop} (i : Nat) (con : C) (b : Ho B) (hi : rg.toList.drop i = oi :: rest := by rfl) (hr : Region.ready .any rg listed = [i] := by kernel_rfl)
    (e : C → Ho B → (∀ K' : St → Prop, (∀ s, aAny P L rg K fuel (listed.setIfInBounds i true) s → K' s) → aStepM P L rg oi s K') := by
      intro con b K k
      simp only [zE, zM, aStepM, optable, set_some, Nat.reduceEqDiff, reduceIte, Nat.reduceLT, implies_true, forall_const, reduceCtorEq, V.ofValue, V.ofScalar, V.un, V.gd, aExec, lentIds, lendOf, ‹Tys _›.h, ‹Fc _›.h]
      repeat (refine andC ?_)
      refine aCall_lent _ con (by first | rfl | (simp only [toArgs, toArg, toCell, toCells, idx, row_mk, List.getElem?_cons_zero, List.getElem?_cons_succ, Option.bind_some, Option.map_some, Blk.row, fillK_mix, flat_mix, deep_mix, thin_mix, shal_mix, cond_true, List.map_take, ‹Caps _›.cc, ‹Caps _›.ca]; done) | (simp [toArgs, toArg, toCell, toCells, idx, row_mk, Blk.row, fillK_mix, flat_mix, deep_mix, thin_mix, shal_mix, Nat.beq_refl, ‹Caps _›.cc, ‹Caps _›.ca]; done)) (by rfl) ⟨by simp [Blk.kindIs, fillK_mix], by simp⟩ (by first | exact .inl rfl | exact .inr (by simp [Blk.kindIs])) ⟨rfl, by simp [Blk.kindIs, fillK_fd]⟩ ?_
      refine k _ ?_
      clear k K
      simp only [zY, zW, set_some, Nat.reduceEqDiff, reduceIte, rho_one, V.ren, V.renL, List.set_cons_zero, List.set_cons_succ, Nat.reduceAdd]
      exact b.h) : aAny P L rg K (fuel + 1) listed s := aAny_only i hi hr (e con b)
theorem zogcc {P : Program} {L : Lend} {rg : Array Oper} {K : St → Prop} {fuel : Nat} {listed : Array Bool} {s : St} {oi : Oper} {rest : List Oper} {B : Prop} {C : Prop} (i : Nat) (con : C) (b : Ho B) (hi : rg.toList.drop i = oi :: rest := by rfl) (hr : Region.ready .any rg listed = [i] := by kernel_rfl)
    (e : C → Ho B → (Region.ready .any rg listed = [i]) → (rg.toList.drop i = oi :: rest) → aAny P L rg K (fuel + 1) listed s := by
      intro con b hr hi
      first
      | refine aAny_pass _ _ _ _ hi rfl (Nat.le_of_ble_eq_true rfl) hr rfl ?_ ?_
        · first | rfl | (simp only [zV, guardV, Nat.reduceEqDiff, reduceIte]; done)
        simp only [zW, set_some, Nat.reduceEqDiff, reduceIte]
        exact b.h
      | skip
        refine aAny_only _ hi hr ?_
        intro K k
        simp only [zE, zG, aStepM, optable, set_some, Nat.reduceEqDiff, reduceIte, Nat.reduceLT, implies_true, forall_const, reduceCtorEq, V.ofValue, V.ofScalar, V.un, V.gd, guardV, ‹Tys _›.h, ‹Fc _›.h]
        simp only [zM, zW, aExec, lentIds, lendOf, set_some, Nat.reduceEqDiff, reduceIte, V.ofValue, V.ofScalar, V.un, V.gd, and_true, true_and, implies_true, and_self, decide_eq_true_eq]
        first | refine Exists.imp (fun r h => h) (aCall_guardT con (by first | rfl | (simp only [toArgs, toArg, toCell, toCells, idx, row_mk, List.getElem?_cons_zero, List.getElem?_cons_succ, Option.bind_some, Option.map_some, Blk.row, fillK_mix, flat_mix, deep_mix, thin_mix, shal_mix, cond_true, List.map_take, ‹Caps _›.cc, ‹Caps _›.ca]; done) | (simp [toArgs, toArg, toCell, toCells, idx, row_mk, Blk.row, fillK_mix, flat_mix, deep_mix, thin_mix, shal_mix, Nat.beq_refl, ‹Caps _›.cc, ‹Caps _›.ca]; done)) rfl rfl ?_) | refine Exists.imp (fun r h => h) (aCall_guard (by first | (intros; trivial) | (intros; simp_all; done)) (fun hg => con) (by first | rfl | (simp only [toArgs, toArg, toCell, toCells, idx, row_mk, List.getElem?_cons_zero, List.getElem?_cons_succ, Option.bind_some, Option.map_some, Blk.row, fillK_mix, flat_mix, deep_mix, thin_mix, shal_mix, cond_true, List.map_take, ‹Caps _›.cc, ‹Caps _›.ca]; done) | (simp [toArgs, toArg, toCell, toCells, idx, row_mk, Blk.row, fillK_mix, flat_mix, deep_mix, thin_mix, shal_mix, Nat.beq_refl, ‹Caps _›.cc, ‹Caps _›.ca]; done)) rfl rfl ?_)
        refine k _ ?_
        clear k K
        exact b.h) : aAny P L rg K (fuel + 1) listed s := e con b hr hi

end Go.Vm
