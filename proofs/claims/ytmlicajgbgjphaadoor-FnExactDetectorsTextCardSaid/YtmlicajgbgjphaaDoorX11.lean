/- What functions compute. No condition. -/
import Derived.Test.YtmlicajgbgjphaaDoorUty
import Derived.Test.YtmlicajgbgjphaaDoorUmG
import Derived.Test.YtmlicajgbgjphaaDoorX1
import Derived.Test.YtmlicajgbgjphaaDoorX7
set_option linter.unusedSimpArgs false
set_option linter.unusedVariables false
set_option linter.defProp false
namespace Go.Proofs.YtmlicajgbgjphaaDoor
open Go Go.Vm

set_option maxHeartbeats 1000000 in
theorem szDetectorS_con (n : Int) (ll : List (Int × Int × Int × Bool)) (hn : 0 ≤ n ∧ n ≤ 1048576) (hl : ll.length ≤ 9223372036854775807) : Con Tryd.prog 15 [.sl (ll.map (fun t : Int × Int × Int × Bool => V.agg [V.int .i64 t.1, V.int .i64 t.2.1, V.int .i64 t.2.2.1, V.bool t.2.2.2])), .int .i64 n] [] (.int .i64 (if n - ll.length < 0 then -1 else n - ll.length)) [] := by
 refine v_con [.tmp 4] [] Tryd.func15 rfl rfl rfl (by simp [Tryd.ntmps15]) ?_
 intro Q0 n0 r0
 simp only [Tryd.ntmps15, envFrom, Nat.reduceAdd]
 have T := Tys.mk (And.intro Ty.t3 (And.intro Ty.t4 (And.intro Ty.t30 Ty.t135)))
 have F := Fc.mk True.intro
 refine v_seqR [0,1] ?_; intro K1 k1
 refine zAssign ⟨?_⟩
 refine k1 _ ?_
 refine zk ⟨?_⟩
 refine v_seqR [1] ?_; intro K2 k2
 refine zMove ⟨?_⟩
 refine zMove ⟨?_⟩
 refine zLen ⟨?_⟩
 refine zBinOpW ⟨?_⟩
 refine zAssign ⟨?_⟩
 refine k2 _ ?_
 refine zk ⟨?_⟩
 refine v_seq ?_; intro Q3 n3 e3 r3
 refine v_seqR [1,10] ?_; intro K4 k4
 refine zMove ⟨?_⟩
 refine zBinOp ⟨?_⟩
 refine k4 _ ?_
 refine zk ⟨?_⟩
 refine v_condS _ rfl ?_ ?_
 ·intro hc0
  refine v_seqR [4] ?_; intro K6 k6
  refine zAssign ⟨?_⟩
  refine k6 _ ?_
  refine zk ⟨?_⟩
  refine v_ret ?_
  refine r3 _ ?_
  refine r0 _ ?_
  refine zf ⟨?_⟩
  exact ret_pure rfl (by rw [if_pos (by omega)]) (.inl rfl)
 ·intro hc0
  refine v_skip ?_
  refine n3 _ _ (weak_keep [1] _) ?_
  refine zk ⟨?_⟩
  refine v_seqR [4] ?_; intro K7 k7
  refine zMove ⟨?_⟩
  refine zAssign ⟨?_⟩
  refine k7 _ ?_
  refine zk ⟨?_⟩
  refine v_ret ?_
  refine r0 _ ?_
  refine zf ⟨?_⟩
  exact ret_pure rfl (by rw [if_neg (by omega)]) (.inl rfl)
set_option maxHeartbeats 1000000 in
theorem toDetector_con (x0 : Int) (x1 : Int) (x2 : Int) (x3 : Bool) : Con Tryd.prog 111 [.agg [V.int .i64 x0, V.int .i64 x1, V.int .i64 x2, V.bool x3]] [] (.agg [V.int .i64 x0, V.int .i64 x1, V.int .i64 x2, V.bool x3]) [] := by
 refine v_con [.cell 2 61] [] Tryd.func111 rfl rfl rfl (by simp [Tryd.ntmps111]) ?_
 intro Q0 n0 r0
 simp only [Tryd.ntmps111, envFrom, Nat.reduceAdd]
 have T := Tys.mk (And.intro Ty.t3 (And.intro Ty.t4 (And.intro Ty.t61 Ty.t135)))
 have F := Fc.mk True.intro
 refine v_seqR [1,2] ?_; intro K1 k1
 refine zBox ⟨?_⟩
 refine zAlloc ⟨?_⟩
 refine k1 _ ?_
 refine zk ⟨?_⟩
 refine v_seqR [1,2,3] ?_; intro K2 k2
 refine zAlloc ⟨?_⟩
 refine k2 _ ?_
 refine zk ⟨?_⟩
 refine v_seqR [1,2,3] ?_; intro K3 k3
 refine zFieldAddr ⟨?_⟩
 refine zLoad ⟨?_⟩
 refine zFieldAddr ⟨?_⟩
 refine zStore ⟨?_⟩
 refine k3 _ ?_
 refine zk ⟨?_⟩
 refine v_seqR [1,2,3] ?_; intro K4 k4
 refine zFieldAddr ⟨?_⟩
 refine zLoad ⟨?_⟩
 refine zFieldAddr ⟨?_⟩
 refine zStore ⟨?_⟩
 refine k4 _ ?_
 refine zk ⟨?_⟩
 refine v_seqR [1,2,3] ?_; intro K5 k5
 refine zFieldAddr ⟨?_⟩
 refine zLoad ⟨?_⟩
 refine zFieldAddr ⟨?_⟩
 refine zStore ⟨?_⟩
 refine k5 _ ?_
 refine zk ⟨?_⟩
 refine v_seqR [2,3] ?_; intro K6 k6
 refine zFieldAddr ⟨?_⟩
 refine zLoad ⟨?_⟩
 refine zFieldAddr ⟨?_⟩
 refine zStore ⟨?_⟩
 refine k6 _ ?_
 refine zk ⟨?_⟩
 refine v_seqR [2] ?_; intro K7 k7
 refine zLoad ⟨?_⟩
 refine zStore ⟨?_⟩
 refine k7 _ ?_
 refine zk ⟨?_⟩
 refine v_ret ?_
 refine r0 _ ?_
 refine zf ⟨?_⟩
 simp only [zE, zL, zO, zN, aStepM, optable, set_some, Nat.reduceEqDiff, reduceIte, Nat.reduceLT, implies_true, forall_const, reduceCtorEq, V.ofValue, V.ofScalar, V.un, V.gd, aLoad, row_mk, Blk.row, PartOK, Go.Vm.part, V.cells, V.noSl, V.noRef, Nat.reduceAdd, Nat.reduceLeDiff, Nat.reduceMul, Tryd.underlying3, Ty.c3, Ty.a3, Tryd.underlying4, Ty.c4, Ty.a4, Tryd.underlying61, Ty.c61, Ty.a61]
 exact ret_pure rfl (by first | rfl | simp) (.inl rfl)
set_option maxHeartbeats 1000000 in
theorem toDetectorS_con (l : List (Int × Int × Int × Bool)) (hl : l.length ≤ 1048576) : Con Tryd.prog 17 [.sl (l.map (fun t : Int × Int × Int × Bool => V.agg [V.int .i64 t.1, V.int .i64 t.2.1, V.int .i64 t.2.2.1, V.bool t.2.2.2]))] [] (.ref 0) [.arr (l.map (fun t : Int × Int × Int × Bool => V.agg [V.int .i64 t.1, V.int .i64 t.2.1, V.int .i64 t.2.2.1, V.bool t.2.2.2])) .flat] := by
 refine v_con [.tmp 2] [] Tryd.func17 rfl rfl rfl (by simp [Tryd.ntmps17]) ?_
 intro Q0 n0 r0
 simp only [Tryd.ntmps17, envFrom, Nat.reduceAdd]
 have T := Tys.mk (And.intro Ty.t3 (And.intro Ty.t4 (And.intro Ty.t30 (And.intro Ty.t33 (And.intro Ty.t61 Ty.t135)))))
 have F := Fc.mk True.intro
 refine v_seqR [0] ?_; intro K1 k1
 refine zAssign ⟨?_⟩
 refine k1 _ ?_
 refine zk ⟨?_⟩
 refine v_seqR [0,3] ?_; intro K2 k2
 refine zMove ⟨?_⟩
 refine zLen ⟨?_⟩
 refine zMakeSlice ⟨?_⟩
 refine zAssign ⟨?_⟩
 refine k2 _ ?_
 refine zk ⟨?_⟩
 refine v_seq ?_; intro Q3 n3 e3 r3
 refine v_seqR [0,3,4] ?_; intro K4 k4
 refine zAssign ⟨?_⟩
 refine k4 _ ?_
 refine zk ⟨?_⟩
 refine v_block ?_; intro Q5 n5 x5 e5 r5
 refine v_loop (fun i => ⟨[(0, .sl (l.map (fun t : Int × Int × Int × Bool => V.agg [V.int .i64 t.1, V.int .i64 t.2.1, V.int .i64 t.2.2.1, V.bool t.2.2.2]))), (3, .ref 0), (4, .int .i64 (Nat.cast i))], [.arr (fillTo (fun t : Int × Int × Int × Bool => V.agg [V.int .i64 t.1, V.int .i64 t.2.1, V.int .i64 t.2.2.1, V.bool t.2.2.2]) (V.agg [V.int .i64 0, V.int .i64 0, V.int .i64 0, V.bool false]) l i) .flat], false, 23, 0⟩) (fun i => i ≤ l.length) (fun i => l.length - i) 0 ?_ ?_ ?_
 ·refine weak_bothS [0, 3, 4] [1] ⟨?_⟩
  rw [fill_zero]; rfl
 ·exact Nat.zero_le _
 ·rintro i hok6 Q6 n6 e6 r6
  have hi1 : i ≤ l.length := hok6
  refine v_seq ?_; intro Q7 n7 e7 r7
  refine v_seqR [0,3,4,11] ?_; intro K8 k8
  refine zMove ⟨?_⟩
  refine zMove ⟨?_⟩
  refine zLen ⟨?_⟩
  refine zBinOp ⟨?_⟩
  refine k8 _ ?_
  refine zk ⟨?_⟩
  refine v_condS _ rfl ?_ ?_
  ·intro hc0
   have hlt : i < l.length := by omega
   obtain ⟨⟨x0, x1, x2, x3⟩, hx⟩ : ∃ x : Int × Int × Int × Bool, l[i]? = some x := ⟨l[i]'(by omega), List.getElem?_eq_getElem (by omega)⟩
   refine v_skip ?_
   refine n7 _ _ (weak_keep [0, 3, 4] _) ?_
   refine zk ⟨?_⟩
   refine v_seq ?_; intro Q10 n10 e10 r10
   refine v_block ?_; intro Q11 n11 x11 e11 r11
   refine v_region ?_; intro K12 k12
   have F := Fc.mk (And.intro (fun f => getD_map (f := f) hx) (And.intro (fun f z => fill_len (f := f) (z := z) hi1) (And.intro (fun f z => fill_get (f := f) (z := z) hlt) (fun f z => fill_set (f := f) (z := z) hx))))
   refine zMove ⟨?_⟩
   refine zMove ⟨?_⟩
   refine zMove ⟨?_⟩
   refine zMove ⟨?_⟩
   refine v_op ?_; intro K k
   simp only [zE, zL, zN, aStepM, optable, set_some, Nat.reduceEqDiff, reduceIte, Nat.reduceLT, implies_true, forall_const, reduceCtorEq, V.ofValue, V.ofScalar, V.un, V.gd, aExec, aop, List.mem_cons, List.not_mem_nil, or_false, forall_eq_or_imp, forall_eq, aIndexAddr, row_mk, Blk.row, Go.Vm.V.cells, List.forall_mem_map, List.length_map, Int.toNat_natCast, Int.reduceToNat, TypeDesc.slice.injEq, Nat.reduceAdd, Nat.reduceLeDiff, Nat.reduceMul, Tryd.underlying30, Ty.c30, Ty.a30, Tryd.underlying135, Ty.c135, Ty.a135, contentL, Value.oneCell', List.all_cons, List.all_nil, Bool.and_self, getD_map hx, fill_len hi1, fill_get hlt, fill_set hx]
   repeat (refine And.intro (by first | omega | (exact fill_all (fun _ => rfl) rfl) | (intros; omega) | (intros; simp_all; done) | (intros; simp_all; omega)) ?_)
   refine k _ ?_; clear k K
   refine zLoad ⟨?_⟩
   refine zc (toDetector_con x0 x1 x2 x3) ⟨?_⟩
   refine v_op ?_; intro K k
   simp only [zE, zL, zN, aStepM, optable, set_some, Nat.reduceEqDiff, reduceIte, Nat.reduceLT, implies_true, forall_const, reduceCtorEq, V.ofValue, V.ofScalar, V.un, V.gd, aExec, aop, List.mem_cons, List.not_mem_nil, or_false, forall_eq_or_imp, forall_eq, aIndexAddr, row_mk, Blk.row, Go.Vm.V.cells, List.forall_mem_map, List.length_map, Int.toNat_natCast, Int.reduceToNat, TypeDesc.slice.injEq, Nat.reduceAdd, Nat.reduceLeDiff, Nat.reduceMul, Tryd.underlying33, Ty.c33, Ty.a33, Tryd.underlying61, Ty.c61, Ty.a61, contentL, Value.oneCell', List.all_cons, List.all_nil, Bool.and_self, getD_map hx, fill_len hi1, fill_get hlt, fill_set hx]
   repeat (refine And.intro (by first | omega | (exact fill_all (fun _ => rfl) rfl) | (intros; omega) | (intros; simp_all; done) | (intros; simp_all; omega)) ?_)
   refine k _ ?_; clear k K
   refine v_op ?_; intro K k
   simp only [zE, zS, zJ, zL, zO, zN, aStepM, optable, set_some, Nat.reduceEqDiff, reduceIte, Nat.reduceLT, implies_true, forall_const, reduceCtorEq, V.ofValue, V.ofScalar, V.un, V.gd, aExec, aop, aStore, setCells, V.isVal, V.cells, kindOf, kindAll, V.noSl, V.noRef, gt_iff_lt, Nat.reduceAdd, Nat.reduceLeDiff, Nat.reduceMul, takeV, takeCell, takeCells, row_mk, Blk.row, killAll, Nat.reduceBEq, join_t, Tryd.underlying3, Ty.c3, Ty.a3, Tryd.underlying4, Ty.c4, Ty.a4, Tryd.underlying61, Ty.c61, Ty.a61, contentL, Value.oneCell', getD_map hx, fill_len hi1, fill_get hlt, fill_set hx]
   repeat (refine And.intro (by first | omega | (exact fill_all (fun _ => rfl) rfl) | (intros; omega) | (intros; simp_all; done) | (intros; simp_all; omega)) ?_)
   refine k _ ?_; clear k K
   refine k12 _ ?_
   refine n11 _ ?_
   refine n10 _ _ (weak_keep [0, 3, 4] _) ?_
   refine zk ⟨?_⟩
   refine v_region ?_; intro K13 k13
   refine zMove ⟨?_⟩
   refine zBinOpW ⟨?_⟩
   refine zAssign ⟨?_⟩
   refine k13 _ ?_
   refine n6 _ (i + 1) ?_ ?_ ?_
   ·refine weak_bothS [0, 3, 4] [0] ⟨?_⟩
    rfl
   ·exact hlt
   ·show _ < _; omega
  ·intro hc0
   refine v_exit ?_
   refine e7 _ _ ?_
   refine e6 _ _ ?_
   refine x5 _ ?_
   refine n3 _ _ (weak_keep [3] _) ?_
   refine zk ⟨?_⟩
   refine v_seqR [2] ?_; intro K14 k14
   refine zMove ⟨?_⟩
   refine zAssign ⟨?_⟩
   refine k14 _ ?_
   refine zk ⟨?_⟩
   refine v_ret ?_
   refine r0 _ ?_
   refine zf ⟨?_⟩
   rw [← fill_end (f := (fun t : Int × Int × Int × Bool => V.agg [V.int .i64 t.1, V.int .i64 t.2.1, V.int .i64 t.2.2.1, V.bool t.2.2.2])) (z := (V.agg [V.int .i64 0, V.int .i64 0, V.int .i64 0, V.bool false])) (show l.length ≤ i by omega)]
   exact ret_ref rfl (.inl rfl)
set_option maxHeartbeats 1000000 in
theorem eqDetector_con (x0 : Int) (x1 : Int) (x2 : Int) (x3 : Bool) (y0 : Int) (y1 : Int) (y2 : Int) (y3 : Bool) : Con Tryd.prog 114 [.agg [V.int .i64 x0, V.int .i64 x1, V.int .i64 x2, V.bool x3], .agg [V.int .i64 y0, V.int .i64 y1, V.int .i64 y2, V.bool y3]] [] (.bool (decide ((x0, x1, x2, x3) = (y0, y1, y2, y3)))) [] := by
 refine v_con [.tmp 4] [] Tryd.func114 rfl rfl rfl (by simp [Tryd.ntmps114]) ?_
 intro Q0 n0 r0
 simp only [Tryd.ntmps114, envFrom, Nat.reduceAdd]
 have T := Tys.mk (And.intro Ty.t3 (And.intro Ty.t4 Ty.t61))
 have F := Fc.mk True.intro
 refine v_seqR [2,3] ?_; intro K1 k1
 refine zBox ⟨?_⟩
 refine zBox ⟨?_⟩
 refine zAssign ⟨?_⟩
 refine k1 _ ?_
 refine zk ⟨?_⟩
 refine v_seq ?_; intro Q2 n2 e2 r2
 refine v_seqR [2,3,9] ?_; intro K3 k3
 refine zFieldAddr ⟨?_⟩
 refine zLoad ⟨?_⟩
 refine zFieldAddr ⟨?_⟩
 refine zLoad ⟨?_⟩
 refine zBinOp ⟨?_⟩
 refine k3 _ ?_
 refine zk ⟨?_⟩
 refine v_condS _ rfl ?_ ?_
 ·intro hc0
  refine v_seqR [4] ?_; intro K5 k5
  refine zAssign ⟨?_⟩
  refine k5 _ ?_
  refine zk ⟨?_⟩
  refine v_ret ?_
  refine r2 _ ?_
  refine r0 _ ?_
  refine zf ⟨?_⟩
  exact ret_pure rfl (by rw [decide_eq_false (by intro h; simp only [Prod.mk.injEq] at h; exact hc0 h.1)]) (.inl rfl)
 ·intro hc0
  refine v_skip ?_
  refine n2 _ _ (weak_keep [2, 3] _) ?_
  refine zk ⟨?_⟩
  refine v_seq ?_; intro Q6 n6 e6 r6
  refine v_seqR [2,3,14] ?_; intro K7 k7
  refine zFieldAddr ⟨?_⟩
  refine zLoad ⟨?_⟩
  refine zFieldAddr ⟨?_⟩
  refine zLoad ⟨?_⟩
  refine zBinOp ⟨?_⟩
  refine k7 _ ?_
  refine zk ⟨?_⟩
  refine v_condS _ rfl ?_ ?_
  ·intro hc1
   refine v_seqR [4] ?_; intro K9 k9
   refine zAssign ⟨?_⟩
   refine k9 _ ?_
   refine zk ⟨?_⟩
   refine v_ret ?_
   refine r6 _ ?_
   refine r0 _ ?_
   refine zf ⟨?_⟩
   exact ret_pure rfl (by rw [decide_eq_false (by intro h; simp only [Prod.mk.injEq] at h; exact hc1 h.2.1)]) (.inl rfl)
  ·intro hc1
   refine v_skip ?_
   refine n6 _ _ (weak_keep [2, 3] _) ?_
   refine zk ⟨?_⟩
   refine v_seq ?_; intro Q10 n10 e10 r10
   refine v_seqR [2,3,19] ?_; intro K11 k11
   refine zFieldAddr ⟨?_⟩
   refine zLoad ⟨?_⟩
   refine zFieldAddr ⟨?_⟩
   refine zLoad ⟨?_⟩
   refine zBinOp ⟨?_⟩
   refine k11 _ ?_
   refine zk ⟨?_⟩
   refine v_condS _ rfl ?_ ?_
   ·intro hc2
    refine v_seqR [4] ?_; intro K13 k13
    refine zAssign ⟨?_⟩
    refine k13 _ ?_
    refine zk ⟨?_⟩
    refine v_ret ?_
    refine r10 _ ?_
    refine r0 _ ?_
    refine zf ⟨?_⟩
    exact ret_pure rfl (by rw [decide_eq_false (by intro h; simp only [Prod.mk.injEq] at h; exact hc2 h.2.2.1)]) (.inl rfl)
   ·intro hc2
    refine v_skip ?_
    refine n10 _ _ (weak_keep [2, 3] _) ?_
    refine zk ⟨?_⟩
    refine v_seq ?_; intro Q14 n14 e14 r14
    refine v_seqR [24] ?_; intro K15 k15
    refine zFieldAddr ⟨?_⟩
    refine zLoad ⟨?_⟩
    refine zFieldAddr ⟨?_⟩
    refine zLoad ⟨?_⟩
    refine zBinOp ⟨?_⟩
    refine k15 _ ?_
    refine zk ⟨?_⟩
    refine v_condS _ rfl ?_ ?_
    ·intro hc3
     refine v_seqR [4] ?_; intro K17 k17
     refine zAssign ⟨?_⟩
     refine k17 _ ?_
     refine zk ⟨?_⟩
     refine v_ret ?_
     refine r14 _ ?_
     refine r0 _ ?_
     refine zf ⟨?_⟩
     exact ret_pure rfl (by rw [decide_eq_false (by intro h; simp only [Prod.mk.injEq] at h; have hb := h.2.2.2; rw [hb] at hc3; simp at hc3)]) (.inl rfl)
    ·intro hc3
     refine v_skip ?_
     refine n14 _ _ (weak_keep [] _) ?_
     refine zk ⟨?_⟩
     refine v_seqR [4] ?_; intro K18 k18
     refine zAssign ⟨?_⟩
     refine k18 _ ?_
     refine zk ⟨?_⟩
     refine v_ret ?_
     refine r0 _ ?_
     refine zf ⟨?_⟩
     exact ret_pure rfl (by rw [decide_eq_true (by rw [hc0, hc1, hc2, (eq_of_beq hc3 : x3 = y3)])]) (.inl rfl)
set_option maxHeartbeats 1000000 in
theorem eqDetectorS_con (a b : List (Int × Int × Int × Bool)) (ha : a.length ≤ 1048576) : Con Tryd.prog 19 [.sl (a.map (fun t : Int × Int × Int × Bool => V.agg [V.int .i64 t.1, V.int .i64 t.2.1, V.int .i64 t.2.2.1, V.bool t.2.2.2])), .sl (b.map (fun t : Int × Int × Int × Bool => V.agg [V.int .i64 t.1, V.int .i64 t.2.1, V.int .i64 t.2.2.1, V.bool t.2.2.2]))] [] (.bool (decide (a = b))) [] := by
 refine v_con [.tmp 4] [] Tryd.func19 rfl rfl rfl (by simp [Tryd.ntmps19]) ?_
 intro Q0 n0 r0
 simp only [Tryd.ntmps19, envFrom, Nat.reduceAdd]
 have T := Tys.mk (And.intro Ty.t3 (And.intro Ty.t4 (And.intro Ty.t33 Ty.t61)))
 have F := Fc.mk True.intro
 refine v_seqR [0,1] ?_; intro K1 k1
 refine zAssign ⟨?_⟩
 refine k1 _ ?_
 refine zk ⟨?_⟩
 refine v_seq ?_; intro Q2 n2 e2 r2
 refine v_seqR [0,1,10] ?_; intro K3 k3
 refine zMove ⟨?_⟩
 refine zLen ⟨?_⟩
 refine zMove ⟨?_⟩
 refine zLen ⟨?_⟩
 refine zBinOp ⟨?_⟩
 refine k3 _ ?_
 refine zk ⟨?_⟩
 refine v_condS _ rfl ?_ ?_
 ·intro hc0
  refine v_seqR [4] ?_; intro K5 k5
  refine zAssign ⟨?_⟩
  refine k5 _ ?_
  refine zk ⟨?_⟩
  refine v_ret ?_
  refine r2 _ ?_
  refine r0 _ ?_
  refine zf ⟨?_⟩
  exact ret_pure rfl (by rw [decide_eq_false (fun h => by subst h; simp at hc0)]) (.inl rfl)
 ·intro hc0
  have hab : a.length = b.length := by omega
  refine v_skip ?_
  refine n2 _ _ (weak_keep [0, 1] _) ?_
  refine zk ⟨?_⟩
  refine v_seq ?_; intro Q6 n6 e6 r6
  refine v_seqR [0,1,5] ?_; intro K7 k7
  refine zAssign ⟨?_⟩
  refine k7 _ ?_
  refine zk ⟨?_⟩
  refine v_block ?_; intro Q8 n8 x8 e8 r8
  refine v_loop (fun i => ⟨[(0, .sl (a.map (fun t : Int × Int × Int × Bool => V.agg [V.int .i64 t.1, V.int .i64 t.2.1, V.int .i64 t.2.2.1, V.bool t.2.2.2]))), (1, .sl (b.map (fun t : Int × Int × Int × Bool => V.agg [V.int .i64 t.1, V.int .i64 t.2.1, V.int .i64 t.2.2.1, V.bool t.2.2.2]))), (5, .int .i64 (Nat.cast i))], [], false, 27, 0⟩) (fun i => i ≤ a.length ∧ ((a = b) ↔ (a.drop i = b.drop i))) (fun i => a.length - i) 0 ?_ ?_ ?_
  ·refine weak_of [0, 1, 5] ?_
   simp only [keep_mk, keepE_nil, keepE_cons, look_cons, look_nil, Nat.reduceEqDiff, reduceIte]
   rfl
  ·exact ⟨Nat.zero_le _, by simp⟩
  ·rintro i hok9 Q9 n9 e9 r9
   obtain ⟨hi1, hR⟩ := hok9
   refine v_seq ?_; intro Q10 n10 e10 r10
   refine v_seqR [0,1,5,14] ?_; intro K11 k11
   refine zMove ⟨?_⟩
   refine zMove ⟨?_⟩
   refine zLen ⟨?_⟩
   refine zBinOp ⟨?_⟩
   refine k11 _ ?_
   refine zk ⟨?_⟩
   refine v_condS _ rfl ?_ ?_
   ·intro hc1
    have hlt : i < a.length := by omega
    obtain ⟨⟨x0, x1, x2, x3⟩, hx⟩ : ∃ x : Int × Int × Int × Bool, a[i]? = some x := ⟨a[i]'(by omega), List.getElem?_eq_getElem (by omega)⟩
    obtain ⟨⟨y0, y1, y2, y3⟩, hy⟩ : ∃ x : Int × Int × Int × Bool, b[i]? = some x := ⟨b[i]'(by omega), List.getElem?_eq_getElem (by omega)⟩
    have hstep := eq_drop hab hx hy
    refine v_skip ?_
    refine n10 _ _ (weak_keep [0, 1, 5] _) ?_
    refine zk ⟨?_⟩
    refine v_seq ?_; intro Q13 n13 e13 r13
    refine v_block ?_; intro Q14 n14 x14 e14 r14
    refine v_seq ?_; intro Q15 n15 e15 r15
    refine v_draw (by kernel_rfl) ?_; intro K16 q16 k16
    show aAny _ _ _ _ 10 (Array.replicate 10 false) _
    have F := Fc.mk (And.intro (fun f => getD_map (f := f) hx) (fun f => getD_map (f := f) hy))
    refine zdMove q16 true 0 17 ?_
    refine zdMove q16 true 1 18 ?_
    refine zdIndexAddr q16 true 2 19 ?_
    refine zdLoad q16 true 3 20 ?_
    refine zdMove q16 true 4 21 ?_
    refine zdMove q16 true 5 22 ?_
    refine zdIndexAddr q16 true 6 23 ?_
    refine zdLoad q16 true 7 24 ?_
    refine zoc 8 (eqDetector_con x0 x1 x2 x3 y0 y1 y2 y3) ⟨?_⟩
    refine zdUnOp q16 true 9 26 ?_
    refine aAny_done (by kernel_rfl) ?_
    refine k16 _ ?_
    refine n15 _ _ (weak_keep [0, 1, 5, 26] _) ?_
    refine zk ⟨?_⟩
    refine v_condS _ rfl ?_ ?_
    ·intro hc2
     refine v_seqR [4] ?_; intro K18 k18
     refine zAssign ⟨?_⟩
     refine k18 _ ?_
     refine zk ⟨?_⟩
     refine v_ret ?_
     refine r14 _ ?_
     refine r13 _ ?_
     refine r9 _ ?_
     refine r8 _ ?_
     refine r6 _ ?_
     refine r0 _ ?_
     refine zf ⟨?_⟩
     exact ret_pure rfl (by rw [decide_eq_false (fun h => hc2 (hstep.1 (hR.1 h)).1)]) (.inl rfl)
    ·intro hc2
     refine v_skip ?_
     refine n14 _ ?_
     refine n13 _ _ (weak_keep [0, 1, 5] _) ?_
     refine zk ⟨?_⟩
     refine v_region ?_; intro K19 k19
     refine zMove ⟨?_⟩
     refine zBinOpW ⟨?_⟩
     refine zAssign ⟨?_⟩
     refine k19 _ ?_
     refine n9 _ (i + 1) ?_ ?_ ?_
     ·refine weak_of [0, 1, 5] ?_
      simp only [keep_mk, keepE_nil, keepE_cons, look_cons, look_nil, Nat.reduceEqDiff, reduceIte]
      rfl
     ·exact ⟨by omega, hR.trans (hstep.trans ⟨fun h => h.2, fun h => ⟨hc2, h⟩⟩)⟩
     ·show _ < _; omega
   ·intro hc1
    refine v_exit ?_
    refine e10 _ _ ?_
    refine e9 _ _ ?_
    refine x8 _ ?_
    refine n6 _ _ (weak_keep [] _) ?_
    refine zk ⟨?_⟩
    refine v_seqR [4] ?_; intro K20 k20
    refine zAssign ⟨?_⟩
    refine k20 _ ?_
    refine zk ⟨?_⟩
    refine v_ret ?_
    refine r0 _ ?_
    refine zf ⟨?_⟩
    exact ret_pure rfl (by rw [decide_eq_true (hR.2 (by rw [List.drop_of_length_le (by omega), List.drop_of_length_le (by omega)]))]) (.inl rfl)
def dOne (x : (Int × Int × Int × Bool)) : Bool := (decide (1 ≤ x.1) && decide (x.1 ≤ 999)) && (decide (1 ≤ x.2.1) && decide (x.2.1 ≤ 9)) && (decide (0 ≤ x.2.2.1) && decide (x.2.2.1 ≤ 2))
def dBefore (x y : (Int × Int × Int × Bool)) : Bool := decide (x.1 < y.1)
def dsB (l : List (Int × Int × Int × Bool)) : Bool := chainAt dOne dBefore l 0 && decide ((l.length : Int) ≤ 20)
def sOne (x : (Int × Int)) : Bool := (decide (0 ≤ x.1) && decide (x.1 ≤ 86399)) && (decide (1 ≤ x.2) && decide (x.2 ≤ 999))
def sBefore (x y : (Int × Int)) : Bool := decide (x.1 ≤ y.1)
def ssB (l : List (Int × Int)) : Bool := chainAt sOne sBefore l 0 && decide ((l.length : Int) ≤ 60)
def findD (n : Int) : Nat → List (Int × Int × Int × Bool) → Int
  | _, [] => -1
  | i, d :: l => if d.1 = n then i else findD n (i + 1) l
theorem find_stepD {n : Int} {l : List (Int × Int × Int × Bool)} {i : Nat} {d : (Int × Int × Int × Bool)} (h : l[i]? = some d) : findD n i (l.drop i) = if d.1 = n then (i : Int) else findD n (i + 1) (l.drop (i + 1)) := by
  rw [getElem_drop_cons h, findD]
theorem find_endD {n : Int} {l : List (Int × Int × Int × Bool)} {i k : Nat} (h : l.length ≤ i) : findD n k (l.drop i) = -1 := by
  rw [List.drop_of_length_le h, findD]
theorem findD_cases (n : Int) : ∀ (l : List (Int × Int × Int × Bool)) (i : Nat), findD n i l = -1 ∨ ∃ (j : Nat) (d : (Int × Int × Int × Bool)), findD n i l = ((i + j : Nat) : Int) ∧ l[j]? = some d ∧ d.1 = n
  | [], i => .inl rfl
  | d :: l, i => by
    rw [findD]
    by_cases h : d.1 = n
    · rw [if_pos h]; exact .inr ⟨0, d, rfl, rfl, h⟩
    · rw [if_neg h]
      rcases findD_cases n l (i + 1) with q | ⟨j, e, q1, q2, q3⟩
      · exact .inl q
      · exact .inr ⟨j + 1, e, by rw [q1]; congr 1; omega, by simpa using q2, q3⟩
def detOf (l : List (Int × Int × Int × Bool)) (n : Int) : Option (Int × Int × Int × Bool) := l.find? fun d => decide (d.1 = n)
theorem findD_det (n : Int) : ∀ (l : List (Int × Int × Int × Bool)) (i : Nat), (findD n i l = -1 ∧ detOf l n = none) ∨ ∃ (j : Nat) (d : (Int × Int × Int × Bool)), findD n i l = ((i + j : Nat) : Int) ∧ l[j]? = some d ∧ detOf l n = some d
  | [], i => .inl ⟨rfl, rfl⟩
  | d :: l, i => by
    rw [findD, detOf, List.find?_cons]
    by_cases h : d.1 = n
    · rw [if_pos h]; right; exact ⟨0, d, rfl, rfl, by simp [h]⟩
    · rw [if_neg h]
      simp only [h, decide_false]
      rcases findD_det n l (i + 1) with ⟨q1, q2⟩ | ⟨j, e, q1, q2, q3⟩
      · exact .inl ⟨q1, q2⟩
      · exact .inr ⟨j + 1, e, by rw [q1]; congr 1; omega, by simpa using q2, q3⟩
def liveB (l : List (Int × Int × Int × Bool)) (s : (Int × Int)) : Bool := match detOf l s.2 with | some d => !d.2.2.2 | none => false

set_option maxHeartbeats 1000000 in
theorem alZone_con (n : Int) : Con Tryd.prog 202 [.int .i64 n] [] (.bool (decide (1 ≤ n) && decide (n ≤ 9))) [] := by
 refine v_con [.tmp 2] [] Tryd.func202 rfl rfl rfl (by simp [Tryd.ntmps202]) ?_
 intro Q0 n0 r0
 simp only [Tryd.ntmps202, envFrom, Nat.reduceAdd]
 have T := Tys.mk (And.intro Ty.t3 Ty.t4)
 have F := Fc.mk True.intro
 refine v_seqR [0] ?_; intro K1 k1
 refine zAssign ⟨?_⟩
 refine k1 _ ?_
 refine zk ⟨?_⟩
 refine v_seqR [2] ?_; intro K2 k2
 refine zMove ⟨?_⟩
 refine zc (l1In_con _ _ _) ⟨?_⟩
 refine zAssign ⟨?_⟩
 refine k2 _ ?_
 refine zk ⟨?_⟩
 refine v_ret ?_
 refine r0 _ ?_
 refine zf ⟨?_⟩
 exact ret_pure rfl (by first | rfl | simp) (.inl rfl)
set_option maxHeartbeats 1000000 in
theorem alGood_con (l : List (Int × Int × Int × Bool)) (hl : l.length ≤ 1048576) : Con Tryd.prog 110 [.sl (l.map (fun t : Int × Int × Int × Bool => V.agg [V.int .i64 t.1, V.int .i64 t.2.1, V.int .i64 t.2.2.1, V.bool t.2.2.2]))] [] (.bool (dsB l)) [] := by
 refine v_con [.tmp 2] [] Tryd.func110 rfl rfl rfl (by simp [Tryd.ntmps110]) ?_
 intro Q0 n0 r0
 simp only [Tryd.ntmps110, envFrom, Nat.reduceAdd]
 have T := Tys.mk (And.intro Ty.t3 (And.intro Ty.t4 (And.intro Ty.t33 Ty.t61)))
 have F := Fc.mk True.intro
 refine v_seqR [0] ?_; intro K1 k1
 refine zAssign ⟨?_⟩
 refine k1 _ ?_
 refine zk ⟨?_⟩
 refine v_seq ?_; intro Q2 n2 e2 r2
 refine v_seqR [0,5,6,7] ?_; intro K3 k3
 refine zMove ⟨?_⟩
 refine zLen ⟨?_⟩
 refine zMove ⟨?_⟩
 refine k3 _ ?_
 refine zk ⟨?_⟩
 refine v_block ?_; intro Q4 n4 x4 e4 r4
 refine v_loop (fun i => ⟨[(0, .sl (l.map (fun t : Int × Int × Int × Bool => V.agg [V.int .i64 t.1, V.int .i64 t.2.1, V.int .i64 t.2.2.1, V.bool t.2.2.2]))), (5, .sl (l.map (fun t : Int × Int × Int × Bool => V.agg [V.int .i64 t.1, V.int .i64 t.2.1, V.int .i64 t.2.2.1, V.bool t.2.2.2]))), (6, .int .i64 l.length), (7, .int .i64 (Nat.cast i))], [], false, 47, 0⟩) (fun i => i ≤ l.length ∧ chainAt dOne dBefore l i = chainAt dOne dBefore l 0) (fun i => l.length - i) 0 ?_ ?_ ?_
 ·refine weak_of [0, 5, 6, 7] ?_
  simp only [keep_mk, keepE_nil, keepE_cons, look_cons, look_nil, Nat.reduceEqDiff, reduceIte]
  rfl
 ·exact ⟨Nat.zero_le _, rfl⟩
 ·rintro i hok5 Q5 n5 e5 r5
  obtain ⟨hi1, hR⟩ := hok5
  refine v_seqR [0,5,6,7,8] ?_; intro K6 k6
  refine zBinOp ⟨?_⟩
  refine k6 _ ?_
  refine zk ⟨?_⟩
  refine v_seq ?_; intro Q7 n7 e7 r7
  refine v_condS _ rfl ?_ ?_
  ·intro hc0
   have hlt : i < l.length := by omega
   obtain ⟨⟨x0, x1, x2, x3⟩, hx⟩ : ∃ x : Int × Int × Int × Bool, l[i]? = some x := ⟨l[i]'(by omega), List.getElem?_eq_getElem (by omega)⟩
   rcases Nat.eq_zero_or_pos i with h0 | h0
   ·skip
    have hi0 : ¬ ((0 : Int) < (i : Int)) := by omega
    have hst : chainAt dOne dBefore l i = (dOne (x0, x1, x2, x3) && chainAt dOne dBefore l (i + 1)) := by subst h0; exact chain_zero hx
    refine v_skip ?_
    refine n7 _ _ (weak_keep [0, 5, 6, 7] _) ?_
    refine zk ⟨?_⟩
    refine v_seq ?_; intro Q9 n9 e9 r9
    refine v_block ?_; intro Q10 n10 x10 e10 r10
    refine v_seqR [0,3,4,5,6,7] ?_; intro K11 k11
    have F := Fc.mk (And.intro (fun f => getD_map (f := f) hx) (And.intro hi0 (And.intro @decide_false @Bool.and_false)))
    refine zMove ⟨?_⟩
    refine zIndexAddr ⟨?_⟩
    refine zLoad ⟨?_⟩
    refine zAlloc ⟨?_⟩
    refine zAssign ⟨?_⟩
    refine zStore ⟨?_⟩
    refine k11 _ ?_
    refine zk ⟨?_⟩
    refine v_seq ?_; intro Q12 n12 e12 r12
    refine v_draw (by kernel_rfl) ?_; intro K13 q13 k13
    show aAny _ _ _ _ 31 (Array.replicate 31 false) _
    refine zdFieldAddr q13 true 0 12 ?_
    refine zdLoad q13 true 1 13 ?_
    refine zoc 2 (l1In_con _ _ _) ⟨?_⟩
    refine zdUnOp q13 true 3 15 ?_
    refine zdMove q13 true 4 16 ?_
    refine zdgFieldAddr q13 true 5 17 ?_
    refine zdgLoad q13 true 6 18 ?_
    first
    |refine zogc 7 (alZone_con _) ⟨?_⟩
    |(refine aAny_pass 7 19 4 false rfl rfl (show 19 < 47 by decide) (by kernel_rfl) rfl ?_ ?_; (focus first | rfl | (simp only [zV, guardV, Nat.reduceEqDiff, reduceIte]; done)); simp only [zW, set_some, Nat.reduceEqDiff, reduceIte])
    refine zdgUnOp q13 true 8 20 ?_
    refine zdPick q13 true 9 21 ?_
    refine zdMove q13 true 10 22 ?_
    refine zdgFieldAddr q13 true 11 23 ?_
    refine zdgLoad q13 true 12 24 ?_
    first
    |refine zogc 13 (l1In_con _ _ _) ⟨?_⟩
    |(refine aAny_pass 13 25 10 false rfl rfl (show 25 < 47 by decide) (by kernel_rfl) rfl ?_ ?_; (focus first | rfl | (simp only [zV, guardV, Nat.reduceEqDiff, reduceIte]; done)); simp only [zW, set_some, Nat.reduceEqDiff, reduceIte])
    refine zdgUnOp q13 true 14 26 ?_
    refine zdPick q13 true 15 27 ?_
    refine zdMove q13 true 16 28 ?_
    refine zdgMove q13 true 17 29 ?_
    refine zdgBinOp q13 true 18 30 ?_
    refine zdgMove q13 true 19 31 ?_
    refine zdgMove q13 true 20 32 ?_
    refine zdgMove q13 true 21 33 ?_
    refine zdgBinOpW q13 true 22 34 ?_
    refine zdgIndexAddr q13 true 23 35 ?_
    refine zdgFieldAddr q13 true 24 36 ?_
    refine zdgLoad q13 true 25 37 ?_
    refine zdgFieldAddr q13 true 26 38 ?_
    refine zdgLoad q13 true 27 39 ?_
    refine zdgBinOp q13 true 28 40 ?_
    refine zdgPick q13 true 29 41 ?_
    refine zdPick q13 true 30 42 ?_
    refine aAny_done (by kernel_rfl) ?_
    refine k13 _ ?_
    refine n12 _ _ (weak_keep [0, 5, 6, 7, 42] _) ?_
    refine zk ⟨?_⟩
    refine v_condS _ rfl ?_ ?_
    ·intro hc1
     refine v_seqR [2] ?_; intro K15 k15
     refine zAssign ⟨?_⟩
     refine k15 _ ?_
     refine zk ⟨?_⟩
     refine v_ret ?_
     refine r10 _ ?_
     refine r9 _ ?_
     refine r5 _ ?_
     refine r4 _ ?_
     refine r2 _ ?_
     refine r0 _ ?_
     refine zf ⟨?_⟩
     exact ret_pure rfl (by rw [dsB, ← hR, hst]; clear hR hst; simp [dOne, dBefore] at *; intros; omega) (.inl rfl)
    ·intro hc1
     refine v_skip ?_
     refine n10 _ ?_
     refine n9 _ _ (weak_keep [0, 5, 6, 7] _) ?_
     refine zk ⟨?_⟩
     refine v_region ?_; intro K16 k16
     refine zBinOpW ⟨?_⟩
     refine zMove ⟨?_⟩
     refine k16 _ ?_
     refine n5 _ (i + 1) ?_ ?_ ?_
     ·refine weak_bothS [0, 5, 6, 7] [] ⟨?_⟩
      rfl
     ·exact ⟨by omega, by rw [← hR, hst]; clear hR hst; have hone : dOne (x0, x1, x2, x3) = true := (by simp [dOne] at *; omega); first | (simp [hone]; done) | (have hbt : dBefore (y0, y1, y2, y3) (x0, x1, x2, x3) = true := (by simp [dBefore] at *; omega); simp [hone, hbt])⟩
     ·show _ < _; omega
   ·skip
    obtain ⟨⟨y0, y1, y2, y3⟩, hy⟩ : ∃ x : Int × Int × Int × Bool, l[i - 1]? = some x := ⟨l[i - 1]'(by omega), List.getElem?_eq_getElem (by omega)⟩
    have hi0 : (0 : Int) < i := by omega
    have hk : ((i : Int) - 1).toNat = i - 1 := by omega
    have hst := chain_succ (ok := dOne) (bf := dBefore) h0 hy hx
    refine v_skip ?_
    refine n7 _ _ (weak_keep [0, 5, 6, 7] _) ?_
    refine zk ⟨?_⟩
    refine v_seq ?_; intro Q17 n17 e17 r17
    refine v_block ?_; intro Q18 n18 x18 e18 r18
    refine v_seqR [0,3,4,5,6,7] ?_; intro K19 k19
    have F := Fc.mk (And.intro (fun f => getD_map (f := f) hx) (And.intro hi0 (And.intro hk (And.intro (fun f => getD_map (f := f) hy) (And.intro @decide_true @Bool.and_true)))))
    refine zMove ⟨?_⟩
    refine zIndexAddr ⟨?_⟩
    refine zLoad ⟨?_⟩
    refine zAlloc ⟨?_⟩
    refine zAssign ⟨?_⟩
    refine zStore ⟨?_⟩
    refine k19 _ ?_
    refine zk ⟨?_⟩
    refine v_seq ?_; intro Q20 n20 e20 r20
    refine v_draw (by kernel_rfl) ?_; intro K21 q21 k21
    show aAny _ _ _ _ 31 (Array.replicate 31 false) _
    refine zdFieldAddr q21 true 0 12 ?_
    refine zdLoad q21 true 1 13 ?_
    refine zoc 2 (l1In_con _ _ _) ⟨?_⟩
    refine zdUnOp q21 true 3 15 ?_
    refine zdMove q21 true 4 16 ?_
    refine zdgFieldAddr q21 true 5 17 ?_
    refine zdgLoad q21 true 6 18 ?_
    first
    |refine zogc 7 (alZone_con _) ⟨?_⟩
    |(refine aAny_pass 7 19 4 false rfl rfl (show 19 < 47 by decide) (by kernel_rfl) rfl ?_ ?_; (focus first | rfl | (simp only [zV, guardV, Nat.reduceEqDiff, reduceIte]; done)); simp only [zW, set_some, Nat.reduceEqDiff, reduceIte])
    refine zdgUnOp q21 true 8 20 ?_
    refine zdPick q21 true 9 21 ?_
    refine zdMove q21 true 10 22 ?_
    refine zdgFieldAddr q21 true 11 23 ?_
    refine zdgLoad q21 true 12 24 ?_
    first
    |refine zogc 13 (l1In_con _ _ _) ⟨?_⟩
    |(refine aAny_pass 13 25 10 false rfl rfl (show 25 < 47 by decide) (by kernel_rfl) rfl ?_ ?_; (focus first | rfl | (simp only [zV, guardV, Nat.reduceEqDiff, reduceIte]; done)); simp only [zW, set_some, Nat.reduceEqDiff, reduceIte])
    refine zdgUnOp q21 true 14 26 ?_
    refine zdPick q21 true 15 27 ?_
    refine zdMove q21 true 16 28 ?_
    refine zdgMove q21 true 17 29 ?_
    refine zdgBinOp q21 true 18 30 ?_
    refine zdgMove q21 true 19 31 ?_
    refine zdgMove q21 true 20 32 ?_
    refine zdgMove q21 true 21 33 ?_
    refine zdgBinOpW q21 true 22 34 ?_
    refine zdgIndexAddr q21 true 23 35 ?_
    refine zdgFieldAddr q21 true 24 36 ?_
    refine zdgLoad q21 true 25 37 ?_
    refine zdgFieldAddr q21 true 26 38 ?_
    refine zdgLoad q21 true 27 39 ?_
    refine zdgBinOp q21 true 28 40 ?_
    refine zdgPick q21 true 29 41 ?_
    refine zdPick q21 true 30 42 ?_
    refine aAny_done (by kernel_rfl) ?_
    refine k21 _ ?_
    refine n20 _ _ (weak_keep [0, 5, 6, 7, 42] _) ?_
    refine zk ⟨?_⟩
    refine v_condS _ rfl ?_ ?_
    ·intro hc1
     refine v_seqR [2] ?_; intro K23 k23
     refine zAssign ⟨?_⟩
     refine k23 _ ?_
     refine zk ⟨?_⟩
     refine v_ret ?_
     refine r18 _ ?_
     refine r17 _ ?_
     refine r5 _ ?_
     refine r4 _ ?_
     refine r2 _ ?_
     refine r0 _ ?_
     refine zf ⟨?_⟩
     exact ret_pure rfl (by rw [dsB, ← hR, hst]; clear hR hst; simp [dOne, dBefore] at *; intros; omega) (.inl rfl)
    ·intro hc1
     refine v_skip ?_
     refine n18 _ ?_
     refine n17 _ _ (weak_keep [0, 5, 6, 7] _) ?_
     refine zk ⟨?_⟩
     refine v_region ?_; intro K24 k24
     refine zBinOpW ⟨?_⟩
     refine zMove ⟨?_⟩
     refine k24 _ ?_
     refine n5 _ (i + 1) ?_ ?_ ?_
     ·refine weak_bothS [0, 5, 6, 7] [] ⟨?_⟩
      rfl
     ·exact ⟨by omega, by rw [← hR, hst]; clear hR hst; have hone : dOne (x0, x1, x2, x3) = true := (by simp [dOne] at *; omega); first | (simp [hone]; done) | (have hbt : dBefore (y0, y1, y2, y3) (x0, x1, x2, x3) = true := (by simp [dBefore] at *; omega); simp [hone, hbt])⟩
     ·show _ < _; omega
  ·intro hc0
   refine v_exit ?_
   refine e7 _ _ ?_
   refine e5 _ _ ?_
   refine x4 _ ?_
   refine n2 _ _ (weak_keep [0] _) ?_
   refine zk ⟨?_⟩
   refine v_seqR [2] ?_; intro K25 k25
   refine zMove ⟨?_⟩
   refine zLen ⟨?_⟩
   refine zBinOp ⟨?_⟩
   refine zAssign ⟨?_⟩
   refine k25 _ ?_
   refine zk ⟨?_⟩
   refine v_ret ?_
   refine r0 _ ?_
   refine zf ⟨?_⟩
   exact ret_pure rfl (by rw [dsB, ← hR, chain_end (by omega)]; simp) (.inl rfl)
set_option maxHeartbeats 1000000 in
theorem areDetectors_con (l : List (Int × Int × Int × Bool)) (hl : l.length ≤ 1048576) : Con Tryd.prog 112 [.sl (l.map (fun t : Int × Int × Int × Bool => V.agg [V.int .i64 t.1, V.int .i64 t.2.1, V.int .i64 t.2.2.1, V.bool t.2.2.2]))] [] (.bool (dsB l)) [] := by
 refine v_con [.tmp 2] [] Tryd.func112 rfl rfl rfl (by simp [Tryd.ntmps112]) ?_
 intro Q0 n0 r0
 simp only [Tryd.ntmps112, envFrom, Nat.reduceAdd]
 have T := Tys.mk (And.intro Ty.t3 (And.intro Ty.t4 (And.intro Ty.t33 Ty.t61)))
 have F := Fc.mk True.intro
 refine v_seqR [0] ?_; intro K1 k1
 refine zAssign ⟨?_⟩
 refine k1 _ ?_
 refine zk ⟨?_⟩
 refine v_seq ?_; intro Q2 n2 e2 r2
 refine v_seqR [0,5,6,7] ?_; intro K3 k3
 refine zMove ⟨?_⟩
 refine zLen ⟨?_⟩
 refine zMove ⟨?_⟩
 refine k3 _ ?_
 refine zk ⟨?_⟩
 refine v_block ?_; intro Q4 n4 x4 e4 r4
 refine v_loop (fun i => ⟨[(0, .sl (l.map (fun t : Int × Int × Int × Bool => V.agg [V.int .i64 t.1, V.int .i64 t.2.1, V.int .i64 t.2.2.1, V.bool t.2.2.2]))), (5, .sl (l.map (fun t : Int × Int × Int × Bool => V.agg [V.int .i64 t.1, V.int .i64 t.2.1, V.int .i64 t.2.2.1, V.bool t.2.2.2]))), (6, .int .i64 l.length), (7, .int .i64 (Nat.cast i))], [], false, 47, 0⟩) (fun i => i ≤ l.length ∧ chainAt dOne dBefore l i = chainAt dOne dBefore l 0) (fun i => l.length - i) 0 ?_ ?_ ?_
 ·refine weak_of [0, 5, 6, 7] ?_
  simp only [keep_mk, keepE_nil, keepE_cons, look_cons, look_nil, Nat.reduceEqDiff, reduceIte]
  rfl
 ·exact ⟨Nat.zero_le _, rfl⟩
 ·rintro i hok5 Q5 n5 e5 r5
  obtain ⟨hi1, hR⟩ := hok5
  refine v_seqR [0,5,6,7,8] ?_; intro K6 k6
  refine zBinOp ⟨?_⟩
  refine k6 _ ?_
  refine zk ⟨?_⟩
  refine v_seq ?_; intro Q7 n7 e7 r7
  refine v_condS _ rfl ?_ ?_
  ·intro hc0
   have hlt : i < l.length := by omega
   obtain ⟨⟨x0, x1, x2, x3⟩, hx⟩ : ∃ x : Int × Int × Int × Bool, l[i]? = some x := ⟨l[i]'(by omega), List.getElem?_eq_getElem (by omega)⟩
   rcases Nat.eq_zero_or_pos i with h0 | h0
   ·skip
    have hi0 : ¬ ((0 : Int) < (i : Int)) := by omega
    have hst : chainAt dOne dBefore l i = (dOne (x0, x1, x2, x3) && chainAt dOne dBefore l (i + 1)) := by subst h0; exact chain_zero hx
    refine v_skip ?_
    refine n7 _ _ (weak_keep [0, 5, 6, 7] _) ?_
    refine zk ⟨?_⟩
    refine v_seq ?_; intro Q9 n9 e9 r9
    refine v_block ?_; intro Q10 n10 x10 e10 r10
    refine v_seqR [0,3,4,5,6,7] ?_; intro K11 k11
    have F := Fc.mk (And.intro (fun f => getD_map (f := f) hx) (And.intro hi0 (And.intro @decide_false @Bool.and_false)))
    refine zMove ⟨?_⟩
    refine zIndexAddr ⟨?_⟩
    refine zLoad ⟨?_⟩
    refine zAlloc ⟨?_⟩
    refine zAssign ⟨?_⟩
    refine zStore ⟨?_⟩
    refine k11 _ ?_
    refine zk ⟨?_⟩
    refine v_seq ?_; intro Q12 n12 e12 r12
    refine v_draw (by kernel_rfl) ?_; intro K13 q13 k13
    show aAny _ _ _ _ 31 (Array.replicate 31 false) _
    refine zdFieldAddr q13 true 0 12 ?_
    refine zdLoad q13 true 1 13 ?_
    refine zoc 2 (inside_con _ _ _) ⟨?_⟩
    refine zdUnOp q13 true 3 15 ?_
    refine zdMove q13 true 4 16 ?_
    refine zdgFieldAddr q13 true 5 17 ?_
    refine zdgLoad q13 true 6 18 ?_
    first
    |refine zogc 7 (inside_con _ _ _) ⟨?_⟩
    |(refine aAny_pass 7 19 4 false rfl rfl (show 19 < 47 by decide) (by kernel_rfl) rfl ?_ ?_; (focus first | rfl | (simp only [zV, guardV, Nat.reduceEqDiff, reduceIte]; done)); simp only [zW, set_some, Nat.reduceEqDiff, reduceIte])
    refine zdgUnOp q13 true 8 20 ?_
    refine zdPick q13 true 9 21 ?_
    refine zdMove q13 true 10 22 ?_
    refine zdgFieldAddr q13 true 11 23 ?_
    refine zdgLoad q13 true 12 24 ?_
    first
    |refine zogc 13 (inside_con _ _ _) ⟨?_⟩
    |(refine aAny_pass 13 25 10 false rfl rfl (show 25 < 47 by decide) (by kernel_rfl) rfl ?_ ?_; (focus first | rfl | (simp only [zV, guardV, Nat.reduceEqDiff, reduceIte]; done)); simp only [zW, set_some, Nat.reduceEqDiff, reduceIte])
    refine zdgUnOp q13 true 14 26 ?_
    refine zdPick q13 true 15 27 ?_
    refine zdMove q13 true 16 28 ?_
    refine zdgMove q13 true 17 29 ?_
    refine zdgBinOp q13 true 18 30 ?_
    refine zdgMove q13 true 19 31 ?_
    refine zdgMove q13 true 20 32 ?_
    refine zdgMove q13 true 21 33 ?_
    refine zdgBinOpW q13 true 22 34 ?_
    refine zdgIndexAddr q13 true 23 35 ?_
    refine zdgFieldAddr q13 true 24 36 ?_
    refine zdgLoad q13 true 25 37 ?_
    refine zdgFieldAddr q13 true 26 38 ?_
    refine zdgLoad q13 true 27 39 ?_
    refine zdgBinOp q13 true 28 40 ?_
    refine zdgPick q13 true 29 41 ?_
    refine zdPick q13 true 30 42 ?_
    refine aAny_done (by kernel_rfl) ?_
    refine k13 _ ?_
    refine n12 _ _ (weak_keep [0, 5, 6, 7, 42] _) ?_
    refine zk ⟨?_⟩
    refine v_condS _ rfl ?_ ?_
    ·intro hc1
     refine v_seqR [2] ?_; intro K15 k15
     refine zAssign ⟨?_⟩
     refine k15 _ ?_
     refine zk ⟨?_⟩
     refine v_ret ?_
     refine r10 _ ?_
     refine r9 _ ?_
     refine r5 _ ?_
     refine r4 _ ?_
     refine r2 _ ?_
     refine r0 _ ?_
     refine zf ⟨?_⟩
     exact ret_pure rfl (by rw [dsB, ← hR, hst]; clear hR hst; simp [dOne, dBefore] at *; intros; omega) (.inl rfl)
    ·intro hc1
     refine v_skip ?_
     refine n10 _ ?_
     refine n9 _ _ (weak_keep [0, 5, 6, 7] _) ?_
     refine zk ⟨?_⟩
     refine v_region ?_; intro K16 k16
     refine zBinOpW ⟨?_⟩
     refine zMove ⟨?_⟩
     refine k16 _ ?_
     refine n5 _ (i + 1) ?_ ?_ ?_
     ·refine weak_bothS [0, 5, 6, 7] [] ⟨?_⟩
      rfl
     ·exact ⟨by omega, by rw [← hR, hst]; clear hR hst; have hone : dOne (x0, x1, x2, x3) = true := (by simp [dOne] at *; omega); first | (simp [hone]; done) | (have hbt : dBefore (y0, y1, y2, y3) (x0, x1, x2, x3) = true := (by simp [dBefore] at *; omega); simp [hone, hbt])⟩
     ·show _ < _; omega
   ·skip
    obtain ⟨⟨y0, y1, y2, y3⟩, hy⟩ : ∃ x : Int × Int × Int × Bool, l[i - 1]? = some x := ⟨l[i - 1]'(by omega), List.getElem?_eq_getElem (by omega)⟩
    have hi0 : (0 : Int) < i := by omega
    have hk : ((i : Int) - 1).toNat = i - 1 := by omega
    have hst := chain_succ (ok := dOne) (bf := dBefore) h0 hy hx
    refine v_skip ?_
    refine n7 _ _ (weak_keep [0, 5, 6, 7] _) ?_
    refine zk ⟨?_⟩
    refine v_seq ?_; intro Q17 n17 e17 r17
    refine v_block ?_; intro Q18 n18 x18 e18 r18
    refine v_seqR [0,3,4,5,6,7] ?_; intro K19 k19
    have F := Fc.mk (And.intro (fun f => getD_map (f := f) hx) (And.intro hi0 (And.intro hk (And.intro (fun f => getD_map (f := f) hy) (And.intro @decide_true @Bool.and_true)))))
    refine zMove ⟨?_⟩
    refine zIndexAddr ⟨?_⟩
    refine zLoad ⟨?_⟩
    refine zAlloc ⟨?_⟩
    refine zAssign ⟨?_⟩
    refine zStore ⟨?_⟩
    refine k19 _ ?_
    refine zk ⟨?_⟩
    refine v_seq ?_; intro Q20 n20 e20 r20
    refine v_draw (by kernel_rfl) ?_; intro K21 q21 k21
    show aAny _ _ _ _ 31 (Array.replicate 31 false) _
    refine zdFieldAddr q21 true 0 12 ?_
    refine zdLoad q21 true 1 13 ?_
    refine zoc 2 (inside_con _ _ _) ⟨?_⟩
    refine zdUnOp q21 true 3 15 ?_
    refine zdMove q21 true 4 16 ?_
    refine zdgFieldAddr q21 true 5 17 ?_
    refine zdgLoad q21 true 6 18 ?_
    first
    |refine zogc 7 (inside_con _ _ _) ⟨?_⟩
    |(refine aAny_pass 7 19 4 false rfl rfl (show 19 < 47 by decide) (by kernel_rfl) rfl ?_ ?_; (focus first | rfl | (simp only [zV, guardV, Nat.reduceEqDiff, reduceIte]; done)); simp only [zW, set_some, Nat.reduceEqDiff, reduceIte])
    refine zdgUnOp q21 true 8 20 ?_
    refine zdPick q21 true 9 21 ?_
    refine zdMove q21 true 10 22 ?_
    refine zdgFieldAddr q21 true 11 23 ?_
    refine zdgLoad q21 true 12 24 ?_
    first
    |refine zogc 13 (inside_con _ _ _) ⟨?_⟩
    |(refine aAny_pass 13 25 10 false rfl rfl (show 25 < 47 by decide) (by kernel_rfl) rfl ?_ ?_; (focus first | rfl | (simp only [zV, guardV, Nat.reduceEqDiff, reduceIte]; done)); simp only [zW, set_some, Nat.reduceEqDiff, reduceIte])
    refine zdgUnOp q21 true 14 26 ?_
    refine zdPick q21 true 15 27 ?_
    refine zdMove q21 true 16 28 ?_
    refine zdgMove q21 true 17 29 ?_
    refine zdgBinOp q21 true 18 30 ?_
    refine zdgMove q21 true 19 31 ?_
    refine zdgMove q21 true 20 32 ?_
    refine zdgMove q21 true 21 33 ?_
    refine zdgBinOpW q21 true 22 34 ?_
    refine zdgIndexAddr q21 true 23 35 ?_
    refine zdgFieldAddr q21 true 24 36 ?_
    refine zdgLoad q21 true 25 37 ?_
    refine zdgFieldAddr q21 true 26 38 ?_
    refine zdgLoad q21 true 27 39 ?_
    refine zdgBinOp q21 true 28 40 ?_
    refine zdgPick q21 true 29 41 ?_
    refine zdPick q21 true 30 42 ?_
    refine aAny_done (by kernel_rfl) ?_
    refine k21 _ ?_
    refine n20 _ _ (weak_keep [0, 5, 6, 7, 42] _) ?_
    refine zk ⟨?_⟩
    refine v_condS _ rfl ?_ ?_
    ·intro hc1
     refine v_seqR [2] ?_; intro K23 k23
     refine zAssign ⟨?_⟩
     refine k23 _ ?_
     refine zk ⟨?_⟩
     refine v_ret ?_
     refine r18 _ ?_
     refine r17 _ ?_
     refine r5 _ ?_
     refine r4 _ ?_
     refine r2 _ ?_
     refine r0 _ ?_
     refine zf ⟨?_⟩
     exact ret_pure rfl (by rw [dsB, ← hR, hst]; clear hR hst; simp [dOne, dBefore] at *; intros; omega) (.inl rfl)
    ·intro hc1
     refine v_skip ?_
     refine n18 _ ?_
     refine n17 _ _ (weak_keep [0, 5, 6, 7] _) ?_
     refine zk ⟨?_⟩
     refine v_region ?_; intro K24 k24
     refine zBinOpW ⟨?_⟩
     refine zMove ⟨?_⟩
     refine k24 _ ?_
     refine n5 _ (i + 1) ?_ ?_ ?_
     ·refine weak_bothS [0, 5, 6, 7] [] ⟨?_⟩
      rfl
     ·exact ⟨by omega, by rw [← hR, hst]; clear hR hst; have hone : dOne (x0, x1, x2, x3) = true := (by simp [dOne] at *; omega); first | (simp [hone]; done) | (have hbt : dBefore (y0, y1, y2, y3) (x0, x1, x2, x3) = true := (by simp [dBefore] at *; omega); simp [hone, hbt])⟩
     ·show _ < _; omega
  ·intro hc0
   refine v_exit ?_
   refine e7 _ _ ?_
   refine e5 _ _ ?_
   refine x4 _ ?_
   refine n2 _ _ (weak_keep [0] _) ?_
   refine zk ⟨?_⟩
   refine v_seqR [2] ?_; intro K25 k25
   refine zMove ⟨?_⟩
   refine zLen ⟨?_⟩
   refine zBinOp ⟨?_⟩
   refine zAssign ⟨?_⟩
   refine k25 _ ?_
   refine zk ⟨?_⟩
   refine v_ret ?_
   refine r0 _ ?_
   refine zf ⟨?_⟩
   exact ret_pure rfl (by rw [dsB, ← hR, chain_end (by omega)]; simp) (.inl rfl)
end Go.Proofs.YtmlicajgbgjphaaDoor
