/- What functions compute. No condition. -/
import Derived.Test.YtmlicajgbgjphaaDoorUty
import Derived.Test.YtmlicajgbgjphaaDoorUmG
import Derived.Test.YtmlicajgbgjphaaDoorX1
import Derived.Test.YtmlicajgbgjphaaDoorX3
import Derived.Test.YtmlicajgbgjphaaDoorX2
set_option linter.unusedSimpArgs false
set_option linter.unusedVariables false
set_option linter.defProp false
namespace Go.Proofs.YtmlicajgbgjphaaDoor
open Go Go.Vm

set_option maxHeartbeats 1000000 in
theorem toIntS_con (l : List Int) (hl : l.length ≤ 1048576) : Con Tryd.prog 117 [.sl (l.map (V.int .i64))] [] (.ref 0) [.arr (l.map (V.int .i64)) .flat] := by
 refine v_con [.tmp 2] [] Tryd.func117 rfl rfl rfl (by simp [Tryd.ntmps117]) ?_
 intro Q0 n0 r0
 simp only [Tryd.ntmps117, envFrom, Nat.reduceAdd]
 have T := Tys.mk (And.intro Ty.t3 Ty.t48)
 have F := Fc.mk True.intro
 refine v_seqR [0] ?_; intro K1 k1
 refine zAssign ⟨?_⟩
 refine k1 _ ?_
 refine zk ⟨?_⟩
 refine v_seqR [0,3] ?_; intro K2 k2
 refine zMove ⟨?_⟩
 refine zLen ⟨?_⟩
 refine zMakeSlice ⟨?_⟩
 refine zAssign ⟨?_⟩
 refine k2 _ ?_
 refine zk ⟨?_⟩
 refine v_seq ?_; intro Q3 n3 e3 r3
 refine v_seqR [0,3,4] ?_; intro K4 k4
 refine zAssign ⟨?_⟩
 refine k4 _ ?_
 refine zk ⟨?_⟩
 refine v_block ?_; intro Q5 n5 x5 e5 r5
 refine v_loop (fun i => ⟨[(0, .sl (l.map (V.int .i64))), (3, .ref 0), (4, .int .i64 (Nat.cast i))], [.arr (fillTo (V.int .i64) (V.int .i64 0) l i) .flat], false, 22, 0⟩) (fun i => i ≤ l.length) (fun i => l.length - i) 0 ?_ ?_ ?_
 ·refine weak_bothS [0, 3, 4] [1] ⟨?_⟩
  rw [fill_zero]; rfl
 ·exact Nat.zero_le _
 ·rintro i hok6 Q6 n6 e6 r6
  have hi1 : i ≤ l.length := hok6
  refine v_seq ?_; intro Q7 n7 e7 r7
  refine v_seqR [0,3,4,11] ?_; intro K8 k8
  refine zMove ⟨?_⟩
  refine zMove ⟨?_⟩
  refine zLen ⟨?_⟩
  refine zBinOp ⟨?_⟩
  refine k8 _ ?_
  refine zk ⟨?_⟩
  refine v_condS _ rfl ?_ ?_
  ·intro hc0
   have hlt : i < l.length := by omega
   obtain ⟨x, hx⟩ : ∃ x, l[i]? = some x := ⟨l[i], List.getElem?_eq_getElem hlt⟩
   refine v_skip ?_
   refine n7 _ _ (weak_keep [0, 3, 4] _) ?_
   refine zk ⟨?_⟩
   refine v_seq ?_; intro Q10 n10 e10 r10
   refine v_block ?_; intro Q11 n11 x11 e11 r11
   refine v_region ?_; intro K12 k12
   have F := Fc.mk (And.intro (fun f => getD_map (f := f) hx) (And.intro (fun f z => fill_len (f := f) (z := z) hi1) (And.intro (fun f z => fill_get (f := f) (z := z) hlt) (fun f z => fill_set (f := f) (z := z) hx))))
   refine zMove ⟨?_⟩
   refine zMove ⟨?_⟩
   refine zMove ⟨?_⟩
   refine zMove ⟨?_⟩
   refine v_op ?_; intro K k
   simp only [zE, zL, zN, aStepM, optable, set_some, Nat.reduceEqDiff, reduceIte, Nat.reduceLT, implies_true, forall_const, reduceCtorEq, V.ofValue, V.ofScalar, V.un, V.gd, aExec, aop, List.mem_cons, List.not_mem_nil, or_false, forall_eq_or_imp, forall_eq, aIndexAddr, row_mk, Blk.row, Go.Vm.V.cells, List.forall_mem_map, List.length_map, Int.toNat_natCast, Int.reduceToNat, TypeDesc.slice.injEq, Nat.reduceAdd, Nat.reduceLeDiff, Nat.reduceMul, Tryd.underlying3, Ty.c3, Ty.a3, Tryd.underlying48, Ty.c48, Ty.a48, getD_map hx, fill_len hi1, fill_get hlt, fill_set hx]
   repeat (refine And.intro (by first | omega | (exact fill_all (fun _ => rfl) rfl) | (intros; omega) | (intros; simp_all; done) | (intros; simp_all; omega)) ?_)
   refine k _ ?_; clear k K
   refine zLoad ⟨?_⟩
   refine v_op ?_; intro K k
   simp only [zE, zL, zN, aStepM, optable, set_some, Nat.reduceEqDiff, reduceIte, Nat.reduceLT, implies_true, forall_const, reduceCtorEq, V.ofValue, V.ofScalar, V.un, V.gd, aExec, aop, List.mem_cons, List.not_mem_nil, or_false, forall_eq_or_imp, forall_eq, aIndexAddr, row_mk, Blk.row, Go.Vm.V.cells, List.forall_mem_map, List.length_map, Int.toNat_natCast, Int.reduceToNat, TypeDesc.slice.injEq, Nat.reduceAdd, Nat.reduceLeDiff, Nat.reduceMul, Tryd.underlying3, Ty.c3, Ty.a3, Tryd.underlying48, Ty.c48, Ty.a48, getD_map hx, fill_len hi1, fill_get hlt, fill_set hx]
   repeat (refine And.intro (by first | omega | (exact fill_all (fun _ => rfl) rfl) | (intros; omega) | (intros; simp_all; done) | (intros; simp_all; omega)) ?_)
   refine k _ ?_; clear k K
   refine v_op ?_; intro K k
   simp only [zE, zS, zJ, zL, zO, zN, aStepM, optable, set_some, Nat.reduceEqDiff, reduceIte, Nat.reduceLT, implies_true, forall_const, reduceCtorEq, V.ofValue, V.ofScalar, V.un, V.gd, aExec, aop, aStore, setCells, V.isVal, V.cells, kindOf, kindAll, V.noSl, V.noRef, gt_iff_lt, Nat.reduceAdd, Nat.reduceLeDiff, Nat.reduceMul, takeV, takeCell, takeCells, row_mk, Blk.row, killAll, Nat.reduceBEq, join_t, Tryd.underlying3, Ty.c3, Ty.a3, getD_map hx, fill_len hi1, fill_get hlt, fill_set hx]
   repeat (refine And.intro (by first | omega | (exact fill_all (fun _ => rfl) rfl) | (intros; omega) | (intros; simp_all; done) | (intros; simp_all; omega)) ?_)
   refine k _ ?_; clear k K
   refine k12 _ ?_
   refine n11 _ ?_
   refine n10 _ _ (weak_keep [0, 3, 4] _) ?_
   refine zk ⟨?_⟩
   refine v_region ?_; intro K13 k13
   refine zMove ⟨?_⟩
   refine zBinOpW ⟨?_⟩
   refine zAssign ⟨?_⟩
   refine k13 _ ?_
   refine n6 _ (i + 1) ?_ ?_ ?_
   ·refine weak_bothS [0, 3, 4] [0] ⟨?_⟩
    rfl
   ·exact hlt
   ·show _ < _; omega
  ·intro hc0
   refine v_exit ?_
   refine e7 _ _ ?_
   refine e6 _ _ ?_
   refine x5 _ ?_
   refine n3 _ _ (weak_keep [3] _) ?_
   refine zk ⟨?_⟩
   refine v_seqR [2] ?_; intro K14 k14
   refine zMove ⟨?_⟩
   refine zAssign ⟨?_⟩
   refine k14 _ ?_
   refine zk ⟨?_⟩
   refine v_ret ?_
   refine r0 _ ?_
   refine zf ⟨?_⟩
   rw [← fill_end (f := (V.int .i64)) (z := (V.int .i64 0)) (show l.length ≤ i by omega)]
   exact ret_ref rfl (.inl rfl)
set_option maxHeartbeats 1000000 in
theorem toIntSS_con (ll : List (List Int)) (hl : ll.length ≤ 1048576) (hls : ∀ l ∈ ll, l.length ≤ 1048576) : Con Tryd.prog 22 [.sl (ll.map fun l => V.sl (l.map (V.int .i64)))] [] (.ref 0) [.arr (ll.map (fun l : List Int => V.sl (l.map (V.int .i64)))) (fillK ll.length)] := by
 refine v_con [.tmp 2] [] Tryd.func22 rfl rfl rfl (by simp [Tryd.ntmps22]) ?_
 intro Q0 n0 r0
 simp only [Tryd.ntmps22, envFrom, Nat.reduceAdd]
 have T := Tys.mk (And.intro Ty.t3 (And.intro Ty.t37 Ty.t48))
 have F := Fc.mk True.intro
 refine v_seqR [0] ?_; intro K1 k1
 refine zAssign ⟨?_⟩
 refine k1 _ ?_
 refine zk ⟨?_⟩
 refine v_seqR [0,3] ?_; intro K2 k2
 refine zMove ⟨?_⟩
 refine zLen ⟨?_⟩
 refine zMakeSlice ⟨?_⟩
 refine zAssign ⟨?_⟩
 refine k2 _ ?_
 refine zk ⟨?_⟩
 refine v_seq ?_; intro Q3 n3 e3 r3
 refine v_seqR [0,3,4] ?_; intro K4 k4
 refine zAssign ⟨?_⟩
 refine k4 _ ?_
 refine zk ⟨?_⟩
 refine v_block ?_; intro Q5 n5 x5 e5 r5
 refine v_loop (fun i => ⟨[(0, .sl (ll.map fun l => V.sl (l.map (V.int .i64)))), (3, .ref 0), (4, .int .i64 (Nat.cast i))], [.arr (fillTo (fun l : List Int => V.sl (l.map (V.int .i64))) (V.sl []) ll i) (fillK i)], false, 23, 0⟩) (fun i => i ≤ ll.length) (fun i => ll.length - i) 0 ?_ ?_ ?_
 ·refine weak_bothS [0, 3, 4] [1] ⟨?_⟩
  rw [fill_zero]; rfl
 ·exact Nat.zero_le _
 ·rintro i hok6 Q6 n6 e6 r6
  have hi1 : i ≤ ll.length := hok6
  refine v_seq ?_; intro Q7 n7 e7 r7
  refine v_seqR [0,3,4,11] ?_; intro K8 k8
  refine zMove ⟨?_⟩
  refine zMove ⟨?_⟩
  refine zLen ⟨?_⟩
  refine zBinOp ⟨?_⟩
  refine k8 _ ?_
  refine zk ⟨?_⟩
  refine v_condS _ rfl ?_ ?_
  ·intro hc0
   have hlt : i < ll.length := by omega
   obtain ⟨x, hx⟩ : ∃ x, ll[i]? = some x := ⟨ll[i], List.getElem?_eq_getElem hlt⟩
   have hlx : x.length ≤ 1048576 := hls x (List.mem_of_getElem? hx)
   refine v_skip ?_
   refine n7 _ _ (weak_keep [0, 3, 4] _) ?_
   refine zk ⟨?_⟩
   refine v_seq ?_; intro Q10 n10 e10 r10
   refine v_block ?_; intro Q11 n11 x11 e11 r11
   refine v_region ?_; intro K12 k12
   have F := Fc.mk (And.intro (fun f => getD_map (f := f) hx) (And.intro (fun f z => fill_len (f := f) (z := z) hi1) (And.intro (fun f z => fill_get (f := f) (z := z) hlt) (fun f z => fill_set (f := f) (z := z) hx))))
   refine zMove ⟨?_⟩
   refine zMove ⟨?_⟩
   refine zMove ⟨?_⟩
   refine zMove ⟨?_⟩
   refine v_op ?_; intro K k
   simp only [zE, zL, zN, aStepM, optable, set_some, Nat.reduceEqDiff, reduceIte, Nat.reduceLT, implies_true, forall_const, reduceCtorEq, V.ofValue, V.ofScalar, V.un, V.gd, aExec, aop, List.mem_cons, List.not_mem_nil, or_false, forall_eq_or_imp, forall_eq, aIndexAddr, row_mk, Blk.row, Go.Vm.V.cells, List.forall_mem_map, List.length_map, Int.toNat_natCast, Int.reduceToNat, TypeDesc.slice.injEq, Nat.reduceAdd, Nat.reduceLeDiff, Nat.reduceMul, Tryd.underlying37, Ty.c37, Ty.a37, Tryd.underlying48, Ty.c48, Ty.a48, getD_map hx, fill_len hi1, fill_get hlt, fill_set hx]
   repeat (refine And.intro (by first | omega | (exact fill_all (fun _ => rfl) rfl) | (intros; omega) | (intros; simp_all; done) | (intros; simp_all; omega)) ?_)
   refine k _ ?_; clear k K
   refine zLoad ⟨?_⟩
   refine zc (toIntS_con x hlx) ⟨?_⟩
   refine v_op ?_; intro K k
   simp only [zE, zL, zN, aStepM, optable, set_some, Nat.reduceEqDiff, reduceIte, Nat.reduceLT, implies_true, forall_const, reduceCtorEq, V.ofValue, V.ofScalar, V.un, V.gd, aExec, aop, List.mem_cons, List.not_mem_nil, or_false, forall_eq_or_imp, forall_eq, aIndexAddr, row_mk, Blk.row, Go.Vm.V.cells, List.forall_mem_map, List.length_map, Int.toNat_natCast, Int.reduceToNat, TypeDesc.slice.injEq, Nat.reduceAdd, Nat.reduceLeDiff, Nat.reduceMul, Tryd.underlying37, Ty.c37, Ty.a37, Tryd.underlying48, Ty.c48, Ty.a48, getD_map hx, fill_len hi1, fill_get hlt, fill_set hx]
   repeat (refine And.intro (by first | omega | (exact fill_all (fun _ => rfl) rfl) | (intros; omega) | (intros; simp_all; done) | (intros; simp_all; omega)) ?_)
   refine k _ ?_; clear k K
   refine v_op ?_; intro K k
   simp only [zE, zS, zJ, zL, zO, zN, aStepM, optable, set_some, Nat.reduceEqDiff, reduceIte, Nat.reduceLT, implies_true, forall_const, reduceCtorEq, V.ofValue, V.ofScalar, V.un, V.gd, aExec, aop, aStore, setCells, V.isVal, V.cells, kindOf, kindAll, V.noSl, V.noRef, gt_iff_lt, Nat.reduceAdd, Nat.reduceLeDiff, Nat.reduceMul, takeV, takeCell, takeCells, row_mk, Blk.row, killAll, Nat.reduceBEq, join_t, Tryd.underlying3, Ty.c3, Ty.a3, Tryd.underlying48, Ty.c48, Ty.a48, getD_map hx, fill_len hi1, fill_get hlt, fill_set hx]
   repeat (refine And.intro (by first | omega | (exact fill_all (fun _ => rfl) rfl) | (intros; omega) | (intros; simp_all; done) | (intros; simp_all; omega)) ?_)
   refine k _ ?_; clear k K
   refine k12 _ ?_
   refine n11 _ ?_
   refine n10 _ _ (weak_keep [0, 3, 4] _) ?_
   refine zk ⟨?_⟩
   refine v_region ?_; intro K13 k13
   refine zMove ⟨?_⟩
   refine zBinOpW ⟨?_⟩
   refine zAssign ⟨?_⟩
   refine k13 _ ?_
   refine n6 _ (i + 1) ?_ ?_ ?_
   ·refine weak_bothS [0, 3, 4] [0] ⟨?_⟩
    rfl
   ·exact hlt
   ·show _ < _; omega
  ·intro hc0
   refine v_exit ?_
   refine e7 _ _ ?_
   refine e6 _ _ ?_
   refine x5 _ ?_
   refine n3 _ _ (weak_keep [3] _) ?_
   refine zk ⟨?_⟩
   refine v_seqR [2] ?_; intro K14 k14
   refine zMove ⟨?_⟩
   refine zAssign ⟨?_⟩
   refine k14 _ ?_
   refine zk ⟨?_⟩
   refine v_ret ?_
   refine r0 _ ?_
   refine zf ⟨?_⟩
   have hend : ll.length = i := by omega
   rw [← fill_end (f := (fun l : List Int => V.sl (l.map (V.int .i64)))) (z := (V.sl [])) (show ll.length ≤ i by omega), hend]
   exact ret_ref rfl (fillK_or _)
set_option maxHeartbeats 1000000 in
theorem eqIntSS_con (a b : List (List Int)) (ha : a.length ≤ 1048576) (has : ∀ l ∈ a, l.length ≤ 1048576) : Con Tryd.prog 24 [.sl (a.map fun l => V.sl (l.map (V.int .i64))), .sl (b.map fun l => V.sl (l.map (V.int .i64)))] [] (.bool (decide (a = b))) [] := by
 refine v_con [.tmp 4] [] Tryd.func24 rfl rfl rfl (by simp [Tryd.ntmps24]) ?_
 intro Q0 n0 r0
 simp only [Tryd.ntmps24, envFrom, Nat.reduceAdd]
 have T := Tys.mk (And.intro Ty.t3 (And.intro Ty.t4 (And.intro Ty.t37 Ty.t48)))
 have F := Fc.mk True.intro
 refine v_seqR [0,1] ?_; intro K1 k1
 refine zAssign ⟨?_⟩
 refine k1 _ ?_
 refine zk ⟨?_⟩
 refine v_seq ?_; intro Q2 n2 e2 r2
 refine v_seqR [0,1,10] ?_; intro K3 k3
 refine zMove ⟨?_⟩
 refine zLen ⟨?_⟩
 refine zMove ⟨?_⟩
 refine zLen ⟨?_⟩
 refine zBinOp ⟨?_⟩
 refine k3 _ ?_
 refine zk ⟨?_⟩
 refine v_condS _ rfl ?_ ?_
 ·intro hc0
  refine v_seqR [4] ?_; intro K5 k5
  refine zAssign ⟨?_⟩
  refine k5 _ ?_
  refine zk ⟨?_⟩
  refine v_ret ?_
  refine r2 _ ?_
  refine r0 _ ?_
  refine zf ⟨?_⟩
  exact ret_pure rfl (by rw [decide_eq_false (fun h => by subst h; simp at hc0)]) (.inl rfl)
 ·intro hc0
  have hab : a.length = b.length := by omega
  refine v_skip ?_
  refine n2 _ _ (weak_keep [0, 1] _) ?_
  refine zk ⟨?_⟩
  refine v_seq ?_; intro Q6 n6 e6 r6
  refine v_seqR [0,1,5] ?_; intro K7 k7
  refine zAssign ⟨?_⟩
  refine k7 _ ?_
  refine zk ⟨?_⟩
  refine v_block ?_; intro Q8 n8 x8 e8 r8
  refine v_loop (fun i => ⟨[(0, .sl (a.map fun l => V.sl (l.map (V.int .i64)))), (1, .sl (b.map fun l => V.sl (l.map (V.int .i64)))), (5, .int .i64 (Nat.cast i))], [], false, 27, 0⟩) (fun i => i ≤ a.length ∧ ((a = b) ↔ (a.drop i = b.drop i))) (fun i => a.length - i) 0 ?_ ?_ ?_
  ·refine weak_of [0, 1, 5] ?_
   simp only [keep_mk, keepE_nil, keepE_cons, look_cons, look_nil, Nat.reduceEqDiff, reduceIte]
   rfl
  ·exact ⟨Nat.zero_le _, by simp⟩
  ·rintro i hok9 Q9 n9 e9 r9
   obtain ⟨hi1, hR⟩ := hok9
   refine v_seq ?_; intro Q10 n10 e10 r10
   refine v_seqR [0,1,5,14] ?_; intro K11 k11
   refine zMove ⟨?_⟩
   refine zMove ⟨?_⟩
   refine zLen ⟨?_⟩
   refine zBinOp ⟨?_⟩
   refine k11 _ ?_
   refine zk ⟨?_⟩
   refine v_condS _ rfl ?_ ?_
   ·intro hc1
    have hlt : i < a.length := by omega
    obtain ⟨x, hx⟩ : ∃ x, a[i]? = some x := ⟨a[i], List.getElem?_eq_getElem hlt⟩
    obtain ⟨y, hy⟩ : ∃ y, b[i]? = some y := ⟨b[i], List.getElem?_eq_getElem (by omega)⟩
    have hstep := eq_drop hab hx hy
    have hlx : x.length ≤ 1048576 := has x (List.mem_of_getElem? hx)
    refine v_skip ?_
    refine n10 _ _ (weak_keep [0, 1, 5] _) ?_
    refine zk ⟨?_⟩
    refine v_seq ?_; intro Q13 n13 e13 r13
    refine v_block ?_; intro Q14 n14 x14 e14 r14
    refine v_seq ?_; intro Q15 n15 e15 r15
    refine v_draw (by kernel_rfl) ?_; intro K16 q16 k16
    show aAny _ _ _ _ 10 (Array.replicate 10 false) _
    have F := Fc.mk (And.intro (fun f => getD_map (f := f) hx) (fun f => getD_map (f := f) hy))
    refine zdMove q16 true 0 17 ?_
    refine zdMove q16 true 1 18 ?_
    refine zdIndexAddr q16 true 2 19 ?_
    refine zdLoad q16 true 3 20 ?_
    refine zdMove q16 true 4 21 ?_
    refine zdMove q16 true 5 22 ?_
    refine zdIndexAddr q16 true 6 23 ?_
    refine zdLoad q16 true 7 24 ?_
    refine zoc 8 (eqIntS_con x y hlx) ⟨?_⟩
    refine zdUnOp q16 true 9 26 ?_
    refine aAny_done (by kernel_rfl) ?_
    refine k16 _ ?_
    refine n15 _ _ (weak_keep [0, 1, 5, 26] _) ?_
    refine zk ⟨?_⟩
    refine v_condS _ rfl ?_ ?_
    ·intro hc2
     refine v_seqR [4] ?_; intro K18 k18
     refine zAssign ⟨?_⟩
     refine k18 _ ?_
     refine zk ⟨?_⟩
     refine v_ret ?_
     refine r14 _ ?_
     refine r13 _ ?_
     refine r9 _ ?_
     refine r8 _ ?_
     refine r6 _ ?_
     refine r0 _ ?_
     refine zf ⟨?_⟩
     exact ret_pure rfl (by rw [decide_eq_false (fun h => hc2 (hstep.1 (hR.1 h)).1)]) (.inl rfl)
    ·intro hc2
     refine v_skip ?_
     refine n14 _ ?_
     refine n13 _ _ (weak_keep [0, 1, 5] _) ?_
     refine zk ⟨?_⟩
     refine v_region ?_; intro K19 k19
     refine zMove ⟨?_⟩
     refine zBinOpW ⟨?_⟩
     refine zAssign ⟨?_⟩
     refine k19 _ ?_
     refine n9 _ (i + 1) ?_ ?_ ?_
     ·refine weak_of [0, 1, 5] ?_
      simp only [keep_mk, keepE_nil, keepE_cons, look_cons, look_nil, Nat.reduceEqDiff, reduceIte]
      rfl
     ·exact ⟨by omega, hR.trans (hstep.trans ⟨fun h => h.2, fun h => ⟨hc2, h⟩⟩)⟩
     ·show _ < _; omega
   ·intro hc1
    refine v_exit ?_
    refine e10 _ _ ?_
    refine e9 _ _ ?_
    refine x8 _ ?_
    refine n6 _ _ (weak_keep [] _) ?_
    refine zk ⟨?_⟩
    refine v_seqR [4] ?_; intro K20 k20
    refine zAssign ⟨?_⟩
    refine k20 _ ?_
    refine zk ⟨?_⟩
    refine v_ret ?_
    refine r0 _ ?_
    refine zf ⟨?_⟩
    exact ret_pure rfl (by rw [decide_eq_true (hR.2 (by rw [List.drop_of_length_le (by omega), List.drop_of_length_le (by omega)]))]) (.inl rfl)
def markRow (k : Int) (n : Nat) : List Int := (List.range n).map fun j : Nat => k + j
theorem mark_succ (k : Int) (n : Nat) : markRow k (n + 1) = markRow k n ++ [k + n] := by simp [markRow, List.range_succ]
theorem mark_len (k : Int) (n : Nat) : (markRow k n).length = n := by simp [markRow]
theorem mark_step {l : List Int} {k : Int} {i : Nat} {x : Int} (h : l[i]? = some x) : (markRow k i ++ l.drop i).set i (k + i) = markRow k (i + 1) ++ l.drop (i + 1) := by
  rw [getElem_drop_cons h, mark_succ, List.set_append_right _ _ (by rw [mark_len]; omega), mark_len, Nat.sub_self, List.set_cons_zero, List.append_assoc]
  rfl
theorem mark_get {l : List Int} {k : Int} {i : Nat} {x : Int} (h : l[i]? = some x) : (markRow k i ++ l.drop i)[i]? = some x := by
  rw [List.getElem?_append_right (by rw [mark_len]; omega), mark_len, Nat.sub_self, getElem_drop_cons h]
  rfl
theorem mark_all {l : List Int} {k : Int} {i : Nat} (h : i ≤ l.length) : (markRow k i ++ l.drop i).length = l.length := by simp [mark_len]; omega
theorem mark_at {k : Int} {n i : Nat} (h : i < n) : (markRow k n)[i]? = some (k + i) := by
  simp [markRow, List.getElem?_map, List.getElem?_range h]

set_option maxHeartbeats 1000000 in
theorem duPeople_con (n : Int) : Con Tryd.prog 205 [.int .i64 n] [] (.bool (decide (1 ≤ n) && decide (n ≤ 9))) [] := by
 refine v_con [.tmp 2] [] Tryd.func205 rfl rfl rfl (by simp [Tryd.ntmps205]) ?_
 intro Q0 n0 r0
 simp only [Tryd.ntmps205, envFrom, Nat.reduceAdd]
 have T := Tys.mk (And.intro Ty.t3 Ty.t4)
 have F := Fc.mk True.intro
 refine v_seqR [0] ?_; intro K1 k1
 refine zAssign ⟨?_⟩
 refine k1 _ ?_
 refine zk ⟨?_⟩
 refine v_seqR [2] ?_; intro K2 k2
 refine zMove ⟨?_⟩
 refine zc (l1In_con _ _ _) ⟨?_⟩
 refine zAssign ⟨?_⟩
 refine k2 _ ?_
 refine zk ⟨?_⟩
 refine v_ret ?_
 refine r0 _ ?_
 refine zf ⟨?_⟩
 exact ret_pure rfl (by first | rfl | simp) (.inl rfl)
def rosterB (d : List (List Int)) (n : Int) : Bool := d.all (fun l => risingAt 0 (IntKind.i64.wrap (n - 1)) l 0) && (decide (1 ≤ n) && decide (n ≤ 9)) && decide ((d.length : Int) ≤ 21)
theorem roster_in {d : List (List Int)} {n : Int} (h : rosterB d n = true) : 1 ≤ n ∧ n ≤ 9 ∧ ∀ l ∈ d, ∀ x ∈ l, 0 ≤ x ∧ x < n := by
  simp only [rosterB, Bool.and_eq_true, decide_eq_true_eq, List.all_eq_true] at h
  obtain ⟨⟨h1, h2, h3⟩, _⟩ := h
  refine ⟨h2, h3, fun l hl x hx => ?_⟩
  have := h1 l hl
  rw [wrap64 (by omega) (by omega)] at this
  have := rising_in (by simpa [risingAt] using this) x hx
  omega
theorem roster_len {d : List (List Int)} {n : Int} (h : rosterB d n = true) : d.length ≤ 21 := by
  simp only [rosterB, Bool.and_eq_true, decide_eq_true_eq] at h
  omega

set_option maxHeartbeats 1000000 in
theorem duRoster_con (d : List (List Int)) (n : Int) (hd : d.length ≤ 1048576) (hds : ∀ l ∈ d, l.length ≤ 1048576) : Con Tryd.prog 116 [.sl (d.map fun l => V.sl (l.map (V.int .i64))), .int .i64 n] [] (.bool (rosterB d n)) [] := by
 refine v_con [.tmp 4] [] Tryd.func116 rfl rfl rfl (by simp [Tryd.ntmps116]) ?_
 intro Q0 n0 r0
 simp only [Tryd.ntmps116, envFrom, Nat.reduceAdd]
 have T := Tys.mk (And.intro Ty.t3 (And.intro Ty.t4 (And.intro Ty.t37 Ty.t48)))
 have F := Fc.mk True.intro
 refine v_seqR [0,1] ?_; intro K1 k1
 refine zAssign ⟨?_⟩
 refine k1 _ ?_
 refine zk ⟨?_⟩
 refine v_seq ?_; intro Q2 n2 e2 r2
 refine v_seqR [0,1,7,8,9] ?_; intro K3 k3
 refine zMove ⟨?_⟩
 refine zLen ⟨?_⟩
 refine zMove ⟨?_⟩
 refine k3 _ ?_
 refine zk ⟨?_⟩
 refine v_block ?_; intro Q4 n4 x4 e4 r4
 refine v_loop (fun i => ⟨[(0, .sl (d.map fun l => V.sl (l.map (V.int .i64)))), (1, .int .i64 n), (7, .sl (d.map fun l => V.sl (l.map (V.int .i64)))), (8, .int .i64 d.length), (9, .int .i64 (Nat.cast i))], [], false, 26, 0⟩) (fun i => i ≤ d.length ∧ d.all (fun l => risingAt 0 (IntKind.i64.wrap (n - 1)) l 0) = (d.drop i).all (fun l => risingAt 0 (IntKind.i64.wrap (n - 1)) l 0)) (fun i => d.length - i) 0 ?_ ?_ ?_
 ·refine weak_of [0, 1, 7, 8, 9] ?_
  simp only [keep_mk, keepE_nil, keepE_cons, look_cons, look_nil, Nat.reduceEqDiff, reduceIte]
  rfl
 ·exact ⟨Nat.zero_le _, by simp⟩
 ·rintro i hok5 Q5 n5 e5 r5
  obtain ⟨hi1, hR⟩ := hok5
  refine v_seqR [0,1,7,8,9,10] ?_; intro K6 k6
  refine zBinOp ⟨?_⟩
  refine k6 _ ?_
  refine zk ⟨?_⟩
  refine v_seq ?_; intro Q7 n7 e7 r7
  refine v_condS _ rfl ?_ ?_
  ·intro hc0
   have hlt : i < d.length := by omega
   obtain ⟨x, hx⟩ : ∃ x, d[i]? = some x := ⟨d[i], List.getElem?_eq_getElem hlt⟩
   have hlx : x.length ≤ 1048576 := hds x (List.mem_of_getElem? hx)
   have hstep := all_drop (f := (fun l => risingAt 0 (IntKind.i64.wrap (n - 1)) l 0)) hx
   refine v_skip ?_
   refine n7 _ _ (weak_keep [0, 1, 7, 8, 9] _) ?_
   refine zk ⟨?_⟩
   refine v_seq ?_; intro Q9 n9 e9 r9
   refine v_block ?_; intro Q10 n10 x10 e10 r10
   refine v_seqR [0,1,6,7,8,9] ?_; intro K11 k11
   have F := Fc.mk (fun f => getD_map (f := f) hx)
   refine zIndexAddr ⟨?_⟩
   refine zLoad ⟨?_⟩
   refine zAssign ⟨?_⟩
   refine k11 _ ?_
   refine zk ⟨?_⟩
   refine v_seqR [0,1,7,8,9,17] ?_; intro K12 k12
   refine zMove ⟨?_⟩
   refine zMove ⟨?_⟩
   refine zBinOpW ⟨?_⟩
   refine zc (l1Rising_con x 0 _ hlx) ⟨?_⟩
   refine zUnOp ⟨?_⟩
   refine k12 _ ?_
   refine zk ⟨?_⟩
   refine v_condS _ rfl ?_ ?_
   ·intro hc1
    refine v_seqR [4] ?_; intro K14 k14
    refine zAssign ⟨?_⟩
    refine k14 _ ?_
    refine zk ⟨?_⟩
    refine v_ret ?_
    refine r10 _ ?_
    refine r9 _ ?_
    refine r5 _ ?_
    refine r4 _ ?_
    refine r2 _ ?_
    refine r0 _ ?_
    refine zf ⟨?_⟩
    exact ret_pure rfl (by rw [rosterB, hR, hstep, hc1]; simp) (.inl rfl)
   ·intro hc1
    refine v_skip ?_
    refine n10 _ ?_
    refine n9 _ _ (weak_keep [0, 1, 7, 8, 9] _) ?_
    refine zk ⟨?_⟩
    refine v_region ?_; intro K15 k15
    refine zBinOpW ⟨?_⟩
    refine zMove ⟨?_⟩
    refine k15 _ ?_
    refine n5 _ (i + 1) ?_ ?_ ?_
    ·refine weak_of [0, 1, 7, 8, 9] ?_
     simp only [keep_mk, keepE_nil, keepE_cons, look_cons, look_nil, Nat.reduceEqDiff, reduceIte]
     rfl
    ·exact ⟨by omega, by rw [hR, hstep, hc1]; simp⟩
    ·show _ < _; omega
  ·intro hc0
   refine v_exit ?_
   refine e7 _ _ ?_
   refine e5 _ _ ?_
   refine x4 _ ?_
   refine n2 _ _ (weak_keep [0, 1] _) ?_
   refine zk ⟨?_⟩
   refine v_seqR [4] ?_; intro K16 k16
   refine zMove ⟨?_⟩
   refine zc (duPeople_con _) ⟨?_⟩
   refine zMove ⟨?_⟩
   refine zgMove ⟨?_⟩
   refine zgLen ⟨?_⟩
   refine zgBinOp ⟨?_⟩
   refine zPick ⟨?_⟩
   refine zAssign ⟨?_⟩
   refine k16 _ ?_
   refine zk ⟨?_⟩
   refine v_ret ?_
   refine r0 _ ?_
   refine zf ⟨?_⟩
   exact ret_pure rfl (by rw [List.drop_of_length_le (by omega), List.all_nil] at hR; simp only [rosterB, hR]; simp [Bool.and_comm, Bool.and_left_comm, Bool.and_assoc]) (.inl rfl)
set_option maxHeartbeats 1000000 in
theorem isRoster_con (d : List (List Int)) (n : Int) (hd : d.length ≤ 1048576) (hds : ∀ l ∈ d, l.length ≤ 1048576) : Con Tryd.prog 118 [.sl (d.map fun l => V.sl (l.map (V.int .i64))), .int .i64 n] [] (.bool (rosterB d n)) [] := by
 refine v_con [.tmp 4] [] Tryd.func118 rfl rfl rfl (by simp [Tryd.ntmps118]) ?_
 intro Q0 n0 r0
 simp only [Tryd.ntmps118, envFrom, Nat.reduceAdd]
 have T := Tys.mk (And.intro Ty.t3 (And.intro Ty.t4 (And.intro Ty.t37 Ty.t48)))
 have F := Fc.mk True.intro
 refine v_seqR [0,1] ?_; intro K1 k1
 refine zAssign ⟨?_⟩
 refine k1 _ ?_
 refine zk ⟨?_⟩
 refine v_seq ?_; intro Q2 n2 e2 r2
 refine v_seqR [0,1,9,10,11] ?_; intro K3 k3
 refine zMove ⟨?_⟩
 refine zLen ⟨?_⟩
 refine zMove ⟨?_⟩
 refine k3 _ ?_
 refine zk ⟨?_⟩
 refine v_block ?_; intro Q4 n4 x4 e4 r4
 refine v_loop (fun i => ⟨[(0, .sl (d.map fun l => V.sl (l.map (V.int .i64)))), (1, .int .i64 n), (9, .sl (d.map fun l => V.sl (l.map (V.int .i64)))), (10, .int .i64 d.length), (11, .int .i64 (Nat.cast i))], [], false, 49, 0⟩) (fun i => i ≤ d.length ∧ d.all (fun l => risingAt 0 (IntKind.i64.wrap (n - 1)) l 0) = (d.drop i).all (fun l => risingAt 0 (IntKind.i64.wrap (n - 1)) l 0)) (fun i => d.length - i) 0 ?_ ?_ ?_
 ·refine weak_of [0, 1, 9, 10, 11] ?_
  simp only [keep_mk, keepE_nil, keepE_cons, look_cons, look_nil, Nat.reduceEqDiff, reduceIte]
  rfl
 ·exact ⟨Nat.zero_le _, by simp⟩
 ·rintro i hok5 Q5 n5 e5 r5
  obtain ⟨hi1, hR⟩ := hok5
  refine v_seqR [0,1,9,10,11,12] ?_; intro K6 k6
  refine zBinOp ⟨?_⟩
  refine k6 _ ?_
  refine zk ⟨?_⟩
  refine v_seq ?_; intro Q7 n7 e7 r7
  refine v_condS _ rfl ?_ ?_
  ·intro hc0
   have hlt : i < d.length := by omega
   obtain ⟨x, hx⟩ : ∃ x, d[i]? = some x := ⟨d[i], List.getElem?_eq_getElem hlt⟩
   have hlx : x.length ≤ 1048576 := hds x (List.mem_of_getElem? hx)
   have hstep := all_drop (f := (fun l => risingAt 0 (IntKind.i64.wrap (n - 1)) l 0)) hx
   refine v_skip ?_
   refine n7 _ _ (weak_keep [0, 1, 9, 10, 11] _) ?_
   refine zk ⟨?_⟩
   refine v_seq ?_; intro Q9 n9 e9 r9
   refine v_block ?_; intro Q10 n10 x10 e10 r10
   refine v_seqR [0,1,6,9,10,11] ?_; intro K11 k11
   have F := Fc.mk (fun f => getD_map (f := f) hx)
   refine zIndexAddr ⟨?_⟩
   refine zLoad ⟨?_⟩
   refine zAssign ⟨?_⟩
   refine k11 _ ?_
   refine zk ⟨?_⟩
   refine v_seqR [0,1,6,9,10,11,15,16,17] ?_; intro K12 k12
   refine zMove ⟨?_⟩
   refine zLen ⟨?_⟩
   refine zMove ⟨?_⟩
   refine k12 _ ?_
   refine zk ⟨?_⟩
   refine v_block ?_; intro Q13 n13 x13 e13 r13
   refine v_loop (fun j => ⟨[(0, .sl (d.map fun l => V.sl (l.map (V.int .i64)))), (1, .int .i64 n), (6, .sl (x.map (V.int .i64))), (9, .sl (d.map fun l => V.sl (l.map (V.int .i64)))), (10, .int .i64 d.length), (11, .int .i64 (Nat.cast i)), (15, .sl (x.map (V.int .i64))), (16, .int .i64 x.length), (17, .int .i64 (Nat.cast j))], [], false, 49, 0⟩) (fun j => j ≤ x.length ∧ risingAt 0 (IntKind.i64.wrap (n - 1)) x j = risingAt 0 (IntKind.i64.wrap (n - 1)) x 0) (fun j => x.length - j) 0 ?_ ?_ ?_
   ·refine weak_of [0, 1, 6, 9, 10, 11, 15, 16, 17] ?_
    simp only [keep_mk, keepE_nil, keepE_cons, look_cons, look_nil, Nat.reduceEqDiff, reduceIte]
    rfl
   ·exact ⟨Nat.zero_le _, rfl⟩
   ·rintro j hok14 Q14 n14 e14 r14
    obtain ⟨hj1, hR2⟩ := hok14
    refine v_seqR [0,1,6,9,10,11,15,16,17,18] ?_; intro K15 k15
    refine zBinOp ⟨?_⟩
    refine k15 _ ?_
    refine zk ⟨?_⟩
    refine v_seq ?_; intro Q16 n16 e16 r16
    refine v_condS _ rfl ?_ ?_
    ·intro hc1
     have hltj : j < x.length := by omega
     obtain ⟨y, hy⟩ : ∃ y, x[j]? = some y := ⟨x[j], List.getElem?_eq_getElem hltj⟩
     rcases Nat.eq_zero_or_pos j with h0 | h0
     ·skip
      have hj0 : ¬ ((0 : Int) < (j : Int)) := by omega
      have hst : risingAt 0 (IntKind.i64.wrap (n - 1)) x j = (inR y 0 (IntKind.i64.wrap (n - 1)) && risingAt 0 (IntKind.i64.wrap (n - 1)) x (j + 1)) := by subst h0; exact risingAt_zero hy
      refine v_skip ?_
      refine n16 _ _ (weak_keep [0, 1, 6, 9, 10, 11, 15, 16, 17] _) ?_
      refine zk ⟨?_⟩
      refine v_seq ?_; intro Q18 n18 e18 r18
      refine v_block ?_; intro Q19 n19 x19 e19 r19
      refine v_seqR [0,1,6,7,8,9,10,11,15,16,17] ?_; intro K20 k20
      have F := Fc.mk (And.intro (fun f => getD_map (f := f) hx) (And.intro (fun f => getD_map (f := f) hy) (And.intro hj0 (And.intro @decide_false @Bool.and_false))))
      refine zMove ⟨?_⟩
      refine zIndexAddr ⟨?_⟩
      refine zLoad ⟨?_⟩
      refine zAssign ⟨?_⟩
      refine zAssign ⟨?_⟩
      refine k20 _ ?_
      refine zk ⟨?_⟩
      refine v_seqR [0,1,6,9,10,11,15,16,17,39] ?_; intro K21 k21
      refine zMove ⟨?_⟩
      refine zMove ⟨?_⟩
      refine zBinOpW ⟨?_⟩
      refine zc (inside_con _ _ _) ⟨?_⟩
      refine zUnOp ⟨?_⟩
      refine zMove ⟨?_⟩
      refine zgMove ⟨?_⟩
      refine zgBinOp ⟨?_⟩
      refine zgMove ⟨?_⟩
      refine zgMove ⟨?_⟩
      refine zgMove ⟨?_⟩
      refine zgBinOpW ⟨?_⟩
      refine zgIndexAddr ⟨?_⟩
      refine zgLoad ⟨?_⟩
      refine zgMove ⟨?_⟩
      refine zgBinOp ⟨?_⟩
      refine zgPick ⟨?_⟩
      refine zPick ⟨?_⟩
      refine k21 _ ?_
      refine zk ⟨?_⟩
      refine v_condS _ rfl ?_ ?_
      ·intro hc2
       refine v_seqR [4] ?_; intro K23 k23
       refine zAssign ⟨?_⟩
       refine k23 _ ?_
       refine zk ⟨?_⟩
       refine v_ret ?_
       refine r19 _ ?_
       refine r18 _ ?_
       refine r14 _ ?_
       refine r13 _ ?_
       refine r10 _ ?_
       refine r9 _ ?_
       refine r5 _ ?_
       refine r4 _ ?_
       refine r2 _ ?_
       refine r0 _ ?_
       refine zf ⟨?_⟩
       exact ret_pure rfl (by rw [rosterB, hR, hstep, ← hR2, hst]; simp [inR]; intros; omega) (.inl rfl)
      ·intro hc2
       refine v_skip ?_
       refine n19 _ ?_
       refine n18 _ _ (weak_keep [0, 1, 6, 9, 10, 11, 15, 16, 17] _) ?_
       refine zk ⟨?_⟩
       refine v_region ?_; intro K24 k24
       refine zBinOpW ⟨?_⟩
       refine zMove ⟨?_⟩
       refine k24 _ ?_
       refine n14 _ (j + 1) ?_ ?_ ?_
       ·refine weak_of [0, 1, 6, 9, 10, 11, 15, 16, 17] ?_
        simp only [keep_mk, keepE_nil, keepE_cons, look_cons, look_nil, Nat.reduceEqDiff, reduceIte]
        rfl
       ·exact ⟨by omega, by rw [← hR2, hst]; simp [inR]; intros; omega⟩
       ·show _ < _; omega
     ·skip
      obtain ⟨z, hz⟩ : ∃ z, x[j - 1]? = some z := ⟨x[j - 1], List.getElem?_eq_getElem (by omega)⟩
      have hj0 : (0 : Int) < j := by omega
      have hk : ((j : Int) - 1).toNat = j - 1 := by omega
      have hst := risingAt_succ (lo := 0) (hi := IntKind.i64.wrap (n - 1)) h0 hz hy
      refine v_skip ?_
      refine n16 _ _ (weak_keep [0, 1, 6, 9, 10, 11, 15, 16, 17] _) ?_
      refine zk ⟨?_⟩
      refine v_seq ?_; intro Q25 n25 e25 r25
      refine v_block ?_; intro Q26 n26 x26 e26 r26
      refine v_seqR [0,1,6,7,8,9,10,11,15,16,17] ?_; intro K27 k27
      have F := Fc.mk (And.intro (fun f => getD_map (f := f) hx) (And.intro (fun f => getD_map (f := f) hy) (And.intro hj0 (And.intro hk (And.intro (fun f => getD_map (f := f) hz) (And.intro @decide_true @Bool.and_true))))))
      refine zMove ⟨?_⟩
      refine zIndexAddr ⟨?_⟩
      refine zLoad ⟨?_⟩
      refine zAssign ⟨?_⟩
      refine zAssign ⟨?_⟩
      refine k27 _ ?_
      refine zk ⟨?_⟩
      refine v_seqR [0,1,6,9,10,11,15,16,17,39] ?_; intro K28 k28
      refine zMove ⟨?_⟩
      refine zMove ⟨?_⟩
      refine zBinOpW ⟨?_⟩
      refine zc (inside_con _ _ _) ⟨?_⟩
      refine zUnOp ⟨?_⟩
      refine zMove ⟨?_⟩
      refine zgMove ⟨?_⟩
      refine zgBinOp ⟨?_⟩
      refine zgMove ⟨?_⟩
      refine zgMove ⟨?_⟩
      refine zgMove ⟨?_⟩
      refine zgBinOpW ⟨?_⟩
      refine zgIndexAddr ⟨?_⟩
      refine zgLoad ⟨?_⟩
      refine zgMove ⟨?_⟩
      refine zgBinOp ⟨?_⟩
      refine zgPick ⟨?_⟩
      refine zPick ⟨?_⟩
      refine k28 _ ?_
      refine zk ⟨?_⟩
      refine v_condS _ rfl ?_ ?_
      ·intro hc2
       refine v_seqR [4] ?_; intro K30 k30
       refine zAssign ⟨?_⟩
       refine k30 _ ?_
       refine zk ⟨?_⟩
       refine v_ret ?_
       refine r26 _ ?_
       refine r25 _ ?_
       refine r14 _ ?_
       refine r13 _ ?_
       refine r10 _ ?_
       refine r9 _ ?_
       refine r5 _ ?_
       refine r4 _ ?_
       refine r2 _ ?_
       refine r0 _ ?_
       refine zf ⟨?_⟩
       exact ret_pure rfl (by rw [rosterB, hR, hstep, ← hR2, hst]; simp [inR]; intros; omega) (.inl rfl)
      ·intro hc2
       refine v_skip ?_
       refine n26 _ ?_
       refine n25 _ _ (weak_keep [0, 1, 6, 9, 10, 11, 15, 16, 17] _) ?_
       refine zk ⟨?_⟩
       refine v_region ?_; intro K31 k31
       refine zBinOpW ⟨?_⟩
       refine zMove ⟨?_⟩
       refine k31 _ ?_
       refine n14 _ (j + 1) ?_ ?_ ?_
       ·refine weak_of [0, 1, 6, 9, 10, 11, 15, 16, 17] ?_
        simp only [keep_mk, keepE_nil, keepE_cons, look_cons, look_nil, Nat.reduceEqDiff, reduceIte]
        rfl
       ·exact ⟨by omega, by rw [← hR2, hst]; simp [inR]; intros; omega⟩
       ·show _ < _; omega
    ·intro hc1
     refine v_exit ?_
     refine e16 _ _ ?_
     refine e14 _ _ ?_
     refine x13 _ ?_
     refine n10 _ ?_
     refine n9 _ _ (weak_keep [0, 1, 9, 10, 11] _) ?_
     refine zk ⟨?_⟩
     refine v_region ?_; intro K32 k32
     refine zBinOpW ⟨?_⟩
     refine zMove ⟨?_⟩
     refine k32 _ ?_
     refine n5 _ (i + 1) ?_ ?_ ?_
     ·refine weak_of [0, 1, 9, 10, 11] ?_
      simp only [keep_mk, keepE_nil, keepE_cons, look_cons, look_nil, Nat.reduceEqDiff, reduceIte]
      rfl
     ·exact ⟨by omega, by rw [hR, hstep, ← hR2, risingAt_end (by omega)]; simp⟩
     ·show _ < _; omega
  ·intro hc0
   refine v_exit ?_
   refine e7 _ _ ?_
   refine e5 _ _ ?_
   refine x4 _ ?_
   refine n2 _ _ (weak_keep [0, 1] _) ?_
   refine zk ⟨?_⟩
   refine v_seqR [4] ?_; intro K33 k33
   refine zMove ⟨?_⟩
   refine zLen ⟨?_⟩
   refine zBinOp ⟨?_⟩
   refine zMove ⟨?_⟩
   refine zgMove ⟨?_⟩
   refine zgc (inside_con _ _ _) ⟨?_⟩
   refine zPick ⟨?_⟩
   refine zAssign ⟨?_⟩
   refine k33 _ ?_
   refine zk ⟨?_⟩
   refine v_ret ?_
   refine r0 _ ?_
   refine zf ⟨?_⟩
   exact ret_pure rfl (by rw [List.drop_of_length_le (by omega), List.all_nil] at hR; simp only [rosterB, hR]; simp [Bool.and_comm, Bool.and_left_comm, Bool.and_assoc]) (.inl rfl)
def bump (c : List Int) (x : Int) : List Int := c.set x.toNat (IntKind.i64.wrap (c.getD x.toNat 0 + 1))
def shiftsL (d : List (List Int)) (c : List Int) : List Int := d.foldl (fun c l => l.foldl bump c) c
theorem bump_len (c : List Int) (x : Int) : (bump c x).length = c.length := by simp [bump]
theorem bumps_len (l c : List Int) : (l.foldl bump c).length = c.length := by
  induction l generalizing c with
  | nil => rfl
  | cons x l ih => rw [List.foldl_cons, ih, bump_len]
theorem shiftsL_len (d : List (List Int)) (c : List Int) : (shiftsL d c).length = c.length := by
  induction d generalizing c with
  | nil => rfl
  | cons x l ih =>
    have := ih (x.foldl bump c)
    rw [bumps_len] at this
    exact this
def shiftsOf (d : List (List Int)) (n : Int) : List Int := shiftsL d (List.replicate n.toNat 0)
theorem shiftsOf_len (d : List (List Int)) (n : Int) : (shiftsOf d n).length = n.toNat := by rw [shiftsOf, shiftsL_len, List.length_replicate]

end Go.Proofs.YtmlicajgbgjphaaDoor
