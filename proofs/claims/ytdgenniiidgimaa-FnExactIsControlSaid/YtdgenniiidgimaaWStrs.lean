/- What functions compute (Strs). No condition. -/
import Derived.Test.YtdgenniiidgimaaTy
import Derived.Test.YtdgenniiidgimaaVmG
import Derived.Test.YtdgenniiidgimaaWSzL
import Derived.Test.YtdgenniiidgimaaWBase
set_option linter.unusedSimpArgs false
set_option linter.unusedVariables false
set_option linter.defProp false
namespace Go.Proofs.Ytdgenniiidgimaa
open Go Go.Vm

def szStr1 (n : Int) (s : ByteArray) : Int := if n - (s.size : Int) < 0 then -1 else n - (s.size : Int)
theorem szStr1_le (n : Int) (s : ByteArray) (hn : 0 ≤ n) : szStr1 n s ≤ n := by
  unfold szStr1; split <;> omega

set_option maxHeartbeats 1000000 in
theorem toStringS_con (l : List ByteArray) (hl : l.length ≤ 1048576) : Con Try.prog 61 [.sl (l.map V.str)] [] (.ref 0) [.arr (l.map V.str) .flat] := by
 refine v_con [.tmp 2] [] Try.func61 rfl rfl rfl (by simp [Try.ntmps61]) ?_
 intro Q0 n0 r0
 simp only [Try.ntmps61, envFrom, Nat.reduceAdd]
 have T := Tys.mk (And.intro Ty.t3 (And.intro Ty.t9 Ty.t93))
 have F := Fc.mk True.intro
 refine v_seq ?_; intro Q1 n1 e1 r1
 refine v_region ?_; intro K2 k2
 refine zAssign ⟨?_⟩
 refine k2 _ ?_
 refine n1 _ _ (weak_keep [0] _) ?_
 refine zk ⟨?_⟩
 refine v_seq ?_; intro Q3 n3 e3 r3
 refine v_region ?_; intro K4 k4
 refine zMove ⟨?_⟩
 refine zLen ⟨?_⟩
 refine zMakeSlice ⟨?_⟩
 refine zAssign ⟨?_⟩
 refine k4 _ ?_
 refine n3 _ _ (weak_keep [0, 3] _) ?_
 refine zk ⟨?_⟩
 refine v_seq ?_; intro Q5 n5 e5 r5
 refine v_seq ?_; intro Q6 n6 e6 r6
 refine v_region ?_; intro K7 k7
 refine zAssign ⟨?_⟩
 refine k7 _ ?_
 refine n6 _ _ (weak_keep [0, 3, 4] _) ?_
 refine zk ⟨?_⟩
 refine v_block ?_; intro Q8 n8 x8 e8 r8
 refine v_loop (fun i => ⟨[(0, .sl (l.map V.str)), (3, .ref 0), (4, .int .i64 (Nat.cast i))], [.arr (fillTo V.str (V.str .empty) l i) .flat], false, 22, 0⟩) (fun i => i ≤ l.length) (fun i => l.length - i) 0 ?_ ?_ ?_
 ·refine weak_bothS [0, 3, 4] [1] ⟨?_⟩
  rw [fill_zero]; rfl
 ·exact Nat.zero_le _
 ·rintro i hok9 Q9 n9 e9 r9
  have hi1 : i ≤ l.length := hok9
  refine v_seq ?_; intro Q10 n10 e10 r10
  refine v_seq ?_; intro Q11 n11 e11 r11
  refine v_region ?_; intro K12 k12
  refine zMove ⟨?_⟩
  refine zMove ⟨?_⟩
  refine zLen ⟨?_⟩
  refine zBinOp ⟨?_⟩
  refine k12 _ ?_
  refine n11 _ _ (weak_keep [0, 3, 4, 11] _) ?_
  refine zk ⟨?_⟩
  refine v_condS _ rfl ?_ ?_
  ·intro hc0
   have hlt : i < l.length := by omega
   obtain ⟨x, hx⟩ : ∃ x, l[i]? = some x := ⟨l[i], List.getElem?_eq_getElem hlt⟩
   refine v_skip ?_
   refine n10 _ _ (weak_keep [0, 3, 4] _) ?_
   refine zk ⟨?_⟩
   refine v_seq ?_; intro Q14 n14 e14 r14
   refine v_block ?_; intro Q15 n15 x15 e15 r15
   refine v_region ?_; intro K16 k16
   have F := Fc.mk (And.intro (fun f => getD_map (f := f) hx) (And.intro (fun f z => fill_len (f := f) (z := z) hi1) (And.intro (fun f z => fill_get (f := f) (z := z) hlt) (fun f z => fill_set (f := f) (z := z) hx))))
   refine zMove ⟨?_⟩
   refine zMove ⟨?_⟩
   refine zMove ⟨?_⟩
   refine zMove ⟨?_⟩
   refine v_op ?_; intro K k
   simp only [zE, zL, zN, aStepM, optable, set_some, Nat.reduceEqDiff, reduceIte, Nat.reduceLT, implies_true, forall_const, reduceCtorEq, V.ofValue, V.ofScalar, V.un, V.gd, aExec, aop, List.mem_cons, List.not_mem_nil, or_false, forall_eq_or_imp, forall_eq, aIndexAddr, row_mk, Blk.row, Go.Vm.V.cells, List.forall_mem_map, List.length_map, Int.toNat_natCast, Int.reduceToNat, TypeDesc.slice.injEq, Nat.reduceAdd, Nat.reduceLeDiff, Nat.reduceMul, Try.underlying9, Ty.c9, Ty.a9, Try.underlying93, Ty.c93, Ty.a93, getD_map hx, fill_len hi1, fill_get hlt, fill_set hx]
   repeat (refine And.intro (by first | omega | (exact fill_all (fun _ => rfl) rfl) | (intros; omega) | (intros; simp_all; done) | (intros; simp_all; omega)) ?_)
   refine k _ ?_; clear k K
   refine zLoad ⟨?_⟩
   refine v_op ?_; intro K k
   simp only [zE, zL, zN, aStepM, optable, set_some, Nat.reduceEqDiff, reduceIte, Nat.reduceLT, implies_true, forall_const, reduceCtorEq, V.ofValue, V.ofScalar, V.un, V.gd, aExec, aop, List.mem_cons, List.not_mem_nil, or_false, forall_eq_or_imp, forall_eq, aIndexAddr, row_mk, Blk.row, Go.Vm.V.cells, List.forall_mem_map, List.length_map, Int.toNat_natCast, Int.reduceToNat, TypeDesc.slice.injEq, Nat.reduceAdd, Nat.reduceLeDiff, Nat.reduceMul, Try.underlying9, Ty.c9, Ty.a9, Try.underlying93, Ty.c93, Ty.a93, getD_map hx, fill_len hi1, fill_get hlt, fill_set hx]
   repeat (refine And.intro (by first | omega | (exact fill_all (fun _ => rfl) rfl) | (intros; omega) | (intros; simp_all; done) | (intros; simp_all; omega)) ?_)
   refine k _ ?_; clear k K
   refine v_op ?_; intro K k
   simp only [zE, zS, zJ, zL, zO, zN, aStepM, optable, set_some, Nat.reduceEqDiff, reduceIte, Nat.reduceLT, implies_true, forall_const, reduceCtorEq, V.ofValue, V.ofScalar, V.un, V.gd, aExec, aop, aStore, setCells, V.isVal, V.cells, kindOf, kindAll, V.noSl, V.noRef, gt_iff_lt, Nat.reduceAdd, Nat.reduceLeDiff, Nat.reduceMul, takeV, takeCell, takeCells, row_mk, Blk.row, killAll, Nat.reduceBEq, join_t, Try.underlying9, Ty.c9, Ty.a9, getD_map hx, fill_len hi1, fill_get hlt, fill_set hx]
   repeat (refine And.intro (by first | omega | (exact fill_all (fun _ => rfl) rfl) | (intros; omega) | (intros; simp_all; done) | (intros; simp_all; omega)) ?_)
   refine k _ ?_; clear k K
   refine k16 _ ?_
   refine n15 _ ?_
   refine n14 _ _ (weak_keep [0, 3, 4] _) ?_
   refine zk ⟨?_⟩
   refine v_region ?_; intro K17 k17
   refine zMove ⟨?_⟩
   refine zBinOpW ⟨?_⟩
   refine zAssign ⟨?_⟩
   refine k17 _ ?_
   refine n9 _ (i + 1) ?_ ?_ ?_
   ·refine weak_bothS [0, 3, 4] [0] ⟨?_⟩
    rfl
   ·exact hlt
   ·show _ < _; omega
  ·intro hc0
   refine v_exit ?_
   refine e10 _ _ ?_
   refine e9 _ _ ?_
   refine x8 _ ?_
   refine n5 _ _ (weak_keep [3] _) ?_
   refine zk ⟨?_⟩
   refine v_seq ?_; intro Q18 n18 e18 r18
   refine v_region ?_; intro K19 k19
   refine zMove ⟨?_⟩
   refine zAssign ⟨?_⟩
   refine k19 _ ?_
   refine n18 _ _ (weak_keep [2] _) ?_
   refine zk ⟨?_⟩
   refine v_ret ?_
   refine r0 _ ?_
   refine zf ⟨?_⟩
   rw [← fill_end (f := V.str) (z := (V.str .empty)) (show l.length ≤ i by omega)]
   exact ret_ref rfl (.inl rfl)
set_option maxHeartbeats 1000000 in
theorem szStringS_con (n : Int) (l : List ByteArray) (hn : 0 ≤ n ∧ n ≤ 1048576) (hl : l.length ≤ 9223372036854775807) (hls : ∀ s ∈ l, s.size ≤ 9223372036854775807) : Con Try.prog 59 [.sl (l.map V.str), .int .i64 n] [] (.int .i64 (if n - (l.length : Int) < 0 then -1 else szLst szStr1 (n - (l.length : Int)) l)) [] := by
 refine v_con [.tmp 4] [] Try.func59 rfl rfl rfl (by simp [Try.ntmps59]) ?_
 intro Q0 n0 r0
 simp only [Try.ntmps59, envFrom, Nat.reduceAdd]
 have T := Tys.mk (And.intro Ty.t3 (And.intro Ty.t9 Ty.t93))
 have F := Fc.mk True.intro
 refine v_seq ?_; intro Q1 n1 e1 r1
 refine v_region ?_; intro K2 k2
 refine zAssign ⟨?_⟩
 refine k2 _ ?_
 refine n1 _ _ (weak_keep [0, 1] _) ?_
 refine zk ⟨?_⟩
 refine v_seq ?_; intro Q3 n3 e3 r3
 refine v_region ?_; intro K4 k4
 refine zMove ⟨?_⟩
 refine zMove ⟨?_⟩
 refine zLen ⟨?_⟩
 refine zBinOpW ⟨?_⟩
 refine zAssign ⟨?_⟩
 refine k4 _ ?_
 refine n3 _ _ (weak_keep [0, 1] _) ?_
 refine zk ⟨?_⟩
 refine v_seq ?_; intro Q5 n5 e5 r5
 refine v_seq ?_; intro Q6 n6 e6 r6
 refine v_region ?_; intro K7 k7
 refine zMove ⟨?_⟩
 refine zBinOp ⟨?_⟩
 refine k7 _ ?_
 refine n6 _ _ (weak_keep [0, 1, 11] _) ?_
 refine zk ⟨?_⟩
 refine v_condS _ rfl ?_ ?_
 ·intro hc0
  refine v_seq ?_; intro Q9 n9 e9 r9
  refine v_region ?_; intro K10 k10
  refine zAssign ⟨?_⟩
  refine k10 _ ?_
  refine n9 _ _ (weak_keep [4] _) ?_
  refine zk ⟨?_⟩
  refine v_ret ?_
  refine r5 _ ?_
  refine r0 _ ?_
  refine zf ⟨?_⟩
  exact ret_pure rfl (by rw [if_pos (by omega)]) (.inl rfl)
 ·intro hc0
  refine v_skip ?_
  refine n5 _ _ (weak_keep [0, 1] _) ?_
  refine zk ⟨?_⟩
  refine v_seq ?_; intro Q11 n11 e11 r11
  refine v_seq ?_; intro Q12 n12 e12 r12
  refine v_region ?_; intro K13 k13
  refine zAssign ⟨?_⟩
  refine k13 _ ?_
  refine n12 _ _ (weak_keep [0, 1, 5] _) ?_
  refine zk ⟨?_⟩
  refine v_block ?_; intro Q14 n14 x14 e14 r14
  refine v_loop (fun p => ⟨[(0, .sl (l.map V.str)), (1, .int .i64 p.2), (5, .int .i64 (Nat.cast p.1))], [], false, 28, 0⟩) (fun p => p.1 ≤ l.length ∧ 0 ≤ p.2 ∧ p.2 ≤ 1048576 ∧ szLst szStr1 p.2 (l.drop p.1) = szLst szStr1 (n - (l.length : Int)) l) (fun p => l.length - p.1) (0, n - (l.length : Int)) ?_ ?_ ?_
  ·refine weak_of [0, 1, 5] ?_
   simp only [keep_mk, keepE_nil, keepE_cons, look_cons, look_nil, Nat.reduceEqDiff, reduceIte]
   rfl
  ·exact ⟨Nat.zero_le _, by omega, by omega, by simp⟩
  ·rintro ⟨i, m⟩ hok15 Q15 n15 e15 r15
   obtain ⟨hi1, hm0, hm1, hR⟩ := hok15
   simp only [] at hi1 hm0 hm1 hR ⊢
   refine v_seq ?_; intro Q16 n16 e16 r16
   refine v_seq ?_; intro Q17 n17 e17 r17
   refine v_region ?_; intro K18 k18
   refine zMove ⟨?_⟩
   refine zMove ⟨?_⟩
   refine zLen ⟨?_⟩
   refine zBinOp ⟨?_⟩
   refine k18 _ ?_
   refine n17 _ _ (weak_keep [0, 1, 5, 15] _) ?_
   refine zk ⟨?_⟩
   refine v_condS _ rfl ?_ ?_
   ·intro hc1
    have hlt : i < l.length := by omega
    obtain ⟨x, hx⟩ : ∃ x, l[i]? = some x := ⟨l[i], List.getElem?_eq_getElem hlt⟩
    have hlx := hls x (List.mem_of_getElem? hx)
    have hstep : szLst szStr1 m (l.drop i) = if szStr1 m x < 0 then -1 else szLst szStr1 (szStr1 m x) (l.drop (i + 1)) := by rw [getElem_drop_cons hx, szLst]
    refine v_skip ?_
    refine n16 _ _ (weak_keep [0, 1, 5] _) ?_
    refine zk ⟨?_⟩
    refine v_seq ?_; intro Q20 n20 e20 r20
    refine v_block ?_; intro Q21 n21 x21 e21 r21
    refine v_seq ?_; intro Q22 n22 e22 r22
    refine v_region ?_; intro K23 k23
    have F := Fc.mk (fun f => getD_map (f := f) hx)
    refine zMove ⟨?_⟩
    refine zMove ⟨?_⟩
    refine zMove ⟨?_⟩
    refine zIndexAddr ⟨?_⟩
    refine zLoad ⟨?_⟩
    refine zLen ⟨?_⟩
    refine zBinOpW ⟨?_⟩
    refine zAssign ⟨?_⟩
    refine k23 _ ?_
    refine n22 _ _ (weak_keep [0, 1, 5] _) ?_
    refine zk ⟨?_⟩
    refine v_seq ?_; intro Q24 n24 e24 r24
    refine v_region ?_; intro K25 k25
    refine zMove ⟨?_⟩
    refine zBinOp ⟨?_⟩
    refine k25 _ ?_
    refine n24 _ _ (weak_keep [0, 1, 5, 26] _) ?_
    refine zk ⟨?_⟩
    refine v_condS _ rfl ?_ ?_
    ·intro hc2
     have hneg : szStr1 m x = -1 := by rw [szStr1, if_pos hc2]
     refine v_seq ?_; intro Q27 n27 e27 r27
     refine v_region ?_; intro K28 k28
     refine zAssign ⟨?_⟩
     refine k28 _ ?_
     refine n27 _ _ (weak_keep [4] _) ?_
     refine zk ⟨?_⟩
     refine v_ret ?_
     refine r21 _ ?_
     refine r20 _ ?_
     refine r15 _ ?_
     refine r14 _ ?_
     refine r11 _ ?_
     refine r0 _ ?_
     refine zf ⟨?_⟩
     exact ret_pure rfl (by rw [if_neg (by omega), ← hR, hstep, if_pos (by omega)]) (.inl rfl)
    ·intro hc2
     have hpos : szStr1 m x = m - (x.size : Int) := by rw [szStr1, if_neg (by omega)]
     refine v_skip ?_
     refine n21 _ ?_
     refine n20 _ _ (weak_keep [0, 1, 5] _) ?_
     refine zk ⟨?_⟩
     refine v_region ?_; intro K29 k29
     refine zMove ⟨?_⟩
     refine zBinOpW ⟨?_⟩
     refine zAssign ⟨?_⟩
     refine k29 _ ?_
     refine n15 _ (i + 1, m - (x.size : Int)) ?_ ?_ ?_
     ·refine weak_of [0, 1, 5] ?_
      simp only [keep_mk, keepE_nil, keepE_cons, look_cons, look_nil, Nat.reduceEqDiff, reduceIte]
      rfl
     ·exact ⟨by simp only []; omega, by simp only []; omega, by simp only []; omega, by simp only []; rw [← hR, hstep, if_neg (by omega), hpos]⟩
     ·show _ < _; simp only []; omega
   ·intro hc1
    refine v_exit ?_
    refine e16 _ _ ?_
    refine e15 _ _ ?_
    refine x14 _ ?_
    refine n11 _ _ (weak_keep [1] _) ?_
    refine zk ⟨?_⟩
    refine v_seq ?_; intro Q30 n30 e30 r30
    refine v_region ?_; intro K31 k31
    refine zMove ⟨?_⟩
    refine zAssign ⟨?_⟩
    refine k31 _ ?_
    refine n30 _ _ (weak_keep [4] _) ?_
    refine zk ⟨?_⟩
    refine v_ret ?_
    refine r0 _ ?_
    refine zf ⟨?_⟩
    exact ret_pure rfl (by rw [if_neg (by omega), ← hR, List.drop_of_length_le (by omega)]; rfl) (.inl rfl)
set_option maxHeartbeats 1000000 in
theorem eqStringS_con (a b : List ByteArray) (ha : a.length ≤ 1048576) : Con Try.prog 63 [.sl (a.map V.str), .sl (b.map V.str)] [] (.bool (decide (a = b))) [] := by
 refine v_con [.tmp 4] [] Try.func63 rfl rfl rfl (by simp [Try.ntmps63]) ?_
 intro Q0 n0 r0
 simp only [Try.ntmps63, envFrom, Nat.reduceAdd]
 have T := Tys.mk (And.intro Ty.t3 (And.intro Ty.t9 Ty.t93))
 have F := Fc.mk True.intro
 refine v_seq ?_; intro Q1 n1 e1 r1
 refine v_region ?_; intro K2 k2
 refine zAssign ⟨?_⟩
 refine k2 _ ?_
 refine n1 _ _ (weak_keep [0, 1] _) ?_
 refine zk ⟨?_⟩
 refine v_seq ?_; intro Q3 n3 e3 r3
 refine v_seq ?_; intro Q4 n4 e4 r4
 refine v_region ?_; intro K5 k5
 refine zMove ⟨?_⟩
 refine zLen ⟨?_⟩
 refine zMove ⟨?_⟩
 refine zLen ⟨?_⟩
 refine zBinOp ⟨?_⟩
 refine k5 _ ?_
 refine n4 _ _ (weak_keep [0, 1, 10] _) ?_
 refine zk ⟨?_⟩
 refine v_condS _ rfl ?_ ?_
 ·intro hc0
  refine v_seq ?_; intro Q7 n7 e7 r7
  refine v_region ?_; intro K8 k8
  refine zAssign ⟨?_⟩
  refine k8 _ ?_
  refine n7 _ _ (weak_keep [4] _) ?_
  refine zk ⟨?_⟩
  refine v_ret ?_
  refine r3 _ ?_
  refine r0 _ ?_
  refine zf ⟨?_⟩
  exact ret_pure rfl (by rw [decide_eq_false (fun h => by subst h; simp at hc0)]) (.inl rfl)
 ·intro hc0
  have hab : a.length = b.length := by omega
  refine v_skip ?_
  refine n3 _ _ (weak_keep [0, 1] _) ?_
  refine zk ⟨?_⟩
  refine v_seq ?_; intro Q9 n9 e9 r9
  refine v_seq ?_; intro Q10 n10 e10 r10
  refine v_region ?_; intro K11 k11
  refine zAssign ⟨?_⟩
  refine k11 _ ?_
  refine n10 _ _ (weak_keep [0, 1, 5] _) ?_
  refine zk ⟨?_⟩
  refine v_block ?_; intro Q12 n12 x12 e12 r12
  refine v_loop (fun i => ⟨[(0, .sl (a.map V.str)), (1, .sl (b.map V.str)), (5, .int .i64 (Nat.cast i))], [], false, 26, 0⟩) (fun i => i ≤ a.length ∧ ((a = b) ↔ (a.drop i = b.drop i))) (fun i => a.length - i) 0 ?_ ?_ ?_
  ·refine weak_of [0, 1, 5] ?_
   simp only [keep_mk, keepE_nil, keepE_cons, look_cons, look_nil, Nat.reduceEqDiff, reduceIte]
   rfl
  ·exact ⟨Nat.zero_le _, by simp⟩
  ·rintro i hok13 Q13 n13 e13 r13
   obtain ⟨hi1, hR⟩ := hok13
   refine v_seq ?_; intro Q14 n14 e14 r14
   refine v_seq ?_; intro Q15 n15 e15 r15
   refine v_region ?_; intro K16 k16
   refine zMove ⟨?_⟩
   refine zMove ⟨?_⟩
   refine zLen ⟨?_⟩
   refine zBinOp ⟨?_⟩
   refine k16 _ ?_
   refine n15 _ _ (weak_keep [0, 1, 5, 14] _) ?_
   refine zk ⟨?_⟩
   refine v_condS _ rfl ?_ ?_
   ·intro hc1
    have hlt : i < a.length := by omega
    obtain ⟨x, hx⟩ : ∃ x, a[i]? = some x := ⟨a[i], List.getElem?_eq_getElem hlt⟩
    obtain ⟨y, hy⟩ : ∃ y, b[i]? = some y := ⟨b[i], List.getElem?_eq_getElem (by omega)⟩
    have hstep := eq_drop hab hx hy
    refine v_skip ?_
    refine n14 _ _ (weak_keep [0, 1, 5] _) ?_
    refine zk ⟨?_⟩
    refine v_seq ?_; intro Q18 n18 e18 r18
    refine v_block ?_; intro Q19 n19 x19 e19 r19
    refine v_seq ?_; intro Q20 n20 e20 r20
    refine v_draw (by kernel_rfl) ?_; intro K21 q21 k21
    show aAny _ _ _ _ 9 (Array.replicate 9 false) _
    have F := Fc.mk (And.intro (fun f => getD_map (f := f) hx) (fun f => getD_map (f := f) hy))
    refine zdMove q21 true 0 17 ?_
    refine zdMove q21 true 1 18 ?_
    refine zdIndexAddr q21 true 2 19 ?_
    refine zdLoad q21 true 3 20 ?_
    refine zdMove q21 true 4 21 ?_
    refine zdMove q21 true 5 22 ?_
    refine zdIndexAddr q21 true 6 23 ?_
    refine zdLoad q21 true 7 24 ?_
    refine zdBinOp q21 true 8 25 ?_
    refine aAny_done (by kernel_rfl) ?_
    refine k21 _ ?_
    refine n20 _ _ (weak_keep [0, 1, 5, 25] _) ?_
    refine zk ⟨?_⟩
    refine v_condS _ rfl ?_ ?_
    ·intro hc2
     refine v_seq ?_; intro Q23 n23 e23 r23
     refine v_region ?_; intro K24 k24
     refine zAssign ⟨?_⟩
     refine k24 _ ?_
     refine n23 _ _ (weak_keep [4] _) ?_
     refine zk ⟨?_⟩
     refine v_ret ?_
     refine r19 _ ?_
     refine r18 _ ?_
     refine r13 _ ?_
     refine r12 _ ?_
     refine r9 _ ?_
     refine r0 _ ?_
     refine zf ⟨?_⟩
     exact ret_pure rfl (by rw [decide_eq_false (fun h => hc2 (hstep.1 (hR.1 h)).1)]) (.inl rfl)
    ·intro hc2
     refine v_skip ?_
     refine n19 _ ?_
     refine n18 _ _ (weak_keep [0, 1, 5] _) ?_
     refine zk ⟨?_⟩
     refine v_region ?_; intro K25 k25
     refine zMove ⟨?_⟩
     refine zBinOpW ⟨?_⟩
     refine zAssign ⟨?_⟩
     refine k25 _ ?_
     refine n13 _ (i + 1) ?_ ?_ ?_
     ·refine weak_of [0, 1, 5] ?_
      simp only [keep_mk, keepE_nil, keepE_cons, look_cons, look_nil, Nat.reduceEqDiff, reduceIte]
      rfl
     ·exact ⟨by omega, hR.trans (hstep.trans ⟨fun h => h.2, fun h => ⟨hc2, h⟩⟩)⟩
     ·show _ < _; omega
   ·intro hc1
    refine v_exit ?_
    refine e14 _ _ ?_
    refine e13 _ _ ?_
    refine x12 _ ?_
    refine n9 _ _ (weak_keep [] _) ?_
    refine zk ⟨?_⟩
    refine v_seq ?_; intro Q26 n26 e26 r26
    refine v_region ?_; intro K27 k27
    refine zAssign ⟨?_⟩
    refine k27 _ ?_
    refine n26 _ _ (weak_keep [4] _) ?_
    refine zk ⟨?_⟩
    refine v_ret ?_
    refine r0 _ ?_
    refine zf ⟨?_⟩
    exact ret_pure rfl (by rw [decide_eq_true (hR.2 (by rw [List.drop_of_length_le (by omega), List.drop_of_length_le (by omega)]))]) (.inl rfl)
end Go.Proofs.Ytdgenniiidgimaa
