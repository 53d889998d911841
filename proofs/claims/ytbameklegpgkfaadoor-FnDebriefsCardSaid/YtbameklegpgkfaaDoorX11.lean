/- What functions compute. No condition. -/
import Derived.Test.YtbameklegpgkfaaDoorUty
import Derived.Test.YtbameklegpgkfaaDoorUmG
import Derived.Test.YtbameklegpgkfaaDoorX8
set_option linter.unusedSimpArgs false
set_option linter.unusedVariables false
set_option linter.defProp false
namespace Go.Proofs.YtbameklegpgkfaaDoor
open Go Go.Vm

def timesR (l : List (Int × ByteArray × Int × Int)) : List Int := if turnsB l = true then l.map tTime else []
theorem timesR_len (l : List (Int × ByteArray × Int × Int)) : (timesR l).length ≤ l.length := by
  unfold timesR
  split <;> simp
def lateR (l : List (Int × ByteArray × Int × Int)) (lim : Int) : List Int := if (turnsB l && (decide (0 ≤ lim) && decide (lim ≤ 36000))) = true then lateFrom lim 0 l else []
theorem lateR_len (l : List (Int × ByteArray × Int × Int)) (lim : Int) : (lateR l lim).length ≤ l.length := by
  unfold lateR
  split
  · exact late_len lim l 0
  · simp

set_option maxHeartbeats 1000000 in
theorem implTimesOf_con (l : List (Int × ByteArray × Int × Int)) (hl : l.length ≤ 1048576) (hls : ∀ t ∈ l, t.2.1.size ≤ 9223372036854775807) : Con Tryd.prog 28 [.sl (l.map (fun t : Int × ByteArray × Int × Int => V.agg [V.int .i64 t.1, V.str t.2.1, V.int .i64 t.2.2.1, V.int .i64 t.2.2.2]))] [] (.tup [.ref 0, .bool (turnsB l)]) [.arr ((timesR l).map (V.int .i64)) .flat] := by
 refine v_con [.tmp 2, .tmp 3] [] Tryd.func28 rfl rfl rfl (by simp [Tryd.ntmps28]) ?_
 intro Q0 n0 r0
 simp only [Tryd.ntmps28, envFrom, Nat.reduceAdd]
 have T := Tys.mk (And.intro Ty.t3 (And.intro Ty.t4 (And.intro Ty.t9 (And.intro Ty.t36 (And.intro Ty.t48 Ty.t62)))))
 have F := Fc.mk True.intro
 refine v_seqR [0] ?_; intro K1 k1
 refine zAssign ⟨?_⟩
 refine zAssign ⟨?_⟩
 refine k1 _ ?_
 refine zk ⟨?_⟩
 refine v_seq ?_; intro Q2 n2 e2 r2
 refine v_seqR [0,6] ?_; intro K3 k3
 refine zMove ⟨?_⟩
 refine zc (areTurnouts_con l hl hls) ⟨?_⟩
 refine zUnOp ⟨?_⟩
 refine k3 _ ?_
 refine zk ⟨?_⟩
 refine v_condS _ rfl ?_ ?_
 ·intro hc0
  refine v_seqR [2,3] ?_; intro K5 k5
  refine zAssign ⟨?_⟩
  refine zAssign ⟨?_⟩
  refine k5 _ ?_
  refine zk ⟨?_⟩
  refine v_ret ?_
  refine r2 _ ?_
  refine r0 _ ?_
  refine zf ⟨?_⟩
  rw [show timesR l = [] by rw [timesR, hc0]; rfl, hc0]
  exact ret_ref_tup rfl rfl rfl (.inl rfl)
 ·intro hc0
  refine v_skip ?_
  refine n2 _ _ (weak_keep [0] _) ?_
  refine zk ⟨?_⟩
  refine v_seqR [2,3] ?_; intro K6 k6
  refine zMove ⟨?_⟩
  refine zc (timesOf_con l hl) ⟨?_⟩
  refine zAssign ⟨?_⟩
  refine zAssign ⟨?_⟩
  refine k6 _ ?_
  refine zk ⟨?_⟩
  refine v_ret ?_
  refine r0 _ ?_
  refine zf ⟨?_⟩
  rw [show timesR l = l.map tTime by rw [timesR, hc0]; rfl, hc0]
  exact ret_ref_tup rfl rfl rfl (.inl rfl)
set_option maxHeartbeats 1000000 in
theorem specTimesOf_con (l : List (Int × ByteArray × Int × Int)) (hl : l.length ≤ 1048576) (hls : ∀ t ∈ l, t.2.1.size ≤ 9223372036854775807) : Con Tryd.prog 29 [.sl (l.map (fun t : Int × ByteArray × Int × Int => V.agg [V.int .i64 t.1, V.str t.2.1, V.int .i64 t.2.2.1, V.int .i64 t.2.2.2]))] [] (.tup [.ref 0, .bool (turnsB l)]) [.arr ((timesR l).map (V.int .i64)) .flat] := by
 refine v_con [.tmp 2, .tmp 3] [] Tryd.func29 rfl rfl rfl (by simp [Tryd.ntmps29]) ?_
 intro Q0 n0 r0
 simp only [Tryd.ntmps29, envFrom, Nat.reduceAdd]
 have T := Tys.mk (And.intro Ty.t3 (And.intro Ty.t4 (And.intro Ty.t9 (And.intro Ty.t36 (And.intro Ty.t48 Ty.t62)))))
 have F := Fc.mk True.intro
 refine v_seqR [0] ?_; intro K1 k1
 refine zAssign ⟨?_⟩
 refine zAssign ⟨?_⟩
 refine k1 _ ?_
 refine zk ⟨?_⟩
 refine v_seq ?_; intro Q2 n2 e2 r2
 refine v_seqR [0,9] ?_; intro K3 k3
 refine zMove ⟨?_⟩
 refine zc (dbGood_con l hl hls) ⟨?_⟩
 refine zUnOp ⟨?_⟩
 refine k3 _ ?_
 refine zk ⟨?_⟩
 refine v_condS _ rfl ?_ ?_
 ·intro hc0
  refine v_seqR [2,3] ?_; intro K5 k5
  refine zAssign ⟨?_⟩
  refine zAssign ⟨?_⟩
  refine k5 _ ?_
  refine zk ⟨?_⟩
  refine v_ret ?_
  refine r2 _ ?_
  refine r0 _ ?_
  refine zf ⟨?_⟩
  rw [show timesR l = [] by rw [timesR, hc0]; rfl, hc0]
  exact ret_ref_tup rfl rfl rfl (.inl rfl)
 ·intro hc0
  refine v_skip ?_
  refine n2 _ _ (weak_keep [0] _) ?_
  refine zk ⟨?_⟩
  refine v_seqR [0,4] ?_; intro K6 k6
  refine zAssign ⟨?_⟩
  refine k6 _ ?_
  refine zk ⟨?_⟩
  refine v_seq ?_; intro Q7 n7 e7 r7
  refine v_seqR [4,10,11,12] ?_; intro K8 k8
  refine zMove ⟨?_⟩
  refine zLen ⟨?_⟩
  refine zMove ⟨?_⟩
  refine k8 _ ?_
  refine zk ⟨?_⟩
  refine v_block ?_; intro Q9 n9 x9 e9 r9
  refine v_loop (fun p => ⟨[(4, .ref 0), (10, .sl (l.map (fun t : Int × ByteArray × Int × Int => V.agg [V.int .i64 t.1, V.str t.2.1, V.int .i64 t.2.2.1, V.int .i64 t.2.2.2]))), (11, .int .i64 l.length), (12, .int .i64 (Nat.cast p.1))], [.arr (p.2.map (V.int .i64)) .flat], false, 23, 0⟩) (fun p => p.1 ≤ l.length ∧ p.2 = (l.take p.1).map tTime) (fun p => l.length - p.1) ((0, []) : Nat × List Int) ?_ ?_ ?_
  ·refine weak_bothS [4, 10, 11, 12] [1] ⟨?_⟩
   rfl
  ·exact ⟨Nat.zero_le _, rfl⟩
  ·rintro ⟨i, acc⟩ hok10 Q10 n10 e10 r10
   obtain ⟨hi1, hR⟩ := hok10
   simp only [] at hi1 hR ⊢
   have hal : acc.length ≤ 1048576 := by rw [hR, List.length_map, List.length_take]; omega
   refine v_seqR [4,10,11,12,13] ?_; intro K11 k11
   refine zBinOp ⟨?_⟩
   refine k11 _ ?_
   refine zk ⟨?_⟩
   refine v_seq ?_; intro Q12 n12 e12 r12
   refine v_condS _ rfl ?_ ?_
   ·intro hc1
    have hlt : i < l.length := by omega
    obtain ⟨⟨x0, x1, x2, x3⟩, hx⟩ : ∃ x : Int × ByteArray × Int × Int, l[i]? = some x := ⟨l[i]'(by omega), List.getElem?_eq_getElem (by omega)⟩
    refine v_skip ?_
    refine n12 _ _ (weak_keep [4, 10, 11, 12] _) ?_
    refine zk ⟨?_⟩
    refine v_seq ?_; intro Q14 n14 e14 r14
    refine v_block ?_; intro Q15 n15 x15 e15 r15
    refine v_seqR [4,6,10,11,12] ?_; intro K16 k16
    have F := Fc.mk (fun f => getD_map (f := f) hx)
    refine zIndexAddr ⟨?_⟩
    refine zLoad ⟨?_⟩
    refine zAlloc ⟨?_⟩
    refine zStore ⟨?_⟩
    refine k16 _ ?_
    refine zk ⟨?_⟩
    refine v_region ?_; intro K17 k17
    refine zMove ⟨?_⟩
    refine zLoad ⟨?_⟩
    refine zc (dbTime_con x0 x1 x2 x3) ⟨?_⟩
    refine zBuildSlice ⟨?_⟩
    refine zAppend ⟨?_⟩
    refine zAssign ⟨?_⟩
    refine k17 _ ?_
    refine n15 _ ?_
    refine n14 _ _ (weak_keep [4, 10, 11, 12] _) ?_
    refine zk ⟨?_⟩
    refine v_region ?_; intro K18 k18
    refine zBinOpW ⟨?_⟩
    refine zMove ⟨?_⟩
    refine k18 _ ?_
    refine n10 _ (i + 1, acc ++ [tTime (x0, x1, x2, x3)]) ?_ ?_ ?_
    ·refine weak_bothS [4, 10, 11, 12] [3] ⟨?_⟩
     rw [snoc_map (f := V.int .i64)]; rfl
    ·exact ⟨hlt, by show acc ++ _ = _; rw [hR, List.take_add_one, hx]; simp⟩
    ·show _ < _; show l.length - (i + 1) < l.length - i; omega
   ·intro hc1
    refine v_exit ?_
    refine e12 _ _ ?_
    refine e10 _ _ ?_
    refine x9 _ ?_
    refine n7 _ _ (weak_keep [4] _) ?_
    refine zk ⟨?_⟩
    refine v_seqR [2,3] ?_; intro K19 k19
    refine zMove ⟨?_⟩
    refine zAssign ⟨?_⟩
    refine zAssign ⟨?_⟩
    refine k19 _ ?_
    refine zk ⟨?_⟩
    refine v_ret ?_
    refine r0 _ ?_
    refine zf ⟨?_⟩
    have hend : acc = l.map tTime := by rw [hR, List.take_of_length_le (by omega)]
    rw [show timesR l = acc by rw [timesR, hc0, hend]; rfl, hc0]
    exact ret_ref_tup rfl rfl rfl (.inl rfl)
set_option maxHeartbeats 1000000 in
theorem specLate_con (l : List (Int × ByteArray × Int × Int)) (lim : Int) (hl : l.length ≤ 1048576) (hls : ∀ t ∈ l, t.2.1.size ≤ 9223372036854775807) : Con Tryd.prog 38 [.sl (l.map (fun t : Int × ByteArray × Int × Int => V.agg [V.int .i64 t.1, V.str t.2.1, V.int .i64 t.2.2.1, V.int .i64 t.2.2.2])), .int .i64 lim] [] (.tup [.ref 0, .bool (turnsB l && (decide (0 ≤ lim) && decide (lim ≤ 36000)))]) [.arr ((lateR l lim).map (V.int .i64)) .flat] := by
 refine v_con [.tmp 4, .tmp 5] [] Tryd.func38 rfl rfl rfl (by simp [Tryd.ntmps38]) ?_
 intro Q0 n0 r0
 simp only [Tryd.ntmps38, envFrom, Nat.reduceAdd]
 have T := Tys.mk (And.intro Ty.t3 (And.intro Ty.t4 (And.intro Ty.t9 (And.intro Ty.t36 (And.intro Ty.t48 Ty.t62)))))
 have F := Fc.mk True.intro
 refine v_seqR [0,1] ?_; intro K1 k1
 refine zAssign ⟨?_⟩
 refine zAssign ⟨?_⟩
 refine k1 _ ?_
 refine zk ⟨?_⟩
 refine v_seq ?_; intro Q2 n2 e2 r2
 refine v_seqR [0,1,13] ?_; intro K3 k3
 refine zMove ⟨?_⟩
 refine zc (dbGood_con l hl hls) ⟨?_⟩
 refine zUnOp ⟨?_⟩
 refine zMove ⟨?_⟩
 refine zgMove ⟨?_⟩
 refine zgc (dsLimit_con _) ⟨?_⟩
 refine zgUnOp ⟨?_⟩
 refine zPick ⟨?_⟩
 refine k3 _ ?_
 refine zk ⟨?_⟩
 refine v_condS _ rfl ?_ ?_
 ·intro hc0
  refine v_seqR [4,5] ?_; intro K5 k5
  refine zAssign ⟨?_⟩
  refine zAssign ⟨?_⟩
  refine k5 _ ?_
  refine zk ⟨?_⟩
  refine v_ret ?_
  refine r2 _ ?_
  refine r0 _ ?_
  refine zf ⟨?_⟩
  have hg : (turnsB l && (decide (0 ≤ lim) && decide (lim ≤ 36000))) = false := by
   cases hq : (turnsB l && (decide (0 ≤ lim) && decide (lim ≤ 36000))) with
   |false => rfl
   |true =>
    exfalso
    simp only [Bool.and_eq_true, decide_eq_true_eq] at hq
    rcases hc0 with h | h
    ·rw [hq.1] at h; cases h
    ·have := h hq.2.1; omega
  rw [show lateR l lim = [] by rw [lateR, hg]; rfl, hg]
  exact ret_ref_tup rfl rfl rfl (.inl rfl)
 ·intro hc0
  have hg : (turnsB l && (decide (0 ≤ lim) && decide (lim ≤ 36000))) = true := by rw [hc0.1, decide_eq_true hc0.2.1, decide_eq_true hc0.2.2]; rfl
  refine v_skip ?_
  refine n2 _ _ (weak_keep [0, 1] _) ?_
  refine zk ⟨?_⟩
  refine v_seqR [4,5] ?_; intro K6 k6
  refine zMove ⟨?_⟩
  refine zMove ⟨?_⟩
  refine zc (dbLate_con l lim hl) ⟨?_⟩
  refine zAssign ⟨?_⟩
  refine zAssign ⟨?_⟩
  refine k6 _ ?_
  refine zk ⟨?_⟩
  refine v_ret ?_
  refine r0 _ ?_
  refine zf ⟨?_⟩
  rw [show lateR l lim = lateFrom lim 0 l by rw [lateR, hg]; rfl, hg]
  exact ret_ref_tup rfl rfl rfl (.inl rfl)
set_option maxHeartbeats 1000000 in
theorem implLate_con (l : List (Int × ByteArray × Int × Int)) (lim : Int) (hl : l.length ≤ 1048576) (hls : ∀ t ∈ l, t.2.1.size ≤ 9223372036854775807) : Con Tryd.prog 37 [.sl (l.map (fun t : Int × ByteArray × Int × Int => V.agg [V.int .i64 t.1, V.str t.2.1, V.int .i64 t.2.2.1, V.int .i64 t.2.2.2])), .int .i64 lim] [] (.tup [.ref 0, .bool (turnsB l && (decide (0 ≤ lim) && decide (lim ≤ 36000)))]) [.arr ((lateR l lim).map (V.int .i64)) .flat] := by
 refine v_con [.tmp 4, .tmp 5] [] Tryd.func37 rfl rfl rfl (by simp [Tryd.ntmps37]) ?_
 intro Q0 n0 r0
 simp only [Tryd.ntmps37, envFrom, Nat.reduceAdd]
 have T := Tys.mk (And.intro Ty.t3 (And.intro Ty.t4 (And.intro Ty.t9 (And.intro Ty.t36 (And.intro Ty.t48 Ty.t62)))))
 have F := Fc.mk True.intro
 refine v_seqR [0,1] ?_; intro K1 k1
 refine zAssign ⟨?_⟩
 refine zAssign ⟨?_⟩
 refine k1 _ ?_
 refine zk ⟨?_⟩
 refine v_seq ?_; intro Q2 n2 e2 r2
 refine v_seqR [0,1,16] ?_; intro K3 k3
 refine zMove ⟨?_⟩
 refine zc (areTurnouts_con l hl hls) ⟨?_⟩
 refine zUnOp ⟨?_⟩
 refine zMove ⟨?_⟩
 refine zgMove ⟨?_⟩
 refine zgc (isLimit_con _) ⟨?_⟩
 refine zgUnOp ⟨?_⟩
 refine zPick ⟨?_⟩
 refine k3 _ ?_
 refine zk ⟨?_⟩
 refine v_condS _ rfl ?_ ?_
 ·intro hc0
  refine v_seqR [4,5] ?_; intro K5 k5
  refine zAssign ⟨?_⟩
  refine zAssign ⟨?_⟩
  refine k5 _ ?_
  refine zk ⟨?_⟩
  refine v_ret ?_
  refine r2 _ ?_
  refine r0 _ ?_
  refine zf ⟨?_⟩
  have hg : (turnsB l && (decide (0 ≤ lim) && decide (lim ≤ 36000))) = false := by
   cases hq : (turnsB l && (decide (0 ≤ lim) && decide (lim ≤ 36000))) with
   |false => rfl
   |true =>
    exfalso
    simp only [Bool.and_eq_true, decide_eq_true_eq] at hq
    rcases hc0 with h | h
    ·rw [hq.1] at h; cases h
    ·have := h hq.2.1; omega
  rw [show lateR l lim = [] by rw [lateR, hg]; rfl, hg]
  exact ret_ref_tup rfl rfl rfl (.inl rfl)
 ·intro hc0
  have hg : (turnsB l && (decide (0 ≤ lim) && decide (lim ≤ 36000))) = true := by rw [hc0.1, decide_eq_true hc0.2.1, decide_eq_true hc0.2.2]; rfl
  refine v_skip ?_
  refine n2 _ _ (weak_keep [0, 1] _) ?_
  refine zk ⟨?_⟩
  refine v_seqR [0,1,6] ?_; intro K6 k6
  refine zAssign ⟨?_⟩
  refine k6 _ ?_
  refine zk ⟨?_⟩
  refine v_seq ?_; intro Q7 n7 e7 r7
  refine v_seqR [1,6,18,19,20] ?_; intro K8 k8
  refine zMove ⟨?_⟩
  refine zc (timesOf_con l hl) ⟨?_⟩
  refine zLen ⟨?_⟩
  refine zMove ⟨?_⟩
  refine k8 _ ?_
  refine zk ⟨?_⟩
  refine v_block ?_; intro Q9 n9 x9 e9 r9
  refine v_loop (fun p => ⟨[(1, .int .i64 lim), (6, .ref 0), (18, .ref 1), (19, .int .i64 l.length), (20, .int .i64 (Nat.cast p.1))], [.arr (p.2.map (V.int .i64)) .flat, .arr ((l.map tTime).map (V.int .i64)) .flat], false, 34, 0⟩) (fun p => p.1 ≤ l.length ∧ p.2.length ≤ p.1 ∧ p.2 ++ lateFrom lim p.1 (l.drop p.1) = lateFrom lim 0 l) (fun p => l.length - p.1) ((0, []) : Nat × List Int) ?_ ?_ ?_
  ·refine weak_bothS [1, 6, 18, 19, 20] [1, 2] ⟨?_⟩
   rfl
  ·exact ⟨Nat.zero_le _, Nat.le_refl _, rfl⟩
  ·rintro ⟨i, acc⟩ hok10 Q10 n10 e10 r10
   obtain ⟨hi1, hal, hR⟩ := hok10
   simp only [] at hi1 hal hR ⊢
   refine v_seqR [1,6,18,19,20,21] ?_; intro K11 k11
   refine zBinOp ⟨?_⟩
   refine k11 _ ?_
   refine zk ⟨?_⟩
   refine v_seq ?_; intro Q12 n12 e12 r12
   refine v_condS _ rfl ?_ ?_
   ·intro hc1
    have hlt : i < l.length := by omega
    obtain ⟨⟨x0, x1, x2, x3⟩, hx⟩ : ∃ x : Int × ByteArray × Int × Int, l[i]? = some x := ⟨l[i]'(by omega), List.getElem?_eq_getElem (by omega)⟩
    have hst := late_step (lim := lim) hx
    have hxm := map_at (f := tTime) hx
    refine v_skip ?_
    refine n12 _ _ (weak_keep [1, 6, 18, 19, 20] _) ?_
    refine zk ⟨?_⟩
    refine v_seq ?_; intro Q14 n14 e14 r14
    refine v_block ?_; intro Q15 n15 x15 e15 r15
    refine v_seqR [1,6,7,8,18,19,20] ?_; intro K16 k16
    have F := Fc.mk (fun f => getD_map (f := f) hxm)
    refine zMove ⟨?_⟩
    refine zIndexAddr ⟨?_⟩
    refine zLoad ⟨?_⟩
    refine zAssign ⟨?_⟩
    refine zAssign ⟨?_⟩
    refine k16 _ ?_
    refine zk ⟨?_⟩
    refine v_seqR [1,6,7,18,19,20,27] ?_; intro K17 k17
    refine zMove ⟨?_⟩
    refine zMove ⟨?_⟩
    refine zBinOp ⟨?_⟩
    refine k17 _ ?_
    refine zk ⟨?_⟩
    refine v_condS _ rfl ?_ ?_
    ·intro hc2
     refine v_region ?_; intro K19 k19
     refine zMove ⟨?_⟩
     refine zMove ⟨?_⟩
     refine zBuildSlice ⟨?_⟩
     refine zAppend ⟨?_⟩
     refine zAssign ⟨?_⟩
     refine k19 _ ?_
     refine n15 _ ?_
     refine n14 _ _ (weak_keep [1, 6, 18, 19, 20] _) ?_
     refine zk ⟨?_⟩
     refine v_region ?_; intro K20 k20
     refine zBinOpW ⟨?_⟩
     refine zMove ⟨?_⟩
     refine k20 _ ?_
     refine n10 _ (i + 1, acc ++ [(i : Int)]) ?_ ?_ ?_
     ·refine weak_bothS [1, 6, 18, 19, 20] [3, 1] ⟨?_⟩
      rw [snoc_map (f := V.int .i64)]; rfl
     ·exact ⟨hlt, by show (acc ++ _).length ≤ i + 1; simp; omega, by show (acc ++ _) ++ lateFrom lim (i + 1) (l.drop (i + 1)) = _; rw [← hR, hst, if_pos hc2]; simp⟩
     ·show _ < _; show l.length - (i + 1) < l.length - i; omega
    ·intro hc2
     refine v_skip ?_
     refine n15 _ ?_
     refine n14 _ _ (weak_keep [1, 6, 18, 19, 20] _) ?_
     refine zk ⟨?_⟩
     refine v_region ?_; intro K21 k21
     refine zBinOpW ⟨?_⟩
     refine zMove ⟨?_⟩
     refine k21 _ ?_
     refine n10 _ (i + 1, acc) ?_ ?_ ?_
     ·refine weak_bothS [1, 6, 18, 19, 20] [0, 1] ⟨?_⟩
      rfl
     ·exact ⟨hlt, by show acc.length ≤ i + 1; omega, by show acc ++ lateFrom lim (i + 1) (l.drop (i + 1)) = _; rw [← hR, hst, if_neg (Int.not_lt.2 hc2)]⟩
     ·show _ < _; show l.length - (i + 1) < l.length - i; omega
   ·intro hc1
    refine v_exit ?_
    refine e12 _ _ ?_
    refine e10 _ _ ?_
    refine x9 _ ?_
    refine n7 _ _ (weak_keep [6] _) ?_
    refine zk ⟨?_⟩
    refine v_seqR [4,5] ?_; intro K22 k22
    refine zMove ⟨?_⟩
    refine zAssign ⟨?_⟩
    refine zAssign ⟨?_⟩
    refine k22 _ ?_
    refine zk ⟨?_⟩
    refine v_ret ?_
    refine r0 _ ?_
    refine zf ⟨?_⟩
    have hend : acc = lateFrom lim 0 l := by rw [← hR, late_end (by omega), List.append_nil]
    rw [show lateR l lim = acc by rw [lateR, hg, hend]; rfl, hg]
    exact ret_ref_tup rfl rfl rfl (.inl rfl)
end Go.Proofs.YtbameklegpgkfaaDoor
