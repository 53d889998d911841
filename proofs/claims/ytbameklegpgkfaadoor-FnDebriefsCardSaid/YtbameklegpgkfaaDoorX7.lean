/- What functions compute. No condition. -/
import Derived.Test.YtbameklegpgkfaaDoorUty
import Derived.Test.YtbameklegpgkfaaDoorUmG
import Derived.Test.YtbameklegpgkfaaDoorX1
set_option linter.unusedSimpArgs false
set_option linter.unusedVariables false
set_option linter.defProp false
namespace Go.Proofs.YtbameklegpgkfaaDoor
open Go Go.Vm

def okAt (s : ByteArray) (i : Nat) : Bool := (decide (97 ≤ byteAt s i) && decide (byteAt s i ≤ 122)) || ((decide (48 ≤ byteAt s i) && decide (byteAt s i ≤ 57)) && !decide (i = 0))
def nameB (s : ByteArray) : Bool := (List.range s.size).all (okAt s) && (decide (1 ≤ (s.size : Int)) && decide ((s.size : Int) ≤ 6))
theorem name_bad {s : ByteArray} {i : Nat} (hi : i < s.size) (h : okAt s i = false) : nameB s = false := by
  have : (List.range s.size).all (okAt s) = false := by
    rw [List.all_eq_false]
    exact ⟨i, List.mem_range.2 hi, by rw [h]; simp⟩
  rw [nameB, this]; rfl
theorem name_good {s : ByteArray} {i : Nat} (hi : s.size ≤ i) (h : ∀ j, j < i → okAt s j = true) : nameB s = (decide (1 ≤ (s.size : Int)) && decide ((s.size : Int) ≤ 6)) := by
  have : (List.range s.size).all (okAt s) = true := by
    rw [List.all_eq_true]
    intro j hj
    exact h j (Nat.lt_of_lt_of_le (List.mem_range.1 hj) hi)
  rw [nameB, this]; rfl
theorem ok_step {s : ByteArray} {i : Nat} (h : ∀ j, j < i → okAt s j = true) (hi : okAt s i = true) : ∀ j, j < i + 1 → okAt s j = true := by
  intro j hj
  rcases Nat.lt_or_ge j i with q | q
  · exact h j q
  · have : j = i := by omega
    subst this; exact hi

set_option maxHeartbeats 1000000 in
theorem apName_con (s : ByteArray) (hs : s.size ≤ 9223372036854775807) : Con Tryd.prog 190 [.str s] [] (.bool (nameB s)) [] := by
 refine v_con [.tmp 2] [] Tryd.func190 rfl rfl rfl (by simp [Tryd.ntmps190]) ?_
 intro Q0 n0 r0
 simp only [Tryd.ntmps190, envFrom, Nat.reduceAdd]
 have T := Tys.mk (And.intro Ty.t3 (And.intro Ty.t4 (And.intro Ty.t5 Ty.t9)))
 have F := Fc.mk True.intro
 refine v_seqR [0] ?_; intro K1 k1
 refine zAssign ⟨?_⟩
 refine k1 _ ?_
 refine zk ⟨?_⟩
 refine v_seq ?_; intro Q2 n2 e2 r2
 refine v_seqR [0,3] ?_; intro K3 k3
 refine zAssign ⟨?_⟩
 refine k3 _ ?_
 refine zk ⟨?_⟩
 refine v_block ?_; intro Q4 n4 x4 e4 r4
 refine v_loop (fun i => ⟨[(0, .str s), (3, .int .i64 (Nat.cast i))], [], false, 45, 0⟩) (fun i => i ≤ s.size ∧ ∀ j, j < i → okAt s j = true) (fun i => s.size - i) 0 ?_ ?_ ?_
 ·refine weak_of [0, 3] ?_
  simp only [keep_mk, keepE_nil, keepE_cons, look_cons, look_nil, Nat.reduceEqDiff, reduceIte]
  rfl
 ·exact ⟨Nat.zero_le _, fun j h => absurd h (Nat.not_lt_zero _)⟩
 ·rintro i hok5 Q5 n5 e5 r5
  obtain ⟨hi1, hR⟩ := hok5
  refine v_seq ?_; intro Q6 n6 e6 r6
  refine v_seqR [0,3,9] ?_; intro K7 k7
  refine zMove ⟨?_⟩
  refine zMove ⟨?_⟩
  refine zLen ⟨?_⟩
  refine zBinOp ⟨?_⟩
  refine k7 _ ?_
  refine zk ⟨?_⟩
  refine v_condS _ rfl ?_ ?_
  ·intro hc0
   have hlt : i < s.size := by omega
   refine v_skip ?_
   refine n6 _ _ (weak_keep [0, 3] _) ?_
   refine zk ⟨?_⟩
   refine v_seq ?_; intro Q9 n9 e9 r9
   refine v_block ?_; intro Q10 n10 x10 e10 r10
   refine v_seqR [0,3,4] ?_; intro K11 k11
   refine zMove ⟨?_⟩
   refine zMove ⟨?_⟩
   refine zIndex ⟨?_⟩
   refine zBinOp ⟨?_⟩
   refine zMove ⟨?_⟩
   refine zgMove ⟨?_⟩
   refine zgMove ⟨?_⟩
   refine zgIndex ⟨?_⟩
   refine zgBinOp ⟨?_⟩
   refine zPick ⟨?_⟩
   refine zAssign ⟨?_⟩
   refine k11 _ ?_
   refine zk ⟨?_⟩
   refine v_seqR [0,3,4,5] ?_; intro K12 k12
   refine zMove ⟨?_⟩
   refine zMove ⟨?_⟩
   refine zIndex ⟨?_⟩
   refine zBinOp ⟨?_⟩
   refine zMove ⟨?_⟩
   refine zgMove ⟨?_⟩
   refine zgMove ⟨?_⟩
   refine zgIndex ⟨?_⟩
   refine zgBinOp ⟨?_⟩
   refine zPick ⟨?_⟩
   refine zAssign ⟨?_⟩
   refine k12 _ ?_
   refine zk ⟨?_⟩
   refine v_seqR [0,3,41] ?_; intro K13 k13
   refine zMove ⟨?_⟩
   refine zUnOp ⟨?_⟩
   refine zMove ⟨?_⟩
   refine zgMove ⟨?_⟩
   refine zgUnOp ⟨?_⟩
   refine zgMove ⟨?_⟩
   refine zgMove ⟨?_⟩
   refine zgBinOp ⟨?_⟩
   refine zgPick ⟨?_⟩
   refine zPick ⟨?_⟩
   refine k13 _ ?_
   refine zk ⟨?_⟩
   refine v_condS _ rfl ?_ ?_
   ·intro hc1
    have hbad : okAt s i = false := by simp only [okAt, Bool.or_eq_false_iff, Bool.and_eq_false_imp, decide_eq_true_eq, decide_eq_false_iff_not, Bool.not_eq_false', Bool.and_eq_true]; omega
    refine v_seqR [2] ?_; intro K15 k15
    refine zAssign ⟨?_⟩
    refine k15 _ ?_
    refine zk ⟨?_⟩
    refine v_ret ?_
    refine r10 _ ?_
    refine r9 _ ?_
    refine r5 _ ?_
    refine r4 _ ?_
    refine r2 _ ?_
    refine r0 _ ?_
    refine zf ⟨?_⟩
    exact ret_pure rfl (by rw [name_bad hlt hbad]) (.inl rfl)
   ·intro hc1
    have hgood : okAt s i = true := by simp only [okAt, Bool.or_eq_true, Bool.and_eq_true, decide_eq_true_eq, Bool.not_eq_true', decide_eq_false_iff_not]; omega
    refine v_skip ?_
    refine n10 _ ?_
    refine n9 _ _ (weak_keep [0, 3] _) ?_
    refine zk ⟨?_⟩
    refine v_region ?_; intro K16 k16
    refine zMove ⟨?_⟩
    refine zBinOpW ⟨?_⟩
    refine zAssign ⟨?_⟩
    refine k16 _ ?_
    refine n5 _ (i + 1) ?_ ?_ ?_
    ·refine weak_of [0, 3] ?_
     simp only [keep_mk, keepE_nil, keepE_cons, look_cons, look_nil, Nat.reduceEqDiff, reduceIte]
     rfl
    ·exact ⟨by omega, ok_step hR hgood⟩
    ·show _ < _; omega
  ·intro hc0
   refine v_exit ?_
   refine e6 _ _ ?_
   refine e5 _ _ ?_
   refine x4 _ ?_
   refine n2 _ _ (weak_keep [0] _) ?_
   refine zk ⟨?_⟩
   refine v_seqR [2] ?_; intro K17 k17
   refine zMove ⟨?_⟩
   refine zLen ⟨?_⟩
   refine zc (l1In_con _ _ _) ⟨?_⟩
   refine zAssign ⟨?_⟩
   refine k17 _ ?_
   refine zk ⟨?_⟩
   refine v_ret ?_
   refine r0 _ ?_
   refine zf ⟨?_⟩
   exact ret_pure rfl (by rw [name_good (by omega) hR]) (.inl rfl)
set_option maxHeartbeats 1000000 in
theorem isName_con (s : ByteArray) (hs : s.size ≤ 9223372036854775807) : Con Tryd.prog 157 [.str s] [] (.bool (nameB s)) [] := by
 refine v_con [.tmp 2] [] Tryd.func157 rfl rfl rfl (by simp [Tryd.ntmps157]) ?_
 intro Q0 n0 r0
 simp only [Tryd.ntmps157, envFrom, Nat.reduceAdd]
 have T := Tys.mk (And.intro Ty.t3 (And.intro Ty.t4 (And.intro Ty.t5 Ty.t9)))
 have F := Fc.mk True.intro
 refine v_seqR [0] ?_; intro K1 k1
 refine zAssign ⟨?_⟩
 refine k1 _ ?_
 refine zk ⟨?_⟩
 refine v_seq ?_; intro Q2 n2 e2 r2
 refine v_seqR [0,7,8] ?_; intro K3 k3
 refine zMove ⟨?_⟩
 refine zLen ⟨?_⟩
 refine zMove ⟨?_⟩
 refine k3 _ ?_
 refine zk ⟨?_⟩
 refine v_block ?_; intro Q4 n4 x4 e4 r4
 refine v_loop (fun i => ⟨[(0, .str s), (7, .int .i64 s.size), (8, .int .i64 (Nat.cast i))], [], false, 45, 0⟩) (fun i => i ≤ s.size ∧ ∀ j, j < i → okAt s j = true) (fun i => s.size - i) 0 ?_ ?_ ?_
 ·refine weak_of [0, 7, 8] ?_
  simp only [keep_mk, keepE_nil, keepE_cons, look_cons, look_nil, Nat.reduceEqDiff, reduceIte]
  rfl
 ·exact ⟨Nat.zero_le _, fun j h => absurd h (Nat.not_lt_zero _)⟩
 ·rintro i hok5 Q5 n5 e5 r5
  obtain ⟨hi1, hR⟩ := hok5
  refine v_seqR [0,7,8,9] ?_; intro K6 k6
  refine zBinOp ⟨?_⟩
  refine k6 _ ?_
  refine zk ⟨?_⟩
  refine v_seq ?_; intro Q7 n7 e7 r7
  refine v_condS _ rfl ?_ ?_
  ·intro hc0
   have hlt : i < s.size := by omega
   refine v_skip ?_
   refine n7 _ _ (weak_keep [0, 7, 8] _) ?_
   refine zk ⟨?_⟩
   refine v_seq ?_; intro Q9 n9 e9 r9
   refine v_block ?_; intro Q10 n10 x10 e10 r10
   refine v_seqR [0,3,7,8] ?_; intro K11 k11
   refine zMove ⟨?_⟩
   refine zAssign ⟨?_⟩
   refine k11 _ ?_
   refine zk ⟨?_⟩
   refine v_seq ?_; intro Q12 n12 e12 r12
   refine v_draw (by kernel_rfl) ?_; intro K13 q13 k13
   show aAny _ _ _ _ 22 (Array.replicate 22 false) _
   refine zdMove q13 true 0 11 ?_
   refine zdMove q13 true 1 12 ?_
   refine zdIndex q13 true 2 13 ?_
   refine zdBinOp q13 true 3 14 ?_
   refine zdMove q13 true 4 15 ?_
   refine zdgMove q13 true 5 16 ?_
   refine zdgMove q13 true 6 17 ?_
   refine zdgIndex q13 true 7 18 ?_
   refine zdgBinOp q13 true 8 19 ?_
   refine zdPick q13 true 9 20 ?_
   refine zdMove q13 true 10 21 ?_
   refine zdMove q13 true 11 22 ?_
   refine zdIndex q13 true 12 23 ?_
   refine zdBinOp q13 true 13 24 ?_
   refine zdMove q13 true 14 25 ?_
   refine zdgMove q13 true 15 26 ?_
   refine zdgMove q13 true 16 27 ?_
   refine zdgIndex q13 true 17 28 ?_
   refine zdgBinOp q13 true 18 29 ?_
   refine zdPick q13 true 19 30 ?_
   refine zoAssign 20 ⟨?_⟩
   refine zoAssign 21 ⟨?_⟩
   refine aAny_done (by kernel_rfl) ?_
   refine k13 _ ?_
   refine n12 _ _ (weak_keep [0, 3, 4, 5, 7, 8] _) ?_
   refine zk ⟨?_⟩
   refine v_seqR [0,7,8,40] ?_; intro K14 k14
   refine zMove ⟨?_⟩
   refine zUnOp ⟨?_⟩
   refine zMove ⟨?_⟩
   refine zgMove ⟨?_⟩
   refine zgUnOp ⟨?_⟩
   refine zgMove ⟨?_⟩
   refine zgMove ⟨?_⟩
   refine zgBinOp ⟨?_⟩
   refine zgPick ⟨?_⟩
   refine zPick ⟨?_⟩
   refine k14 _ ?_
   refine zk ⟨?_⟩
   refine v_condS _ rfl ?_ ?_
   ·intro hc1
    have hbad : okAt s i = false := by simp only [okAt, Bool.or_eq_false_iff, Bool.and_eq_false_imp, decide_eq_true_eq, decide_eq_false_iff_not, Bool.not_eq_false', Bool.and_eq_true]; omega
    refine v_seqR [2] ?_; intro K16 k16
    refine zAssign ⟨?_⟩
    refine k16 _ ?_
    refine zk ⟨?_⟩
    refine v_ret ?_
    refine r10 _ ?_
    refine r9 _ ?_
    refine r5 _ ?_
    refine r4 _ ?_
    refine r2 _ ?_
    refine r0 _ ?_
    refine zf ⟨?_⟩
    exact ret_pure rfl (by rw [name_bad hlt hbad]) (.inl rfl)
   ·intro hc1
    have hgood : okAt s i = true := by simp only [okAt, Bool.or_eq_true, Bool.and_eq_true, decide_eq_true_eq, Bool.not_eq_true', decide_eq_false_iff_not]; omega
    refine v_skip ?_
    refine n10 _ ?_
    refine n9 _ _ (weak_keep [0, 7, 8] _) ?_
    refine zk ⟨?_⟩
    refine v_region ?_; intro K17 k17
    refine zBinOpW ⟨?_⟩
    refine zMove ⟨?_⟩
    refine k17 _ ?_
    refine n5 _ (i + 1) ?_ ?_ ?_
    ·refine weak_of [0, 7, 8] ?_
     simp only [keep_mk, keepE_nil, keepE_cons, look_cons, look_nil, Nat.reduceEqDiff, reduceIte]
     rfl
    ·exact ⟨by omega, ok_step hR hgood⟩
    ·show _ < _; omega
  ·intro hc0
   refine v_exit ?_
   refine e7 _ _ ?_
   refine e5 _ _ ?_
   refine x4 _ ?_
   refine n2 _ _ (weak_keep [0] _) ?_
   refine zk ⟨?_⟩
   refine v_seqR [2] ?_; intro K18 k18
   refine zMove ⟨?_⟩
   refine zLen ⟨?_⟩
   refine zc (inside_con _ _ _) ⟨?_⟩
   refine zAssign ⟨?_⟩
   refine k18 _ ?_
   refine zk ⟨?_⟩
   refine v_ret ?_
   refine r0 _ ?_
   refine zf ⟨?_⟩
   exact ret_pure rfl (by rw [name_good (by omega) hR]) (.inl rfl)
set_option maxHeartbeats 1000000 in
theorem isNaN_int_con (a : Int) : Con Tryd.prog 188 [V.int .i64 a] [] (.bool false) [] := by
 refine v_con [.tmp 2] [] Tryd.func188 rfl rfl rfl (by simp [Tryd.ntmps188]) ?_
 intro Q0 n0 r0
 simp only [Tryd.ntmps188, envFrom, Nat.reduceAdd]
 have T := Tys.mk Ty.t3
 have F := Fc.mk True.intro
 refine v_seqR [0] ?_; intro K1 k1
 refine zAssign ⟨?_⟩
 refine k1 _ ?_
 refine zk ⟨?_⟩
 refine v_seqR [2] ?_; intro K2 k2
 refine zMove ⟨?_⟩
 refine zMove ⟨?_⟩
 refine zBinOp ⟨?_⟩
 refine zAssign ⟨?_⟩
 refine k2 _ ?_
 refine zk ⟨?_⟩
 refine v_ret ?_
 refine r0 _ ?_
 refine zf ⟨?_⟩
 exact ret_pure rfl (by first | rfl | simp) (.inl rfl)
set_option maxHeartbeats 1000000 in
theorem isNaN_string_con (a : ByteArray) : Con Tryd.prog 189 [V.str a] [] (.bool false) [] := by
 refine v_con [.tmp 2] [] Tryd.func189 rfl rfl rfl (by simp [Tryd.ntmps189]) ?_
 intro Q0 n0 r0
 simp only [Tryd.ntmps189, envFrom, Nat.reduceAdd]
 have T := Tys.mk Ty.t9
 have F := Fc.mk True.intro
 refine v_seqR [0] ?_; intro K1 k1
 refine zAssign ⟨?_⟩
 refine k1 _ ?_
 refine zk ⟨?_⟩
 refine v_seqR [2] ?_; intro K2 k2
 refine zMove ⟨?_⟩
 refine zMove ⟨?_⟩
 refine zBinOp ⟨?_⟩
 refine zAssign ⟨?_⟩
 refine k2 _ ?_
 refine zk ⟨?_⟩
 refine v_ret ?_
 refine r0 _ ?_
 refine zf ⟨?_⟩
 exact ret_pure rfl (by first | rfl | simp) (.inl rfl)
def cmpI (a b : Int) : Int := if a < b then -1 else if b < a then 1 else 0
def cmpS (a b : ByteArray) : Int := if strLt a b = true then -1 else if a = b then 0 else 1
def orL : List Int → Int
  | [] => 0
  | x :: l => if x ≠ 0 then x else orL l
theorem or_step {l : List Int} {i : Nat} {x : Int} (h : l[i]? = some x) : orL (l.drop i) = if x ≠ 0 then x else orL (l.drop (i + 1)) := by
  rw [getElem_drop_cons h, orL]
theorem or_end {l : List Int} {i : Nat} (h : l.length ≤ i) : orL (l.drop i) = 0 := by
  rw [List.drop_of_length_le h, orL]

set_option maxHeartbeats 1000000 in
theorem cmpInt_con (a b : Int) : Con Tryd.prog 159 [.int .i64 a, .int .i64 b] [] (.int .i64 (cmpI a b)) [] := by
 refine v_con [.tmp 4] [] Tryd.func159 rfl rfl rfl (by simp [Tryd.ntmps159]) ?_
 intro Q0 n0 r0
 simp only [Tryd.ntmps159, envFrom, Nat.reduceAdd]
 have T := Tys.mk (And.intro Ty.t3 Ty.t4)
 have F := Fc.mk True.intro
 refine v_seqR [0,1] ?_; intro K1 k1
 refine zAssign ⟨?_⟩
 refine k1 _ ?_
 refine zk ⟨?_⟩
 refine v_seqR [0,1,5] ?_; intro K2 k2
 refine zMove ⟨?_⟩
 refine zc (isNaN_int_con _) ⟨?_⟩
 refine zAssign ⟨?_⟩
 refine k2 _ ?_
 refine zk ⟨?_⟩
 refine v_seqR [0,1,5,6] ?_; intro K3 k3
 refine zMove ⟨?_⟩
 refine zc (isNaN_int_con _) ⟨?_⟩
 refine zAssign ⟨?_⟩
 refine k3 _ ?_
 refine zk ⟨?_⟩
 refine v_seq ?_; intro Q4 n4 e4 r4
 refine v_seqR [0,1,6,11] ?_; intro K5 k5
 refine zMove ⟨?_⟩
 refine k5 _ ?_
 refine zk ⟨?_⟩
 refine v_cond _ rfl ?_ ?_
 ·intro hc0
  exfalso; simp at hc0
 ·intro hc0
  try simp only [zC, reduceCtorEq] at hc0
  refine v_skip ?_
  refine n4 _ _ (weak_keep [0, 1, 6] _) ?_
  refine zk ⟨?_⟩
  refine v_seq ?_; intro Q7 n7 e7 r7
  refine v_seqR [0,1,13] ?_; intro K8 k8
  refine zMove ⟨?_⟩
  refine k8 _ ?_
  refine zk ⟨?_⟩
  refine v_cond _ rfl ?_ ?_
  ·intro hc1
   exfalso; simp at hc1
  ·intro hc1
   try simp only [zC, reduceCtorEq] at hc1
   refine v_skip ?_
   refine n7 _ _ (weak_keep [0, 1] _) ?_
   refine zk ⟨?_⟩
   refine v_seq ?_; intro Q10 n10 e10 r10
   refine v_seqR [0,1,16] ?_; intro K11 k11
   refine zMove ⟨?_⟩
   refine zMove ⟨?_⟩
   refine zBinOp ⟨?_⟩
   refine k11 _ ?_
   refine zk ⟨?_⟩
   refine v_condS _ rfl ?_ ?_
   ·intro hc2
    refine v_seqR [4] ?_; intro K13 k13
    refine zAssign ⟨?_⟩
    refine k13 _ ?_
    refine zk ⟨?_⟩
    refine v_ret ?_
    refine r10 _ ?_
    refine r0 _ ?_
    refine zf ⟨?_⟩
    exact ret_pure rfl (by rw [cmpI, if_pos hc2]) (.inl rfl)
   ·intro hc2
    refine v_skip ?_
    refine n10 _ _ (weak_keep [0, 1] _) ?_
    refine zk ⟨?_⟩
    refine v_seq ?_; intro Q14 n14 e14 r14
    refine v_seqR [19] ?_; intro K15 k15
    refine zMove ⟨?_⟩
    refine zMove ⟨?_⟩
    refine zBinOp ⟨?_⟩
    refine k15 _ ?_
    refine zk ⟨?_⟩
    refine v_condS _ rfl ?_ ?_
    ·intro hc3
     refine v_seqR [4] ?_; intro K17 k17
     refine zAssign ⟨?_⟩
     refine k17 _ ?_
     refine zk ⟨?_⟩
     refine v_ret ?_
     refine r14 _ ?_
     refine r0 _ ?_
     refine zf ⟨?_⟩
     exact ret_pure rfl (by rw [cmpI, if_neg (by omega), if_pos hc3]) (.inl rfl)
    ·intro hc3
     refine v_skip ?_
     refine n14 _ _ (weak_keep [] _) ?_
     refine zk ⟨?_⟩
     refine v_seqR [4] ?_; intro K18 k18
     refine zAssign ⟨?_⟩
     refine k18 _ ?_
     refine zk ⟨?_⟩
     refine v_ret ?_
     refine r0 _ ?_
     refine zf ⟨?_⟩
     exact ret_pure rfl (by rw [cmpI, if_neg (by omega), if_neg (by omega)]) (.inl rfl)
set_option maxHeartbeats 1000000 in
theorem cmpStr_con (a b : ByteArray) : Con Tryd.prog 160 [.str a, .str b] [] (.int .i64 (cmpS a b)) [] := by
 refine v_con [.tmp 4] [] Tryd.func160 rfl rfl rfl (by simp [Tryd.ntmps160]) ?_
 intro Q0 n0 r0
 simp only [Tryd.ntmps160, envFrom, Nat.reduceAdd]
 have T := Tys.mk (And.intro Ty.t4 Ty.t9)
 have F := Fc.mk True.intro
 refine v_seqR [0,1] ?_; intro K1 k1
 refine zAssign ⟨?_⟩
 refine k1 _ ?_
 refine zk ⟨?_⟩
 refine v_seqR [0,1,5] ?_; intro K2 k2
 refine zMove ⟨?_⟩
 refine zc (isNaN_string_con _) ⟨?_⟩
 refine zAssign ⟨?_⟩
 refine k2 _ ?_
 refine zk ⟨?_⟩
 refine v_seqR [0,1,5,6] ?_; intro K3 k3
 refine zMove ⟨?_⟩
 refine zc (isNaN_string_con _) ⟨?_⟩
 refine zAssign ⟨?_⟩
 refine k3 _ ?_
 refine zk ⟨?_⟩
 refine v_seq ?_; intro Q4 n4 e4 r4
 refine v_seqR [0,1,6,11] ?_; intro K5 k5
 refine zMove ⟨?_⟩
 refine k5 _ ?_
 refine zk ⟨?_⟩
 refine v_cond _ rfl ?_ ?_
 ·intro hc0
  exfalso; simp at hc0
 ·intro hc0
  try simp only [zC, reduceCtorEq] at hc0
  refine v_skip ?_
  refine n4 _ _ (weak_keep [0, 1, 6] _) ?_
  refine zk ⟨?_⟩
  refine v_seq ?_; intro Q7 n7 e7 r7
  refine v_seqR [0,1,13] ?_; intro K8 k8
  refine zMove ⟨?_⟩
  refine k8 _ ?_
  refine zk ⟨?_⟩
  refine v_cond _ rfl ?_ ?_
  ·intro hc1
   exfalso; simp at hc1
  ·intro hc1
   try simp only [zC, reduceCtorEq] at hc1
   refine v_skip ?_
   refine n7 _ _ (weak_keep [0, 1] _) ?_
   refine zk ⟨?_⟩
   refine v_seq ?_; intro Q10 n10 e10 r10
   refine v_seqR [0,1,16] ?_; intro K11 k11
   refine zMove ⟨?_⟩
   refine zMove ⟨?_⟩
   refine zBinOp ⟨?_⟩
   refine k11 _ ?_
   refine zk ⟨?_⟩
   refine v_condS _ rfl ?_ ?_
   ·intro hc2
    refine v_seqR [4] ?_; intro K13 k13
    refine zAssign ⟨?_⟩
    refine k13 _ ?_
    refine zk ⟨?_⟩
    refine v_ret ?_
    refine r10 _ ?_
    refine r0 _ ?_
    refine zf ⟨?_⟩
    exact ret_pure rfl (by rw [cmpS, if_pos hc2]) (.inl rfl)
   ·intro hc2
    refine v_skip ?_
    refine n10 _ _ (weak_keep [0, 1] _) ?_
    refine zk ⟨?_⟩
    refine v_seq ?_; intro Q14 n14 e14 r14
    refine v_seqR [19] ?_; intro K15 k15
    refine zMove ⟨?_⟩
    refine zMove ⟨?_⟩
    refine zBinOp ⟨?_⟩
    refine k15 _ ?_
    refine zk ⟨?_⟩
    refine v_condS _ rfl ?_ ?_
    ·intro hc3
     refine v_seqR [4] ?_; intro K17 k17
     refine zAssign ⟨?_⟩
     refine k17 _ ?_
     refine zk ⟨?_⟩
     refine v_ret ?_
     refine r14 _ ?_
     refine r0 _ ?_
     refine zf ⟨?_⟩
     exact ret_pure rfl (by rw [cmpS, if_neg (by rw [hc2]; simp), if_neg (by intro h; simp [hc2, h] at hc3)]) (.inl rfl)
    ·intro hc3
     refine v_skip ?_
     refine n14 _ _ (weak_keep [] _) ?_
     refine zk ⟨?_⟩
     refine v_seqR [4] ?_; intro K18 k18
     refine zAssign ⟨?_⟩
     refine k18 _ ?_
     refine zk ⟨?_⟩
     refine v_ret ?_
     refine r0 _ ?_
     refine zf ⟨?_⟩
     exact ret_pure rfl (by rw [cmpS, if_neg (by rw [hc2]; simp), if_pos (by simp [hc2] at hc3; exact hc3)]) (.inl rfl)
set_option maxHeartbeats 1000000 in
theorem cmpOr_con (l : List Int) (hl : l.length ≤ 1048576) : Con Tryd.prog 158 [.sl (l.map (V.int .i64))] [] (.int .i64 (orL l)) [] := by
 refine v_con [.tmp 2] [] Tryd.func158 rfl rfl rfl (by simp [Tryd.ntmps158]) ?_
 intro Q0 n0 r0
 simp only [Tryd.ntmps158, envFrom, Nat.reduceAdd]
 have T := Tys.mk (And.intro Ty.t3 Ty.t36)
 have F := Fc.mk True.intro
 refine v_seqR [0] ?_; intro K1 k1
 refine zAssign ⟨?_⟩
 refine k1 _ ?_
 refine zk ⟨?_⟩
 refine v_seqR [0,3] ?_; intro K2 k2
 refine zAssign ⟨?_⟩
 refine k2 _ ?_
 refine zk ⟨?_⟩
 refine v_seq ?_; intro Q3 n3 e3 r3
 refine v_seqR [3,6,7,8] ?_; intro K4 k4
 refine zMove ⟨?_⟩
 refine zLen ⟨?_⟩
 refine zMove ⟨?_⟩
 refine k4 _ ?_
 refine zk ⟨?_⟩
 refine v_block ?_; intro Q5 n5 x5 e5 r5
 refine v_loop (fun i => ⟨[(3, .int .i64 0), (6, .sl (l.map (V.int .i64))), (7, .int .i64 l.length), (8, .int .i64 (Nat.cast i))], [], false, 18, 0⟩) (fun i => i ≤ l.length ∧ orL (l.drop i) = orL l) (fun i => l.length - i) 0 ?_ ?_ ?_
 ·refine weak_of [3, 6, 7, 8] ?_
  simp only [keep_mk, keepE_nil, keepE_cons, look_cons, look_nil, Nat.reduceEqDiff, reduceIte]
  rfl
 ·exact ⟨Nat.zero_le _, rfl⟩
 ·rintro i hok6 Q6 n6 e6 r6
  obtain ⟨hi1, hR⟩ := hok6
  refine v_seqR [3,6,7,8,9] ?_; intro K7 k7
  refine zBinOp ⟨?_⟩
  refine k7 _ ?_
  refine zk ⟨?_⟩
  refine v_seq ?_; intro Q8 n8 e8 r8
  refine v_condS _ rfl ?_ ?_
  ·intro hc0
   have hlt : i < l.length := by omega
   obtain ⟨y, hy⟩ : ∃ y, l[i]? = some y := ⟨l[i], List.getElem?_eq_getElem hlt⟩
   have hst := or_step hy
   refine v_skip ?_
   refine n8 _ _ (weak_keep [3, 6, 7, 8] _) ?_
   refine zk ⟨?_⟩
   refine v_seq ?_; intro Q10 n10 e10 r10
   refine v_block ?_; intro Q11 n11 x11 e11 r11
   refine v_seqR [3,5,6,7,8] ?_; intro K12 k12
   have F := Fc.mk (fun f => getD_map (f := f) hy)
   refine zIndexAddr ⟨?_⟩
   refine zLoad ⟨?_⟩
   refine zAssign ⟨?_⟩
   refine k12 _ ?_
   refine zk ⟨?_⟩
   refine v_seqR [3,5,6,7,8,14] ?_; intro K13 k13
   refine zMove ⟨?_⟩
   refine zMove ⟨?_⟩
   refine zBinOp ⟨?_⟩
   refine k13 _ ?_
   refine zk ⟨?_⟩
   refine v_condS _ rfl ?_ ?_
   ·intro hc1
    refine v_seqR [2] ?_; intro K15 k15
    refine zMove ⟨?_⟩
    refine zAssign ⟨?_⟩
    refine k15 _ ?_
    refine zk ⟨?_⟩
    refine v_ret ?_
    refine r11 _ ?_
    refine r10 _ ?_
    refine r6 _ ?_
    refine r5 _ ?_
    refine r3 _ ?_
    refine r0 _ ?_
    refine zf ⟨?_⟩
    exact ret_pure rfl (by rw [← hR, hst, if_pos hc1]) (.inl rfl)
   ·intro hc1
    refine v_skip ?_
    refine n11 _ ?_
    refine n10 _ _ (weak_keep [3, 6, 7, 8] _) ?_
    refine zk ⟨?_⟩
    refine v_region ?_; intro K16 k16
    refine zBinOpW ⟨?_⟩
    refine zMove ⟨?_⟩
    refine k16 _ ?_
    refine n6 _ (i + 1) ?_ ?_ ?_
    ·refine weak_of [3, 6, 7, 8] ?_
     simp only [keep_mk, keepE_nil, keepE_cons, look_cons, look_nil, Nat.reduceEqDiff, reduceIte]
     rfl
    ·exact ⟨by omega, by rw [← hR, hst, if_neg (by simp [hc1])]⟩
    ·show _ < _; omega
  ·intro hc0
   refine v_exit ?_
   refine e8 _ _ ?_
   refine e6 _ _ ?_
   refine x5 _ ?_
   refine n3 _ _ (weak_keep [3] _) ?_
   refine zk ⟨?_⟩
   refine v_seqR [2] ?_; intro K17 k17
   refine zMove ⟨?_⟩
   refine zAssign ⟨?_⟩
   refine k17 _ ?_
   refine zk ⟨?_⟩
   refine v_ret ?_
   refine r0 _ ?_
   refine zf ⟨?_⟩
   exact ret_pure rfl (by rw [← hR, or_end (by omega)]) (.inl rfl)
def chainFrom {α : Type} (ok : α → Bool) (bf : α → α → Bool) : Option α → List α → Bool
  | _, [] => true
  | none, x :: l => ok x && chainFrom ok bf (some x) l
  | some p, x :: l => ok x && bf p x && chainFrom ok bf (some x) l
def chainAt {α : Type} (ok : α → Bool) (bf : α → α → Bool) (l : List α) (i : Nat) : Bool := chainFrom ok bf (if i = 0 then none else l[i - 1]?) (l.drop i)
theorem chain_zero {α : Type} {ok : α → Bool} {bf : α → α → Bool} {l : List α} {x : α} (h : l[0]? = some x) : chainAt ok bf l 0 = (ok x && chainAt ok bf l 1) := by
  simp only [chainAt, getElem_drop_cons h, if_true, chainFrom]
  simp [h]
theorem chain_succ {α : Type} {ok : α → Bool} {bf : α → α → Bool} {l : List α} {x y : α} {i : Nat} (h0 : 0 < i) (hy : l[i - 1]? = some y) (h : l[i]? = some x) : chainAt ok bf l i = (ok x && bf y x && chainAt ok bf l (i + 1)) := by
  simp only [chainAt, getElem_drop_cons h, hy, show ¬ i = 0 by omega, if_false, chainFrom]
  simp [h]
theorem chain_end {α : Type} {ok : α → Bool} {bf : α → α → Bool} {l : List α} {i : Nat} (h : l.length ≤ i) : chainAt ok bf l i = true := by
  simp only [chainAt, List.drop_of_length_le h]
  split <;> rfl
theorem chainFrom_ok {α : Type} {ok : α → Bool} {bf : α → α → Bool} : ∀ {l : List α} {p : Option α}, chainFrom ok bf p l = true → ∀ x ∈ l, ok x = true
  | [], _, _, x, hx => by cases hx
  | y :: l, p, h, x, hx => by
    have h2 : ok y = true ∧ chainFrom ok bf (some y) l = true := by
      cases p <;> simp [chainFrom] at h <;> simp [h]
    rcases List.mem_cons.1 hx with rfl | h3
    · exact h2.1
    · exact chainFrom_ok h2.2 x h3
theorem chain_ok {α : Type} {ok : α → Bool} {bf : α → α → Bool} {l : List α} (h : chainAt ok bf l 0 = true) : ∀ x ∈ l, ok x = true := chainFrom_ok h

def tOne (x : (Int × ByteArray × Int × Int)) : Bool := (decide (1 ≤ x.1) && decide (x.1 ≤ 999)) && nameB x.2.1 && (decide (0 ≤ x.2.2.1) && decide (x.2.2.1 ≤ 999999)) && (decide (x.2.2.1 ≤ x.2.2.2) && decide (x.2.2.2 ≤ 999999))
def tBefore (x y : (Int × ByteArray × Int × Int)) : Bool := if x.2.2.1 ≠ y.2.2.1 then decide (x.2.2.1 < y.2.2.1) else if x.1 ≠ y.1 then decide (x.1 < y.1) else strLt x.2.1 y.2.1
def turnsB (l : List (Int × ByteArray × Int × Int)) : Bool := chainAt tOne tBefore l 0 && decide ((l.length : Int) ≤ 15)
theorem strLt_irrefl (a : ByteArray) : strLt a a = false := by
  unfold strLt
  generalize a.toList = l
  induction l with
  | nil => rfl
  | cons x l ih => simp [Op.bytesLess, ih]
theorem cmp_before (x y : (Int × ByteArray × Int × Int)) : (0 ≤ orL [cmpI x.2.2.1 y.2.2.1, cmpI x.1 y.1, cmpS x.2.1 y.2.1]) ↔ tBefore x y = false := by
  simp only [orL, cmpI, cmpS, tBefore]
  by_cases h1 : x.2.2.1 = y.2.2.1
  · by_cases h2 : x.1 = y.1
    · by_cases h3 : x.2.1 = y.2.1
      · simp [h1, h2, h3, strLt_irrefl]
      · by_cases h4 : strLt x.2.1 y.2.1 = true
        · simp [h1, h2, h3, h4]
        · simp only [Bool.not_eq_true] at h4; simp [h1, h2, h3, h4]
    · rcases Int.lt_or_gt_of_ne h2 with q | q
      · simp [h1, q, h2]
      · have : ¬ x.1 < y.1 := by omega
        simp [h1, q, h2, this]
  · rcases Int.lt_or_gt_of_ne h1 with q | q
    · simp [q, h1]
    · have : ¬ x.2.2.1 < y.2.2.1 := by omega
      simp [q, h1, this]

set_option maxHeartbeats 1000000 in
theorem dbIncident_con (n : Int) : Con Tryd.prog 112 [.int .i64 n] [] (.bool (decide (1 ≤ n) && decide (n ≤ 999))) [] := by
 refine v_con [.tmp 2] [] Tryd.func112 rfl rfl rfl (by simp [Tryd.ntmps112]) ?_
 intro Q0 n0 r0
 simp only [Tryd.ntmps112, envFrom, Nat.reduceAdd]
 have T := Tys.mk (And.intro Ty.t3 Ty.t4)
 have F := Fc.mk True.intro
 refine v_seqR [0] ?_; intro K1 k1
 refine zAssign ⟨?_⟩
 refine k1 _ ?_
 refine zk ⟨?_⟩
 refine v_seqR [2] ?_; intro K2 k2
 refine zMove ⟨?_⟩
 refine zc (l1In_con _ _ _) ⟨?_⟩
 refine zAssign ⟨?_⟩
 refine k2 _ ?_
 refine zk ⟨?_⟩
 refine v_ret ?_
 refine r0 _ ?_
 refine zf ⟨?_⟩
 exact ret_pure rfl (by first | rfl | simp) (.inl rfl)
set_option maxHeartbeats 1000000 in
theorem dbSecond_con (n : Int) : Con Tryd.prog 191 [.int .i64 n] [] (.bool (decide (0 ≤ n) && decide (n ≤ 999999))) [] := by
 refine v_con [.tmp 2] [] Tryd.func191 rfl rfl rfl (by simp [Tryd.ntmps191]) ?_
 intro Q0 n0 r0
 simp only [Tryd.ntmps191, envFrom, Nat.reduceAdd]
 have T := Tys.mk (And.intro Ty.t3 Ty.t4)
 have F := Fc.mk True.intro
 refine v_seqR [0] ?_; intro K1 k1
 refine zAssign ⟨?_⟩
 refine k1 _ ?_
 refine zk ⟨?_⟩
 refine v_seqR [2] ?_; intro K2 k2
 refine zMove ⟨?_⟩
 refine zc (l1In_con _ _ _) ⟨?_⟩
 refine zAssign ⟨?_⟩
 refine k2 _ ?_
 refine zk ⟨?_⟩
 refine v_ret ?_
 refine r0 _ ?_
 refine zf ⟨?_⟩
 exact ret_pure rfl (by first | rfl | simp) (.inl rfl)
set_option maxHeartbeats 1000000 in
theorem dbOne_con (x0 : Int) (x1 : ByteArray) (x2 : Int) (x3 : Int) (hs : x1.size ≤ 9223372036854775807) : Con Tryd.prog 161 [.agg [V.int .i64 x0, V.str x1, V.int .i64 x2, V.int .i64 x3]] [] (.bool (tOne (x0, x1, x2, x3))) [] := by
 refine v_con [.tmp 2] [] Tryd.func161 rfl rfl rfl (by simp [Tryd.ntmps161]) ?_
 intro Q0 n0 r0
 simp only [Tryd.ntmps161, envFrom, Nat.reduceAdd]
 have T := Tys.mk (And.intro Ty.t3 (And.intro Ty.t4 (And.intro Ty.t9 Ty.t62)))
 have F := Fc.mk True.intro
 refine v_seqR [1] ?_; intro K1 k1
 refine zBox ⟨?_⟩
 refine zAssign ⟨?_⟩
 refine k1 _ ?_
 refine zk ⟨?_⟩
 refine v_seqR [2] ?_; intro K2 k2
 refine zFieldAddr ⟨?_⟩
 refine zLoad ⟨?_⟩
 refine zc (dbIncident_con _) ⟨?_⟩
 refine zMove ⟨?_⟩
 refine zgFieldAddr ⟨?_⟩
 refine zgLoad ⟨?_⟩
 refine zgc (apName_con _ hs) ⟨?_⟩
 refine zPick ⟨?_⟩
 refine zMove ⟨?_⟩
 refine zgFieldAddr ⟨?_⟩
 refine zgLoad ⟨?_⟩
 refine zgc (dbSecond_con _) ⟨?_⟩
 refine zPick ⟨?_⟩
 refine zMove ⟨?_⟩
 refine zgFieldAddr ⟨?_⟩
 refine zgLoad ⟨?_⟩
 refine zgFieldAddr ⟨?_⟩
 refine zgLoad ⟨?_⟩
 refine zgc (l1In_con _ _ _) ⟨?_⟩
 refine zPick ⟨?_⟩
 refine zAssign ⟨?_⟩
 refine k2 _ ?_
 refine zk ⟨?_⟩
 refine v_ret ?_
 refine r0 _ ?_
 refine zf ⟨?_⟩
 exact ret_pure rfl (by first | rfl | simp [tOne, Bool.and_assoc]) (.inl rfl)
set_option maxHeartbeats 1000000 in
theorem dbBefore_con (x0 : Int) (x1 : ByteArray) (x2 : Int) (x3 : Int) (y0 : Int) (y1 : ByteArray) (y2 : Int) (y3 : Int) : Con Tryd.prog 156 [.agg [V.int .i64 x0, V.str x1, V.int .i64 x2, V.int .i64 x3], .agg [V.int .i64 y0, V.str y1, V.int .i64 y2, V.int .i64 y3]] [] (.bool (tBefore (x0, x1, x2, x3) (y0, y1, y2, y3))) [] := by
 refine v_con [.tmp 4] [] Tryd.func156 rfl rfl rfl (by simp [Tryd.ntmps156]) ?_
 intro Q0 n0 r0
 simp only [Tryd.ntmps156, envFrom, Nat.reduceAdd]
 have T := Tys.mk (And.intro Ty.t3 (And.intro Ty.t9 Ty.t62))
 have F := Fc.mk True.intro
 refine v_seqR [2,3] ?_; intro K1 k1
 refine zBox ⟨?_⟩
 refine zBox ⟨?_⟩
 refine zAssign ⟨?_⟩
 refine k1 _ ?_
 refine zk ⟨?_⟩
 refine v_seq ?_; intro Q2 n2 e2 r2
 refine v_block ?_; intro Q3 n3 x3 e3 r3
 refine v_seqR [2,3,5] ?_; intro K4 k4
 refine zFieldAddr ⟨?_⟩
 refine zLoad ⟨?_⟩
 refine zFieldAddr ⟨?_⟩
 refine zLoad ⟨?_⟩
 refine zBinOp ⟨?_⟩
 refine zAssign ⟨?_⟩
 refine k4 _ ?_
 refine zk ⟨?_⟩
 refine v_condS _ rfl ?_ ?_
 ·intro hc0
  refine v_seqR [4] ?_; intro K6 k6
  refine zFieldAddr ⟨?_⟩
  refine zLoad ⟨?_⟩
  refine zFieldAddr ⟨?_⟩
  refine zLoad ⟨?_⟩
  refine zBinOp ⟨?_⟩
  refine zAssign ⟨?_⟩
  refine k6 _ ?_
  refine zk ⟨?_⟩
  refine v_ret ?_
  refine r3 _ ?_
  refine r2 _ ?_
  refine r0 _ ?_
  refine zf ⟨?_⟩
  exact ret_pure rfl (by rw [tBefore, if_pos hc0]) (.inl rfl)
 ·intro hc0
  refine v_seqR [2,3,16] ?_; intro K7 k7
  refine zFieldAddr ⟨?_⟩
  refine zLoad ⟨?_⟩
  refine zFieldAddr ⟨?_⟩
  refine zLoad ⟨?_⟩
  refine zBinOp ⟨?_⟩
  refine zAssign ⟨?_⟩
  refine k7 _ ?_
  refine zk ⟨?_⟩
  refine v_condS _ rfl ?_ ?_
  ·intro hc1
   refine v_seqR [4] ?_; intro K9 k9
   refine zFieldAddr ⟨?_⟩
   refine zLoad ⟨?_⟩
   refine zFieldAddr ⟨?_⟩
   refine zLoad ⟨?_⟩
   refine zBinOp ⟨?_⟩
   refine zAssign ⟨?_⟩
   refine k9 _ ?_
   refine zk ⟨?_⟩
   refine v_ret ?_
   refine r3 _ ?_
   refine r2 _ ?_
   refine r0 _ ?_
   refine zf ⟨?_⟩
   exact ret_pure rfl (by rw [tBefore, if_neg (by simp [hc0]), if_pos hc1]) (.inl rfl)
  ·intro hc1
   refine v_skip ?_
   refine n3 _ ?_
   refine n2 _ _ (weak_keep [2, 3] _) ?_
   refine zk ⟨?_⟩
   refine v_seqR [4] ?_; intro K10 k10
   refine zFieldAddr ⟨?_⟩
   refine zLoad ⟨?_⟩
   refine zFieldAddr ⟨?_⟩
   refine zLoad ⟨?_⟩
   refine zBinOp ⟨?_⟩
   refine zAssign ⟨?_⟩
   refine k10 _ ?_
   refine zk ⟨?_⟩
   refine v_ret ?_
   refine r0 _ ?_
   refine zf ⟨?_⟩
   exact ret_pure rfl (by rw [tBefore, if_neg (by simp [hc0]), if_neg (by simp [hc1])]) (.inl rfl)
end Go.Proofs.YtbameklegpgkfaaDoor
