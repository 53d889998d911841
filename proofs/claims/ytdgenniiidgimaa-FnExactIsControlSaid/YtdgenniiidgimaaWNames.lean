/- What functions compute (Names). No condition. -/
import Derived.Test.YtdgenniiidgimaaTy
import Derived.Test.YtdgenniiidgimaaVmG
import Derived.Test.YtdgenniiidgimaaWBase
set_option linter.unusedSimpArgs false
set_option linter.unusedVariables false
set_option linter.defProp false
namespace Go.Proofs.Ytdgenniiidgimaa
open Go Go.Vm

def okAt (s : ByteArray) (i : Nat) : Bool := (decide (97 ≤ byteAt s i) && decide (byteAt s i ≤ 122)) || ((decide (48 ≤ byteAt s i) && decide (byteAt s i ≤ 57)) && !decide (i = 0))
def nameB (s : ByteArray) : Bool := (List.range s.size).all (okAt s) && (decide (1 ≤ (s.size : Int)) && decide ((s.size : Int) ≤ 6))
theorem name_bad {s : ByteArray} {i : Nat} (hi : i < s.size) (h : okAt s i = false) : nameB s = false := by
  have : (List.range s.size).all (okAt s) = false := by
    rw [List.all_eq_false]
    exact ⟨i, List.mem_range.2 hi, by rw [h]; simp⟩
  rw [nameB, this]; rfl
theorem name_good {s : ByteArray} {i : Nat} (hi : s.size ≤ i) (h : ∀ j, j < i → okAt s j = true) : nameB s = (decide (1 ≤ (s.size : Int)) && decide ((s.size : Int) ≤ 6)) := by
  have : (List.range s.size).all (okAt s) = true := by
    rw [List.all_eq_true]
    intro j hj
    exact h j (Nat.lt_of_lt_of_le (List.mem_range.1 hj) hi)
  rw [nameB, this]; rfl
theorem ok_step {s : ByteArray} {i : Nat} (h : ∀ j, j < i → okAt s j = true) (hi : okAt s i = true) : ∀ j, j < i + 1 → okAt s j = true := by
  intro j hj
  rcases Nat.lt_or_ge j i with q | q
  · exact h j q
  · have : j = i := by omega
    subst this; exact hi

set_option maxHeartbeats 1000000 in
theorem apName_con (s : ByteArray) (hs : s.size ≤ 9223372036854775807) : Con Try.prog 224 [.str s] [] (.bool (nameB s)) [] := by
 refine v_con [.tmp 2] [] Try.func224 rfl rfl rfl (by simp [Try.ntmps224]) ?_
 intro Q0 n0 r0
 simp only [Try.ntmps224, envFrom, Nat.reduceAdd]
 have T := Tys.mk (And.intro Ty.t3 (And.intro Ty.t4 (And.intro Ty.t5 Ty.t9)))
 have F := Fc.mk True.intro
 refine v_seq ?_; intro Q1 n1 e1 r1
 refine v_region ?_; intro K2 k2
 refine zAssign ⟨?_⟩
 refine k2 _ ?_
 refine n1 _ _ (weak_keep [0] _) ?_
 refine zk ⟨?_⟩
 refine v_seq ?_; intro Q3 n3 e3 r3
 refine v_seq ?_; intro Q4 n4 e4 r4
 refine v_region ?_; intro K5 k5
 refine zAssign ⟨?_⟩
 refine k5 _ ?_
 refine n4 _ _ (weak_keep [0, 3] _) ?_
 refine zk ⟨?_⟩
 refine v_block ?_; intro Q6 n6 x6 e6 r6
 refine v_loop (fun i => ⟨[(0, .str s), (3, .int .i64 (Nat.cast i))], [], false, 45, 0⟩) (fun i => i ≤ s.size ∧ ∀ j, j < i → okAt s j = true) (fun i => s.size - i) 0 ?_ ?_ ?_
 ·refine weak_of [0, 3] ?_
  simp only [keep_mk, keepE_nil, keepE_cons, look_cons, look_nil, Nat.reduceEqDiff, reduceIte]
  rfl
 ·exact ⟨Nat.zero_le _, fun j h => absurd h (Nat.not_lt_zero _)⟩
 ·rintro i hok7 Q7 n7 e7 r7
  obtain ⟨hi1, hR⟩ := hok7
  refine v_seq ?_; intro Q8 n8 e8 r8
  refine v_seq ?_; intro Q9 n9 e9 r9
  refine v_region ?_; intro K10 k10
  refine zMove ⟨?_⟩
  refine zMove ⟨?_⟩
  refine zLen ⟨?_⟩
  refine zBinOp ⟨?_⟩
  refine k10 _ ?_
  refine n9 _ _ (weak_keep [0, 3, 9] _) ?_
  refine zk ⟨?_⟩
  refine v_condS _ rfl ?_ ?_
  ·intro hc0
   have hlt : i < s.size := by omega
   refine v_skip ?_
   refine n8 _ _ (weak_keep [0, 3] _) ?_
   refine zk ⟨?_⟩
   refine v_seq ?_; intro Q12 n12 e12 r12
   refine v_block ?_; intro Q13 n13 x13 e13 r13
   refine v_seq ?_; intro Q14 n14 e14 r14
   refine v_region ?_; intro K15 k15
   refine zMove ⟨?_⟩
   refine zMove ⟨?_⟩
   refine zIndex ⟨?_⟩
   refine zBinOp ⟨?_⟩
   refine zMove ⟨?_⟩
   refine zgMove ⟨?_⟩
   refine zgMove ⟨?_⟩
   refine zgIndex ⟨?_⟩
   refine zgBinOp ⟨?_⟩
   refine zPick ⟨?_⟩
   refine zAssign ⟨?_⟩
   refine k15 _ ?_
   refine n14 _ _ (weak_keep [0, 3, 4] _) ?_
   refine zk ⟨?_⟩
   refine v_seq ?_; intro Q16 n16 e16 r16
   refine v_region ?_; intro K17 k17
   refine zMove ⟨?_⟩
   refine zMove ⟨?_⟩
   refine zIndex ⟨?_⟩
   refine zBinOp ⟨?_⟩
   refine zMove ⟨?_⟩
   refine zgMove ⟨?_⟩
   refine zgMove ⟨?_⟩
   refine zgIndex ⟨?_⟩
   refine zgBinOp ⟨?_⟩
   refine zPick ⟨?_⟩
   refine zAssign ⟨?_⟩
   refine k17 _ ?_
   refine n16 _ _ (weak_keep [0, 3, 4, 5] _) ?_
   refine zk ⟨?_⟩
   refine v_seq ?_; intro Q18 n18 e18 r18
   refine v_region ?_; intro K19 k19
   refine zMove ⟨?_⟩
   refine zUnOp ⟨?_⟩
   refine zMove ⟨?_⟩
   refine zgMove ⟨?_⟩
   refine zgUnOp ⟨?_⟩
   refine zgMove ⟨?_⟩
   refine zgMove ⟨?_⟩
   refine zgBinOp ⟨?_⟩
   refine zgPick ⟨?_⟩
   refine zPick ⟨?_⟩
   refine k19 _ ?_
   refine n18 _ _ (weak_keep [0, 3, 41] _) ?_
   refine zk ⟨?_⟩
   refine v_condS _ rfl ?_ ?_
   ·intro hc1
    have hbad : okAt s i = false := by simp only [okAt, Bool.or_eq_false_iff, Bool.and_eq_false_imp, decide_eq_true_eq, decide_eq_false_iff_not, Bool.not_eq_false', Bool.and_eq_true]; omega
    refine v_seq ?_; intro Q21 n21 e21 r21
    refine v_region ?_; intro K22 k22
    refine zAssign ⟨?_⟩
    refine k22 _ ?_
    refine n21 _ _ (weak_keep [2] _) ?_
    refine zk ⟨?_⟩
    refine v_ret ?_
    refine r13 _ ?_
    refine r12 _ ?_
    refine r7 _ ?_
    refine r6 _ ?_
    refine r3 _ ?_
    refine r0 _ ?_
    refine zf ⟨?_⟩
    exact ret_pure rfl (by rw [name_bad hlt hbad]) (.inl rfl)
   ·intro hc1
    have hgood : okAt s i = true := by simp only [okAt, Bool.or_eq_true, Bool.and_eq_true, decide_eq_true_eq, Bool.not_eq_true', decide_eq_false_iff_not]; omega
    refine v_skip ?_
    refine n13 _ ?_
    refine n12 _ _ (weak_keep [0, 3] _) ?_
    refine zk ⟨?_⟩
    refine v_region ?_; intro K23 k23
    refine zMove ⟨?_⟩
    refine zBinOpW ⟨?_⟩
    refine zAssign ⟨?_⟩
    refine k23 _ ?_
    refine n7 _ (i + 1) ?_ ?_ ?_
    ·refine weak_of [0, 3] ?_
     simp only [keep_mk, keepE_nil, keepE_cons, look_cons, look_nil, Nat.reduceEqDiff, reduceIte]
     rfl
    ·exact ⟨by omega, ok_step hR hgood⟩
    ·show _ < _; omega
  ·intro hc0
   refine v_exit ?_
   refine e8 _ _ ?_
   refine e7 _ _ ?_
   refine x6 _ ?_
   refine n3 _ _ (weak_keep [0] _) ?_
   refine zk ⟨?_⟩
   refine v_seq ?_; intro Q24 n24 e24 r24
   refine v_region ?_; intro K25 k25
   refine zMove ⟨?_⟩
   refine zLen ⟨?_⟩
   refine zc (l1In_con _ _ _) ⟨?_⟩
   refine zAssign ⟨?_⟩
   refine k25 _ ?_
   refine n24 _ _ (weak_keep [2] _) ?_
   refine zk ⟨?_⟩
   refine v_ret ?_
   refine r0 _ ?_
   refine zf ⟨?_⟩
   exact ret_pure rfl (by rw [name_good (by omega) hR]) (.inl rfl)
set_option maxHeartbeats 1000000 in
theorem isName_con (s : ByteArray) (hs : s.size ≤ 9223372036854775807) : Con Try.prog 217 [.str s] [] (.bool (nameB s)) [] := by
 refine v_con [.tmp 2] [] Try.func217 rfl rfl rfl (by simp [Try.ntmps217]) ?_
 intro Q0 n0 r0
 simp only [Try.ntmps217, envFrom, Nat.reduceAdd]
 have T := Tys.mk (And.intro Ty.t3 (And.intro Ty.t4 (And.intro Ty.t5 Ty.t9)))
 have F := Fc.mk True.intro
 refine v_seq ?_; intro Q1 n1 e1 r1
 refine v_region ?_; intro K2 k2
 refine zAssign ⟨?_⟩
 refine k2 _ ?_
 refine n1 _ _ (weak_keep [0] _) ?_
 refine zk ⟨?_⟩
 refine v_seq ?_; intro Q3 n3 e3 r3
 refine v_seq ?_; intro Q4 n4 e4 r4
 refine v_region ?_; intro K5 k5
 refine zMove ⟨?_⟩
 refine zLen ⟨?_⟩
 refine zMove ⟨?_⟩
 refine k5 _ ?_
 refine n4 _ _ (weak_keep [0, 7, 8] _) ?_
 refine zk ⟨?_⟩
 refine v_block ?_; intro Q6 n6 x6 e6 r6
 refine v_loop (fun i => ⟨[(0, .str s), (7, .int .i64 s.size), (8, .int .i64 (Nat.cast i))], [], false, 45, 0⟩) (fun i => i ≤ s.size ∧ ∀ j, j < i → okAt s j = true) (fun i => s.size - i) 0 ?_ ?_ ?_
 ·refine weak_of [0, 7, 8] ?_
  simp only [keep_mk, keepE_nil, keepE_cons, look_cons, look_nil, Nat.reduceEqDiff, reduceIte]
  rfl
 ·exact ⟨Nat.zero_le _, fun j h => absurd h (Nat.not_lt_zero _)⟩
 ·rintro i hok7 Q7 n7 e7 r7
  obtain ⟨hi1, hR⟩ := hok7
  refine v_seq ?_; intro Q8 n8 e8 r8
  refine v_region ?_; intro K9 k9
  refine zBinOp ⟨?_⟩
  refine k9 _ ?_
  refine n8 _ _ (weak_keep [0, 7, 8, 9] _) ?_
  refine zk ⟨?_⟩
  refine v_seq ?_; intro Q10 n10 e10 r10
  refine v_condS _ rfl ?_ ?_
  ·intro hc0
   have hlt : i < s.size := by omega
   refine v_skip ?_
   refine n10 _ _ (weak_keep [0, 7, 8] _) ?_
   refine zk ⟨?_⟩
   refine v_seq ?_; intro Q12 n12 e12 r12
   refine v_block ?_; intro Q13 n13 x13 e13 r13
   refine v_seq ?_; intro Q14 n14 e14 r14
   refine v_region ?_; intro K15 k15
   refine zMove ⟨?_⟩
   refine zAssign ⟨?_⟩
   refine k15 _ ?_
   refine n14 _ _ (weak_keep [0, 3, 7, 8] _) ?_
   refine zk ⟨?_⟩
   refine v_seq ?_; intro Q16 n16 e16 r16
   refine v_draw (by kernel_rfl) ?_; intro K17 q17 k17
   show aAny _ _ _ _ 22 (Array.replicate 22 false) _
   refine zdMove q17 true 0 11 ?_
   refine zdMove q17 true 1 12 ?_
   refine zdIndex q17 true 2 13 ?_
   refine zdBinOp q17 true 3 14 ?_
   refine zdMove q17 true 4 15 ?_
   refine zdgMove q17 true 5 16 ?_
   refine zdgMove q17 true 6 17 ?_
   refine zdgIndex q17 true 7 18 ?_
   refine zdgBinOp q17 true 8 19 ?_
   refine zdPick q17 true 9 20 ?_
   refine zdMove q17 true 10 21 ?_
   refine zdMove q17 true 11 22 ?_
   refine zdIndex q17 true 12 23 ?_
   refine zdBinOp q17 true 13 24 ?_
   refine zdMove q17 true 14 25 ?_
   refine zdgMove q17 true 15 26 ?_
   refine zdgMove q17 true 16 27 ?_
   refine zdgIndex q17 true 17 28 ?_
   refine zdgBinOp q17 true 18 29 ?_
   refine zdPick q17 true 19 30 ?_
   refine zoAssign 20 ⟨?_⟩
   refine zoAssign 21 ⟨?_⟩
   refine aAny_done (by kernel_rfl) ?_
   refine k17 _ ?_
   refine n16 _ _ (weak_keep [0, 3, 4, 5, 7, 8] _) ?_
   refine zk ⟨?_⟩
   refine v_seq ?_; intro Q18 n18 e18 r18
   refine v_region ?_; intro K19 k19
   refine zMove ⟨?_⟩
   refine zUnOp ⟨?_⟩
   refine zMove ⟨?_⟩
   refine zgMove ⟨?_⟩
   refine zgUnOp ⟨?_⟩
   refine zgMove ⟨?_⟩
   refine zgMove ⟨?_⟩
   refine zgBinOp ⟨?_⟩
   refine zgPick ⟨?_⟩
   refine zPick ⟨?_⟩
   refine k19 _ ?_
   refine n18 _ _ (weak_keep [0, 7, 8, 40] _) ?_
   refine zk ⟨?_⟩
   refine v_condS _ rfl ?_ ?_
   ·intro hc1
    have hbad : okAt s i = false := by simp only [okAt, Bool.or_eq_false_iff, Bool.and_eq_false_imp, decide_eq_true_eq, decide_eq_false_iff_not, Bool.not_eq_false', Bool.and_eq_true]; omega
    refine v_seq ?_; intro Q21 n21 e21 r21
    refine v_region ?_; intro K22 k22
    refine zAssign ⟨?_⟩
    refine k22 _ ?_
    refine n21 _ _ (weak_keep [2] _) ?_
    refine zk ⟨?_⟩
    refine v_ret ?_
    refine r13 _ ?_
    refine r12 _ ?_
    refine r7 _ ?_
    refine r6 _ ?_
    refine r3 _ ?_
    refine r0 _ ?_
    refine zf ⟨?_⟩
    exact ret_pure rfl (by rw [name_bad hlt hbad]) (.inl rfl)
   ·intro hc1
    have hgood : okAt s i = true := by simp only [okAt, Bool.or_eq_true, Bool.and_eq_true, decide_eq_true_eq, Bool.not_eq_true', decide_eq_false_iff_not]; omega
    refine v_skip ?_
    refine n13 _ ?_
    refine n12 _ _ (weak_keep [0, 7, 8] _) ?_
    refine zk ⟨?_⟩
    refine v_region ?_; intro K23 k23
    refine zBinOpW ⟨?_⟩
    refine zMove ⟨?_⟩
    refine k23 _ ?_
    refine n7 _ (i + 1) ?_ ?_ ?_
    ·refine weak_of [0, 7, 8] ?_
     simp only [keep_mk, keepE_nil, keepE_cons, look_cons, look_nil, Nat.reduceEqDiff, reduceIte]
     rfl
    ·exact ⟨by omega, ok_step hR hgood⟩
    ·show _ < _; omega
  ·intro hc0
   refine v_exit ?_
   refine e10 _ _ ?_
   refine e7 _ _ ?_
   refine x6 _ ?_
   refine n3 _ _ (weak_keep [0] _) ?_
   refine zk ⟨?_⟩
   refine v_seq ?_; intro Q24 n24 e24 r24
   refine v_region ?_; intro K25 k25
   refine zMove ⟨?_⟩
   refine zLen ⟨?_⟩
   refine zc (inside_con _ _ _) ⟨?_⟩
   refine zAssign ⟨?_⟩
   refine k25 _ ?_
   refine n24 _ _ (weak_keep [2] _) ?_
   refine zk ⟨?_⟩
   refine v_ret ?_
   refine r0 _ ?_
   refine zf ⟨?_⟩
   exact ret_pure rfl (by rw [name_good (by omega) hR]) (.inl rfl)
end Go.Proofs.Ytdgenniiidgimaa
