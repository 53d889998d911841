/- What functions compute (Cmp). No condition. -/
import Derived.Test.YtdgenniiidgimaaTy
import Derived.Test.YtdgenniiidgimaaVmG
import Derived.Test.YtdgenniiidgimaaWBase
set_option linter.unusedSimpArgs false
set_option linter.unusedVariables false
set_option linter.defProp false
namespace Go.Proofs.Ytdgenniiidgimaa
open Go Go.Vm

set_option maxHeartbeats 1000000 in
theorem isNaN_int_con (a : Int) : Con Try.prog 206 [V.int .i64 a] [] (.bool false) [] := by
 refine v_con [.tmp 2] [] Try.func206 rfl rfl rfl (by simp [Try.ntmps206]) ?_
 intro Q0 n0 r0
 simp only [Try.ntmps206, envFrom, Nat.reduceAdd]
 have T := Tys.mk Ty.t3
 have F := Fc.mk True.intro
 refine v_seq ?_; intro Q1 n1 e1 r1
 refine v_region ?_; intro K2 k2
 refine zAssign ⟨?_⟩
 refine k2 _ ?_
 refine n1 _ _ (weak_keep [0] _) ?_
 refine zk ⟨?_⟩
 refine v_seq ?_; intro Q3 n3 e3 r3
 refine v_region ?_; intro K4 k4
 refine zMove ⟨?_⟩
 refine zMove ⟨?_⟩
 refine zBinOp ⟨?_⟩
 refine zAssign ⟨?_⟩
 refine k4 _ ?_
 refine n3 _ _ (weak_keep [2] _) ?_
 refine zk ⟨?_⟩
 refine v_ret ?_
 refine r0 _ ?_
 refine zf ⟨?_⟩
 exact ret_pure rfl (by first | rfl | simp) (.inl rfl)
def cmpI (a b : Int) : Int := if a < b then -1 else if b < a then 1 else 0
def cmpS (a b : ByteArray) : Int := if strLt a b = true then -1 else if a = b then 0 else 1
def orL : List Int → Int
  | [] => 0
  | x :: l => if x ≠ 0 then x else orL l
theorem or_step {l : List Int} {i : Nat} {x : Int} (h : l[i]? = some x) : orL (l.drop i) = if x ≠ 0 then x else orL (l.drop (i + 1)) := by
  rw [getElem_drop_cons h, orL]
theorem or_end {l : List Int} {i : Nat} (h : l.length ≤ i) : orL (l.drop i) = 0 := by
  rw [List.drop_of_length_le h, orL]

set_option maxHeartbeats 1000000 in
theorem cmpInt_con (a b : Int) : Con Try.prog 179 [.int .i64 a, .int .i64 b] [] (.int .i64 (cmpI a b)) [] := by
 refine v_con [.tmp 4] [] Try.func179 rfl rfl rfl (by simp [Try.ntmps179]) ?_
 intro Q0 n0 r0
 simp only [Try.ntmps179, envFrom, Nat.reduceAdd]
 have T := Tys.mk (And.intro Ty.t3 Ty.t4)
 have F := Fc.mk True.intro
 refine v_seq ?_; intro Q1 n1 e1 r1
 refine v_region ?_; intro K2 k2
 refine zAssign ⟨?_⟩
 refine k2 _ ?_
 refine n1 _ _ (weak_keep [0, 1] _) ?_
 refine zk ⟨?_⟩
 refine v_seq ?_; intro Q3 n3 e3 r3
 refine v_region ?_; intro K4 k4
 refine zMove ⟨?_⟩
 refine zc (isNaN_int_con _) ⟨?_⟩
 refine zAssign ⟨?_⟩
 refine k4 _ ?_
 refine n3 _ _ (weak_keep [0, 1, 5] _) ?_
 refine zk ⟨?_⟩
 refine v_seq ?_; intro Q5 n5 e5 r5
 refine v_region ?_; intro K6 k6
 refine zMove ⟨?_⟩
 refine zc (isNaN_int_con _) ⟨?_⟩
 refine zAssign ⟨?_⟩
 refine k6 _ ?_
 refine n5 _ _ (weak_keep [0, 1, 5, 6] _) ?_
 refine zk ⟨?_⟩
 refine v_seq ?_; intro Q7 n7 e7 r7
 refine v_seq ?_; intro Q8 n8 e8 r8
 refine v_region ?_; intro K9 k9
 refine zMove ⟨?_⟩
 refine k9 _ ?_
 refine n8 _ _ (weak_keep [0, 1, 6, 11] _) ?_
 refine zk ⟨?_⟩
 refine v_cond _ rfl ?_ ?_
 ·intro hc0
  exfalso; simp at hc0
 ·intro hc0
  try simp only [zC, reduceCtorEq] at hc0
  refine v_skip ?_
  refine n7 _ _ (weak_keep [0, 1, 6] _) ?_
  refine zk ⟨?_⟩
  refine v_seq ?_; intro Q11 n11 e11 r11
  refine v_seq ?_; intro Q12 n12 e12 r12
  refine v_region ?_; intro K13 k13
  refine zMove ⟨?_⟩
  refine k13 _ ?_
  refine n12 _ _ (weak_keep [0, 1, 13] _) ?_
  refine zk ⟨?_⟩
  refine v_cond _ rfl ?_ ?_
  ·intro hc1
   exfalso; simp at hc1
  ·intro hc1
   try simp only [zC, reduceCtorEq] at hc1
   refine v_skip ?_
   refine n11 _ _ (weak_keep [0, 1] _) ?_
   refine zk ⟨?_⟩
   refine v_seq ?_; intro Q15 n15 e15 r15
   refine v_seq ?_; intro Q16 n16 e16 r16
   refine v_region ?_; intro K17 k17
   refine zMove ⟨?_⟩
   refine zMove ⟨?_⟩
   refine zBinOp ⟨?_⟩
   refine k17 _ ?_
   refine n16 _ _ (weak_keep [0, 1, 16] _) ?_
   refine zk ⟨?_⟩
   refine v_condS _ rfl ?_ ?_
   ·intro hc2
    refine v_seq ?_; intro Q19 n19 e19 r19
    refine v_region ?_; intro K20 k20
    refine zAssign ⟨?_⟩
    refine k20 _ ?_
    refine n19 _ _ (weak_keep [4] _) ?_
    refine zk ⟨?_⟩
    refine v_ret ?_
    refine r15 _ ?_
    refine r0 _ ?_
    refine zf ⟨?_⟩
    exact ret_pure rfl (by rw [cmpI, if_pos hc2]) (.inl rfl)
   ·intro hc2
    refine v_skip ?_
    refine n15 _ _ (weak_keep [0, 1] _) ?_
    refine zk ⟨?_⟩
    refine v_seq ?_; intro Q21 n21 e21 r21
    refine v_seq ?_; intro Q22 n22 e22 r22
    refine v_region ?_; intro K23 k23
    refine zMove ⟨?_⟩
    refine zMove ⟨?_⟩
    refine zBinOp ⟨?_⟩
    refine k23 _ ?_
    refine n22 _ _ (weak_keep [19] _) ?_
    refine zk ⟨?_⟩
    refine v_condS _ rfl ?_ ?_
    ·intro hc3
     refine v_seq ?_; intro Q25 n25 e25 r25
     refine v_region ?_; intro K26 k26
     refine zAssign ⟨?_⟩
     refine k26 _ ?_
     refine n25 _ _ (weak_keep [4] _) ?_
     refine zk ⟨?_⟩
     refine v_ret ?_
     refine r21 _ ?_
     refine r0 _ ?_
     refine zf ⟨?_⟩
     exact ret_pure rfl (by rw [cmpI, if_neg (by omega), if_pos hc3]) (.inl rfl)
    ·intro hc3
     refine v_skip ?_
     refine n21 _ _ (weak_keep [] _) ?_
     refine zk ⟨?_⟩
     refine v_seq ?_; intro Q27 n27 e27 r27
     refine v_region ?_; intro K28 k28
     refine zAssign ⟨?_⟩
     refine k28 _ ?_
     refine n27 _ _ (weak_keep [4] _) ?_
     refine zk ⟨?_⟩
     refine v_ret ?_
     refine r0 _ ?_
     refine zf ⟨?_⟩
     exact ret_pure rfl (by rw [cmpI, if_neg (by omega), if_neg (by omega)]) (.inl rfl)
set_option maxHeartbeats 1000000 in
theorem cmpOr_con (l : List Int) (hl : l.length ≤ 1048576) : Con Try.prog 216 [.sl (l.map (V.int .i64))] [] (.int .i64 (orL l)) [] := by
 refine v_con [.tmp 2] [] Try.func216 rfl rfl rfl (by simp [Try.ntmps216]) ?_
 intro Q0 n0 r0
 simp only [Try.ntmps216, envFrom, Nat.reduceAdd]
 have T := Tys.mk (And.intro Ty.t3 Ty.t26)
 have F := Fc.mk True.intro
 refine v_seq ?_; intro Q1 n1 e1 r1
 refine v_region ?_; intro K2 k2
 refine zAssign ⟨?_⟩
 refine k2 _ ?_
 refine n1 _ _ (weak_keep [0] _) ?_
 refine zk ⟨?_⟩
 refine v_seq ?_; intro Q3 n3 e3 r3
 refine v_region ?_; intro K4 k4
 refine zAssign ⟨?_⟩
 refine k4 _ ?_
 refine n3 _ _ (weak_keep [0, 3] _) ?_
 refine zk ⟨?_⟩
 refine v_seq ?_; intro Q5 n5 e5 r5
 refine v_seq ?_; intro Q6 n6 e6 r6
 refine v_region ?_; intro K7 k7
 refine zMove ⟨?_⟩
 refine zLen ⟨?_⟩
 refine zMove ⟨?_⟩
 refine k7 _ ?_
 refine n6 _ _ (weak_keep [3, 6, 7, 8] _) ?_
 refine zk ⟨?_⟩
 refine v_block ?_; intro Q8 n8 x8 e8 r8
 refine v_loop (fun i => ⟨[(3, .int .i64 0), (6, .sl (l.map (V.int .i64))), (7, .int .i64 l.length), (8, .int .i64 (Nat.cast i))], [], false, 18, 0⟩) (fun i => i ≤ l.length ∧ orL (l.drop i) = orL l) (fun i => l.length - i) 0 ?_ ?_ ?_
 ·refine weak_of [3, 6, 7, 8] ?_
  simp only [keep_mk, keepE_nil, keepE_cons, look_cons, look_nil, Nat.reduceEqDiff, reduceIte]
  rfl
 ·exact ⟨Nat.zero_le _, rfl⟩
 ·rintro i hok9 Q9 n9 e9 r9
  obtain ⟨hi1, hR⟩ := hok9
  refine v_seq ?_; intro Q10 n10 e10 r10
  refine v_region ?_; intro K11 k11
  refine zBinOp ⟨?_⟩
  refine k11 _ ?_
  refine n10 _ _ (weak_keep [3, 6, 7, 8, 9] _) ?_
  refine zk ⟨?_⟩
  refine v_seq ?_; intro Q12 n12 e12 r12
  refine v_condS _ rfl ?_ ?_
  ·intro hc0
   have hlt : i < l.length := by omega
   obtain ⟨y, hy⟩ : ∃ y, l[i]? = some y := ⟨l[i], List.getElem?_eq_getElem hlt⟩
   have hst := or_step hy
   refine v_skip ?_
   refine n12 _ _ (weak_keep [3, 6, 7, 8] _) ?_
   refine zk ⟨?_⟩
   refine v_seq ?_; intro Q14 n14 e14 r14
   refine v_block ?_; intro Q15 n15 x15 e15 r15
   refine v_seq ?_; intro Q16 n16 e16 r16
   refine v_region ?_; intro K17 k17
   have F := Fc.mk (fun f => getD_map (f := f) hy)
   refine zIndexAddr ⟨?_⟩
   refine zLoad ⟨?_⟩
   refine zAssign ⟨?_⟩
   refine k17 _ ?_
   refine n16 _ _ (weak_keep [3, 5, 6, 7, 8] _) ?_
   refine zk ⟨?_⟩
   refine v_seq ?_; intro Q18 n18 e18 r18
   refine v_region ?_; intro K19 k19
   refine zMove ⟨?_⟩
   refine zMove ⟨?_⟩
   refine zBinOp ⟨?_⟩
   refine k19 _ ?_
   refine n18 _ _ (weak_keep [3, 5, 6, 7, 8, 14] _) ?_
   refine zk ⟨?_⟩
   refine v_condS _ rfl ?_ ?_
   ·intro hc1
    refine v_seq ?_; intro Q21 n21 e21 r21
    refine v_region ?_; intro K22 k22
    refine zMove ⟨?_⟩
    refine zAssign ⟨?_⟩
    refine k22 _ ?_
    refine n21 _ _ (weak_keep [2] _) ?_
    refine zk ⟨?_⟩
    refine v_ret ?_
    refine r15 _ ?_
    refine r14 _ ?_
    refine r9 _ ?_
    refine r8 _ ?_
    refine r5 _ ?_
    refine r0 _ ?_
    refine zf ⟨?_⟩
    exact ret_pure rfl (by rw [← hR, hst, if_pos hc1]) (.inl rfl)
   ·intro hc1
    refine v_skip ?_
    refine n15 _ ?_
    refine n14 _ _ (weak_keep [3, 6, 7, 8] _) ?_
    refine zk ⟨?_⟩
    refine v_region ?_; intro K23 k23
    refine zBinOpW ⟨?_⟩
    refine zMove ⟨?_⟩
    refine k23 _ ?_
    refine n9 _ (i + 1) ?_ ?_ ?_
    ·refine weak_of [3, 6, 7, 8] ?_
     simp only [keep_mk, keepE_nil, keepE_cons, look_cons, look_nil, Nat.reduceEqDiff, reduceIte]
     rfl
    ·exact ⟨by omega, by rw [← hR, hst, if_neg (by simp [hc1])]⟩
    ·show _ < _; omega
  ·intro hc0
   refine v_exit ?_
   refine e12 _ _ ?_
   refine e9 _ _ ?_
   refine x8 _ ?_
   refine n5 _ _ (weak_keep [3] _) ?_
   refine zk ⟨?_⟩
   refine v_seq ?_; intro Q24 n24 e24 r24
   refine v_region ?_; intro K25 k25
   refine zMove ⟨?_⟩
   refine zAssign ⟨?_⟩
   refine k25 _ ?_
   refine n24 _ _ (weak_keep [2] _) ?_
   refine zk ⟨?_⟩
   refine v_ret ?_
   refine r0 _ ?_
   refine zf ⟨?_⟩
   exact ret_pure rfl (by rw [← hR, or_end (by omega)]) (.inl rfl)
end Go.Proofs.Ytdgenniiidgimaa
