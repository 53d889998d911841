/- What functions compute (SlSignal). No condition. -/
import Derived.Test.YtdgenniiidgimaaTy
import Derived.Test.YtdgenniiidgimaaVmG
import Derived.Test.YtdgenniiidgimaaWLem
set_option linter.unusedSimpArgs false
set_option linter.unusedVariables false
set_option linter.defProp false
namespace Go.Proofs.Ytdgenniiidgimaa
open Go Go.Vm

set_option maxHeartbeats 1000000 in
theorem indexFuncSignal_con (l : List (Int × Int)) (g : Nat) (caps : List V) (p : Int × Int → Bool) (hl : l.length ≤ 1048576) (hc : Caps caps) (hg : ∀ x0 x1, (x0, x1) ∈ l → Con Try.prog g (V.agg [V.int .i64 x0, V.int .i64 x1] :: caps) [] (.bool (p (x0, x1))) []) : Con Try.prog 193 [.sl (l.map (fun t : Int × Int => V.agg [V.int .i64 t.1, V.int .i64 t.2])), .fn g caps] [] (.int .i64 (firstP p 0 l)) [] := by
 refine v_con [.tmp 4] [] Try.func193 rfl rfl rfl (by simp [Try.ntmps193]) ?_
 intro Q0 n0 r0
 simp only [Try.ntmps193, envFrom, Nat.reduceAdd]
 have T := Tys.mk (And.intro Ty.t3 (And.intro Ty.t4 (And.intro Ty.t31 Ty.t57)))
 have F := Fc.mk True.intro
 refine v_seq ?_; intro Q1 n1 e1 r1
 refine v_region ?_; intro K2 k2
 refine zAssign ⟨?_⟩
 refine k2 _ ?_
 refine n1 _ _ (weak_keep [0, 1] _) ?_
 refine zk ⟨?_⟩
 refine v_seq ?_; intro Q3 n3 e3 r3
 refine v_seq ?_; intro Q4 n4 e4 r4
 refine v_region ?_; intro K5 k5
 refine zMove ⟨?_⟩
 refine zLen ⟨?_⟩
 refine zMove ⟨?_⟩
 refine k5 _ ?_
 refine n4 _ _ (weak_keep [0, 1, 7, 8] _) ?_
 refine zk ⟨?_⟩
 refine v_block ?_; intro Q6 n6 x6 e6 r6
 refine v_loop (fun i => ⟨[(0, .sl (l.map (fun t : Int × Int => V.agg [V.int .i64 t.1, V.int .i64 t.2]))), (1, .fn g caps), (7, .int .i64 l.length), (8, .int .i64 (Nat.cast i))], [], false, 19, 0⟩) (fun i => i ≤ l.length ∧ firstP p i (l.drop i) = firstP p 0 l) (fun i => l.length - i) 0 ?_ ?_ ?_
 ·refine weak_of [0, 1, 7, 8] ?_
  simp only [keep_mk, keepE_nil, keepE_cons, look_cons, look_nil, Nat.reduceEqDiff, reduceIte]
  rfl
 ·exact ⟨Nat.zero_le _, rfl⟩
 ·rintro i hok7 Q7 n7 e7 r7
  obtain ⟨hi1, hR⟩ := hok7
  refine v_seq ?_; intro Q8 n8 e8 r8
  refine v_region ?_; intro K9 k9
  refine zBinOp ⟨?_⟩
  refine k9 _ ?_
  refine n8 _ _ (weak_keep [0, 1, 7, 8, 9] _) ?_
  refine zk ⟨?_⟩
  refine v_seq ?_; intro Q10 n10 e10 r10
  refine v_condS _ rfl ?_ ?_
  ·intro hc0
   have hlt : i < l.length := by omega
   obtain ⟨⟨x0, x1⟩, hx⟩ : ∃ x : Int × Int, l[i]? = some x := ⟨l[i]'(by omega), List.getElem?_eq_getElem (by omega)⟩
   have hst := first_step (p := p) hx
   refine v_skip ?_
   refine n10 _ _ (weak_keep [0, 1, 7, 8] _) ?_
   refine zk ⟨?_⟩
   refine v_seq ?_; intro Q12 n12 e12 r12
   refine v_block ?_; intro Q13 n13 x13 e13 r13
   refine v_seq ?_; intro Q14 n14 e14 r14
   refine v_region ?_; intro K15 k15
   have F := Fc.mk (fun f => getD_map (f := f) hx)
   refine zMove ⟨?_⟩
   refine zAssign ⟨?_⟩
   refine k15 _ ?_
   refine n14 _ _ (weak_keep [0, 1, 5, 7, 8] _) ?_
   refine zk ⟨?_⟩
   refine v_seq ?_; intro Q16 n16 e16 r16
   refine v_region ?_; intro K17 k17
   refine zMove ⟨?_⟩
   refine zMove ⟨?_⟩
   refine zMove ⟨?_⟩
   refine zIndexAddr ⟨?_⟩
   refine zLoad ⟨?_⟩
   refine zcc (hg x0 x1 (List.mem_of_getElem? hx)) ⟨?_⟩
   refine k17 _ ?_
   refine n16 _ _ (weak_keep [0, 1, 5, 7, 8, 16] _) ?_
   refine zk ⟨?_⟩
   refine v_condS _ rfl ?_ ?_
   ·intro hc1
    refine v_seq ?_; intro Q19 n19 e19 r19
    refine v_region ?_; intro K20 k20
    refine zMove ⟨?_⟩
    refine zAssign ⟨?_⟩
    refine k20 _ ?_
    refine n19 _ _ (weak_keep [4] _) ?_
    refine zk ⟨?_⟩
    refine v_ret ?_
    refine r13 _ ?_
    refine r12 _ ?_
    refine r7 _ ?_
    refine r6 _ ?_
    refine r3 _ ?_
    refine r0 _ ?_
    refine zf ⟨?_⟩
    exact ret_pure rfl (by rw [← hR, hst, if_pos hc1]) (.inl rfl)
   ·intro hc1
    refine v_skip ?_
    refine n13 _ ?_
    refine n12 _ _ (weak_keep [0, 1, 7, 8] _) ?_
    refine zk ⟨?_⟩
    refine v_region ?_; intro K21 k21
    refine zBinOpW ⟨?_⟩
    refine zMove ⟨?_⟩
    refine k21 _ ?_
    refine n7 _ (i + 1) ?_ ?_ ?_
    ·refine weak_bothC [0, 1, 7, 8] [] ⟨?_⟩
     rfl
    ·exact ⟨by omega, by rw [← hR, hst, if_neg (by simp [hc1])]⟩
    ·show _ < _; omega
  ·intro hc0
   refine v_exit ?_
   refine e10 _ _ ?_
   refine e7 _ _ ?_
   refine x6 _ ?_
   refine n3 _ _ (weak_keep [] _) ?_
   refine zk ⟨?_⟩
   refine v_seq ?_; intro Q22 n22 e22 r22
   refine v_region ?_; intro K23 k23
   refine zAssign ⟨?_⟩
   refine k23 _ ?_
   refine n22 _ _ (weak_keep [4] _) ?_
   refine zk ⟨?_⟩
   refine v_ret ?_
   refine r0 _ ?_
   refine zf ⟨?_⟩
   exact ret_pure rfl (by rw [← hR, first_end (by omega)]) (.inl rfl)
set_option maxHeartbeats 1000000 in
theorem containsFuncSignal_con (l : List (Int × Int)) (g : Nat) (caps : List V) (p : Int × Int → Bool) (hl : l.length ≤ 1048576) (hc : Caps caps) (hg : ∀ x0 x1, (x0, x1) ∈ l → Con Try.prog g (V.agg [V.int .i64 x0, V.int .i64 x1] :: caps) [] (.bool (p (x0, x1))) []) : Con Try.prog 150 [.sl (l.map (fun t : Int × Int => V.agg [V.int .i64 t.1, V.int .i64 t.2])), .fn g caps] [] (.bool (l.any p)) [] := by
 refine v_con [.tmp 4] [] Try.func150 rfl rfl rfl (by simp [Try.ntmps150]) ?_
 intro Q0 n0 r0
 simp only [Try.ntmps150, envFrom, Nat.reduceAdd]
 have T := Tys.mk (And.intro Ty.t3 (And.intro Ty.t31 Ty.t57))
 have F := Fc.mk True.intro
 refine v_seq ?_; intro Q1 n1 e1 r1
 refine v_region ?_; intro K2 k2
 refine zAssign ⟨?_⟩
 refine k2 _ ?_
 refine n1 _ _ (weak_keep [0, 1] _) ?_
 refine zk ⟨?_⟩
 refine v_seq ?_; intro Q3 n3 e3 r3
 refine v_region ?_; intro K4 k4
 refine zMove ⟨?_⟩
 refine zMove ⟨?_⟩
 refine zcc (indexFuncSignal_con l g caps p hl hc hg) ⟨?_⟩
 refine zBinOp ⟨?_⟩
 refine zAssign ⟨?_⟩
 refine k4 _ ?_
 refine n3 _ _ (weak_keep [4] _) ?_
 refine zk ⟨?_⟩
 refine v_ret ?_
 refine r0 _ ?_
 refine zf ⟨?_⟩
 exact ret_pure rfl (by rw [first_any]) (.inl rfl)
set_option maxHeartbeats 1000000 in
theorem cloneSignal_con (l : List (Int × Int)) (hl : l.length ≤ 1048576) : Con Try.prog 151 [.sl (l.map (fun t : Int × Int => V.agg [V.int .i64 t.1, V.int .i64 t.2]))] [] (.ref 0) [.arr (l.map (fun t : Int × Int => V.agg [V.int .i64 t.1, V.int .i64 t.2])) .flat] := by
 have hns : (l.map (fun t : Int × Int => V.agg [V.int .i64 t.1, V.int .i64 t.2])).all V.noSl = true := by rw [List.all_map, List.all_eq_true]; intro a _; rfl
 refine v_con [.tmp 2] [] Try.func151 rfl rfl rfl (by simp [Try.ntmps151]) ?_
 intro Q0 n0 r0
 simp only [Try.ntmps151, envFrom, Nat.reduceAdd]
 have T := Tys.mk (And.intro Ty.t3 (And.intro Ty.t31 Ty.t57))
 have F := Fc.mk True.intro
 refine v_seq ?_; intro Q1 n1 e1 r1
 refine v_region ?_; intro K2 k2
 have F := Fc.mk hns
 refine zAssign ⟨?_⟩
 refine k2 _ ?_
 refine n1 _ _ (weak_keep [0] _) ?_
 refine zk ⟨?_⟩
 refine v_seq ?_; intro Q3 n3 e3 r3
 refine v_seq ?_; intro Q4 n4 e4 r4
 refine v_region ?_; intro K5 k5
 refine zMove ⟨?_⟩
 refine zNil ⟨?_⟩
 intro nb4 hnb4
 refine k5 _ ?_
 refine n4 _ _ (weak_keep [0, 4] _) ?_
 refine zk ⟨?_⟩
 refine v_condS _ rfl ?_ ?_
 ·intro hc0
  have hnil : l = [] := by cases l with | nil => rfl | cons a b => have := hnb4 (by simp); rw [hc0] at this; cases this
  refine v_seq ?_; intro Q7 n7 e7 r7
  refine v_region ?_; intro K8 k8
  refine zAssign ⟨?_⟩
  refine k8 _ ?_
  refine n7 _ _ (weak_keep [2] _) ?_
  refine zk ⟨?_⟩
  refine v_ret ?_
  refine r3 _ ?_
  refine r0 _ ?_
  refine zf ⟨?_⟩
  rw [hnil]; exact ret_refK rfl rfl rfl
 ·intro hc0
  refine v_skip ?_
  refine n3 _ _ (weak_keep [0] _) ?_
  refine zk ⟨?_⟩
  refine v_seq ?_; intro Q9 n9 e9 r9
  refine v_region ?_; intro K10 k10
  refine zBuildSlice ⟨?_⟩
  refine zMove ⟨?_⟩
  refine zAppend ⟨?_⟩
  refine zAssign ⟨?_⟩
  refine k10 _ ?_
  refine n9 _ _ (weak_keep [2] _) ?_
  refine zk ⟨?_⟩
  refine v_ret ?_
  refine r0 _ ?_
  refine zf ⟨?_⟩
  exact ret_refK rfl rfl (by simp)
set_option maxHeartbeats 1000000 in
theorem deleteFuncSignal_con (l : List (Int × Int)) (g : Nat) (caps : List V) (p : Int × Int → Bool) (hl : l.length ≤ 1048576) (hc : Caps caps) (hg : ∀ x0 x1, (x0, x1) ∈ l → Con Try.prog g (V.agg [V.int .i64 x0, V.int .i64 x1] :: caps) [] (.bool (p (x0, x1))) []) : Con Try.prog 142 [.ref 0, .fn g caps] [.arr (l.map (fun t : Int × Int => V.agg [V.int .i64 t.1, V.int .i64 t.2])) .thin] (.sub 0 0 (l.filter (fun x => !p x)).length) [.arr ((l.filter (fun x => !p x)).map (fun t : Int × Int => V.agg [V.int .i64 t.1, V.int .i64 t.2]) ++ List.replicate (l.length - (l.filter (fun x => !p x)).length) (V.agg [V.int .i64 0, V.int .i64 0])) .thin] := by
 refine v_con [.tmp 4] [] Try.func142 rfl rfl rfl (by simp [Try.ntmps142]) ?_
 intro Q0 n0 r0
 simp only [Try.ntmps142, envFrom, Nat.reduceAdd]
 have T := Tys.mk (And.intro Ty.t3 (And.intro Ty.t4 (And.intro Ty.t31 Ty.t57)))
 have F := Fc.mk True.intro
 refine v_seq ?_; intro Q1 n1 e1 r1
 refine v_region ?_; intro K2 k2
 refine zAssign ⟨?_⟩
 refine k2 _ ?_
 refine n1 _ _ (weak_keep [0, 1] _) ?_
 refine zk ⟨?_⟩
 refine v_seq ?_; intro Q3 n3 e3 r3
 refine v_region ?_; intro K4 k4
 refine zMove ⟨?_⟩
 refine zMove ⟨?_⟩
 refine zcc (indexFuncSignal_con l g caps p hl hc hg) ⟨?_⟩
 refine zAssign ⟨?_⟩
 refine k4 _ ?_
 refine n3 _ _ (weak_keep [0, 1, 5] _) ?_
 refine zk ⟨?_⟩
 refine v_seq ?_; intro Q5 n5 e5 r5
 refine v_seq ?_; intro Q6 n6 e6 r6
 refine v_region ?_; intro K7 k7
 refine zMove ⟨?_⟩
 refine zBinOp ⟨?_⟩
 refine k7 _ ?_
 refine n6 _ _ (weak_keep [0, 1, 5, 12] _) ?_
 refine zk ⟨?_⟩
 refine v_condS _ rfl ?_ ?_
 ·intro hc0
  have hfil := first_none hc0
  refine v_seq ?_; intro Q9 n9 e9 r9
  refine v_region ?_; intro K10 k10
  refine zMove ⟨?_⟩
  refine zAssign ⟨?_⟩
  refine k10 _ ?_
  apply n9
  ·apply weak_trans (weak_keep [4] _)
   simp only [keep_mk, keepE_nil, keepE_cons, look_cons, look_nil, Nat.reduceEqDiff, reduceIte]
   exact weak_whole 0 4 (l.map (fun t : Int × Int => V.agg [V.int .i64 t.1, V.int .i64 t.2])) .thin rfl rfl
  try simp only [atSlot_cons, atSlot_nil, Nat.reduceEqDiff, reduceIte, List.set_cons_zero, List.set_cons_succ]
  refine v_ret ?_
  refine r5 _ ?_
  refine r0 _ ?_
  refine zf ⟨?_⟩
  rw [hfil]; exact ret_lent_sub (by simp) (by simp) (by simp) (by simp) (by simp [Blk.kindIs])
 ·intro hc0
  obtain ⟨k0, hk1, hk2, hk3, _⟩ := first_some hc0
  rw [Nat.zero_add] at hk2
  refine v_skip ?_
  refine n5 _ _ (weak_keep [0, 1, 5] _) ?_
  refine zk ⟨?_⟩
  refine v_seq ?_; intro Q11 n11 e11 r11
  refine v_seq ?_; intro Q12 n12 e12 r12
  refine v_region ?_; intro K13 k13
  have F := Fc.mk hk2
  refine zMove ⟨?_⟩
  refine zBinOpW ⟨?_⟩
  refine zAssign ⟨?_⟩
  refine k13 _ ?_
  refine n12 _ _ (weak_keep [0, 1, 5, 6] _) ?_
  refine zk ⟨?_⟩
  refine v_block ?_; intro Q14 n14 x14 e14 r14
  refine v_loop (fun q => ⟨[(0, .ref 0), (1, .fn g caps), (5, .int .i64 (Nat.cast q.1)), (6, .int .i64 (Nat.cast q.2.1))], [.arr (q.2.2.map (fun t : Int × Int => V.agg [V.int .i64 t.1, V.int .i64 t.2])) .thin], false, 42, 0⟩) (fun q => q.1 ≤ q.2.1 ∧ q.2.1 ≤ l.length ∧ q.2.2.length = l.length ∧ q.2.2.take q.1 = (l.take q.2.1).filter (fun x => !p x) ∧ q.2.2.drop q.2.1 = l.drop q.2.1) (fun q => l.length - q.2.1) ((k0, k0 + 1, l) : Nat × Nat × List (Int × Int)) ?_ ?_ ?_
  ·refine weak_bothC [0, 1, 5, 6] [0] ⟨?_⟩
   rfl
  ·exact ⟨Nat.le_succ _, hk1, rfl, hk3.symm, rfl⟩
  ·rintro ⟨i, j, ys⟩ hok15 Q15 n15 e15 r15
   obtain ⟨hi1, hi2, hyl, hR, hD⟩ := hok15
   simp only [] at hi1 hi2 hyl hR hD ⊢
   refine v_seq ?_; intro Q16 n16 e16 r16
   refine v_seq ?_; intro Q17 n17 e17 r17
   refine v_region ?_; intro K18 k18
   refine zMove ⟨?_⟩
   refine zMove ⟨?_⟩
   refine zLen ⟨?_⟩
   refine zBinOp ⟨?_⟩
   refine k18 _ ?_
   refine n17 _ _ (weak_keep [0, 1, 5, 6, 19] _) ?_
   refine zk ⟨?_⟩
   refine v_condS _ rfl ?_ ?_
   ·intro hc1
    have hlt : j < l.length := by rw [← hyl]; simpa using hc1
    obtain ⟨⟨x0, x1⟩, hx⟩ : ∃ x : Int × Int, l[j]? = some x := ⟨l[j]'(by omega), List.getElem?_eq_getElem (by omega)⟩
    have hy := del_get hx hD
    obtain ⟨⟨y0, y1⟩, hyi⟩ : ∃ x : Int × Int, ys[i]? = some x := ⟨ys[i]'(by omega), List.getElem?_eq_getElem (by omega)⟩
    have hsm : (ys.map (fun t : Int × Int => V.agg [V.int .i64 t.1, V.int .i64 t.2])).set i (V.agg [V.int .i64 x0, V.int .i64 x1]) = (ys.set i (x0, x1)).map (fun t : Int × Int => V.agg [V.int .i64 t.1, V.int .i64 t.2]) := by have q := List.map_set (f := (fun t : Int × Int => V.agg [V.int .i64 t.1, V.int .i64 t.2])) (l := ys) (i := i) (a := (x0, x1)); exact q.symm
    refine v_skip ?_
    refine n16 _ _ (weak_keep [0, 1, 5, 6] _) ?_
    refine zk ⟨?_⟩
    refine v_seq ?_; intro Q20 n20 e20 r20
    refine v_block ?_; intro Q21 n21 x21 e21 r21
    refine v_seq ?_; intro Q22 n22 e22 r22
    refine v_region ?_; intro K23 k23
    have F := Fc.mk (And.intro hk2 (And.intro (fun f => getD_map (f := f) hy) (fun f => getD_map (f := f) hyi)))
    refine zMove ⟨?_⟩
    refine zMove ⟨?_⟩
    refine zIndexAddr ⟨?_⟩
    refine zLoad ⟨?_⟩
    refine zAlloc ⟨?_⟩
    refine zStore ⟨?_⟩
    refine k23 _ ?_
    refine n22 _ _ (weak_keep [0, 1, 5, 6, 7] _) ?_
    refine zk ⟨?_⟩
    refine v_seq ?_; intro Q24 n24 e24 r24
    refine v_region ?_; intro K25 k25
    refine zMove ⟨?_⟩
    refine zLoad ⟨?_⟩
    refine zcc (hg x0 x1 (List.mem_of_getElem? hx)) ⟨?_⟩
    refine zUnOp ⟨?_⟩
    refine k25 _ ?_
    refine n24 _ _ (weak_keep [0, 1, 5, 6, 7, 29] _) ?_
    refine zk ⟨?_⟩
    refine v_condS _ rfl ?_ ?_
    ·intro hc2
     refine v_seq ?_; intro Q27 n27 e27 r27
     refine v_region ?_; intro K28 k28
     refine zMove ⟨?_⟩
     refine zMove ⟨?_⟩
     refine zLoad ⟨?_⟩
     refine zIndexAddr ⟨?_⟩
     refine zStore ⟨?_⟩
     refine k28 _ ?_
     refine n27 _ _ (weak_keep [0, 1, 5, 6] _) ?_
     refine zk ⟨?_⟩
     refine v_region ?_; intro K29 k29
     refine zMove ⟨?_⟩
     refine zBinOpW ⟨?_⟩
     refine zAssign ⟨?_⟩
     refine k29 _ ?_
     refine n21 _ ?_
     refine n20 _ _ (weak_keep [0, 1, 5, 6] _) ?_
     refine zk ⟨?_⟩
     refine v_region ?_; intro K30 k30
     refine zMove ⟨?_⟩
     refine zBinOpW ⟨?_⟩
     refine zAssign ⟨?_⟩
     refine k30 _ ?_
     refine n15 _ (i + 1, j + 1, ys.set i (x0, x1)) ?_ ?_ ?_
     ·refine weak_bothC [0, 1, 5, 6] [0] ⟨?_⟩
      rw [hsm]; rfl
     ·exact ⟨Nat.succ_le_succ hi1, hlt, by rw [List.length_set]; exact hyl, (del_keep hi1 hyl hx hc2 hR hD).1, (del_keep hi1 hyl hx hc2 hR hD).2⟩
     ·show _ < _; show l.length - (j + 1) < l.length - j; omega
    ·intro hc2
     refine v_skip ?_
     refine n21 _ ?_
     refine n20 _ _ (weak_keep [0, 1, 5, 6] _) ?_
     refine zk ⟨?_⟩
     refine v_region ?_; intro K31 k31
     refine zMove ⟨?_⟩
     refine zBinOpW ⟨?_⟩
     refine zAssign ⟨?_⟩
     refine k31 _ ?_
     refine n15 _ (i, j + 1, ys) ?_ ?_ ?_
     ·refine weak_bothC [0, 1, 5, 6] [0] ⟨?_⟩
      rfl
     ·exact ⟨Nat.le_succ_of_le hi1, hlt, hyl, (del_drop hx hc2 hR hD).1, (del_drop hx hc2 hR hD).2⟩
     ·show _ < _; show l.length - (j + 1) < l.length - j; omega
   ·intro hc1
    have hjl : l.length ≤ j := by rw [← hyl]; simpa using hc1
    have hend := del_end (by omega) hjl hR
    refine v_exit ?_
    refine e16 _ _ ?_
    refine e15 _ _ ?_
    refine x14 _ ?_
    refine n11 _ _ (weak_keep [0, 5] _) ?_
    refine zk ⟨?_⟩
    refine v_seq ?_; intro Q32 n32 e32 r32
    refine v_region ?_; intro K33 k33
    refine zMove ⟨?_⟩
    refine zMove ⟨?_⟩
    refine zSlice ⟨?_⟩
    refine zClear ⟨?_⟩
    refine k33 _ ?_
    refine n32 _ _ (weak_keep [0, 5] _) ?_
    refine zk ⟨?_⟩
    refine v_seq ?_; intro Q34 n34 e34 r34
    refine v_region ?_; intro K35 k35
    refine zMove ⟨?_⟩
    refine zMove ⟨?_⟩
    refine v_op ?_; intro K k
    simp only [zE, zL, zN, aStepM, optable, set_some, Nat.reduceEqDiff, reduceIte, Nat.reduceLT, implies_true, forall_const, reduceCtorEq, V.ofValue, V.ofScalar, V.un, V.gd, aExec, aop, List.set_cons_zero, List.set_cons_succ, aSlice, forall_eq', bound, ElemsOK, Option.map_none, Option.isNone_none, row_mk, Blk.row, TypeDesc.slice.injEq, List.forall_mem_map, List.length_map, Go.Vm.V.cells, Int.toNat_natCast, Int.reduceToNat, ← List.map_take, ← List.map_drop, List.take_length, Nat.reduceAdd, Nat.reduceLeDiff, Nat.reduceMul, Try.underlying31, Ty.c31, Ty.a31, Try.underlying57, Ty.c57, Ty.a57, hk2]
    repeat (refine And.intro (by first | omega | (intro x hx; simp only [List.mem_append, List.mem_map, List.mem_replicate] at hx; rcases hx with (⟨_, _, rfl⟩ | ⟨_, rfl⟩) | ⟨_, _, rfl⟩ <;> rfl) | (simp; omega)) ?_)
    refine k _ ?_; clear k K
    refine zAssign ⟨?_⟩
    refine k35 _ ?_
    refine n34 _ _ (weak_keep [4] _) ?_
    refine zk ⟨?_⟩
    refine v_ret ?_
    refine r0 _ ?_
    refine zf ⟨?_⟩
    exact ret_lent_sub (by simp) (by simp) (by rw [Nat.sub_zero, hend.1]) (by simp [hend.2, ← hend.1, hyl]; omega) (by simp [Blk.kindIs])
end Go.Proofs.Ytdgenniiidgimaa
