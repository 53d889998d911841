/- What functions compute. No condition. -/
import Derived.Test.YtldnelkcmffiaaaUty
import Derived.Test.YtldnelkcmffiaaaUmG
import Derived.Test.YtldnelkcmffiaaaX4
import Derived.Test.YtldnelkcmffiaaaX1
import Derived.Test.YtldnelkcmffiaaaX3
import Derived.Test.YtldnelkcmffiaaaX8
set_option linter.unusedSimpArgs false
set_option linter.unusedVariables false
set_option linter.defProp false
namespace Go.Proofs.Ytldnelkcmffiaaa
open Go Go.Vm

set_option maxHeartbeats 6000000 in
theorem lawFewestPeople_con (needs : List Int) (b : Int) (c : Int) (hneeds : needs.length ≤ 9223372036854775807) : Con Try.prog 5 [.sl (needs.map (V.int .i64)), .int .i64 b, .int .i64 c] [] (.bool true) [] := by
 refine v_con [.tmp 6] [] Try.func5 rfl rfl rfl (by simp [Try.ntmps5]) ?_
 intro Q0 n0 r0
 simp only [Try.ntmps5, envFrom, Nat.reduceAdd]
 have T := Tys.mk (And.intro Ty.t3 (And.intro Ty.t4 Ty.t41))
 have F := Fc.mk True.intro
 refine v_seq ?_; intro Q1 n1 e1 r1
 refine v_region ?_; intro K2 k2
 refine zAssign ⟨?_⟩
 refine k2 _ ?_
 refine n1 _ _ (weak_keep [0, 1, 2] _) ?_
 refine zk ⟨?_⟩
 refine v_seq ?_; intro Q3 n3 e3 r3
 refine v_seq ?_; intro Q4 n4 e4 r4
 refine v_region ?_; intro K5 k5
 refine zMove ⟨?_⟩
 refine zLen ⟨?_⟩
 refine zBinOp ⟨?_⟩
 refine k5 _ ?_
 refine n4 _ _ (weak_keep [0, 1, 2, 14] _) ?_
 refine zk ⟨?_⟩
 refine v_condS _ rfl ?_ ?_
 ·intro hc0
  refine v_seq ?_; intro Q7 n7 e7 r7
  refine v_region ?_; intro K8 k8
  refine zAssign ⟨?_⟩
  refine k8 _ ?_
  refine n7 _ _ (weak_keep [6] _) ?_
  refine zk ⟨?_⟩
  refine v_ret ?_
  refine r3 _ ?_
  refine r0 _ ?_
  refine zf ⟨?_⟩
  exact ret_pure rfl rfl (.inl rfl)
 ·intro hc0
  have bneeds : needs.length ≤ 1048576 := by omega
  have c1 := toIntS_con needs bneeds
  have c2 := specFewest_con needs b c bneeds
  have c3 := implFewest_con needs b c bneeds
  have c4 := eqIntS_con needs needs bneeds
  generalize needs.map (V.int .i64) = L1 at c1 c2 c3 c4 ⊢
  refine v_skip ?_
  refine n3 _ _ (weak_keep [0, 1, 2] _) ?_
  refine zk ⟨?_⟩
  refine v_seq ?_; intro Q9 n9 e9 r9
  refine v_region ?_; intro K10 k10
  refine zMove ⟨?_⟩
  refine zc (c1) ⟨?_⟩
  refine zMove ⟨?_⟩
  refine zMove ⟨?_⟩
  refine zc (c2) ⟨?_⟩
  refine zMove ⟨?_⟩
  refine zExtract ⟨?_⟩
  refine zExtract ⟨?_⟩
  refine zAssign ⟨?_⟩
  refine zAssign ⟨?_⟩
  refine k10 _ ?_
  refine n9 _ _ (weak_keep [0, 1, 2, 7, 8] _) ?_
  refine zk ⟨?_⟩
  refine v_seq ?_; intro Q11 n11 e11 r11
  refine v_region ?_; intro K12 k12
  refine zMove ⟨?_⟩
  refine zc (c1) ⟨?_⟩
  refine zAssign ⟨?_⟩
  refine k12 _ ?_
  refine n11 _ _ (weak_keep [0, 1, 2, 7, 8, 9] _) ?_
  refine zk ⟨?_⟩
  refine v_seq ?_; intro Q13 n13 e13 r13
  refine v_region ?_; intro K14 k14
  refine zMove ⟨?_⟩
  refine zMove ⟨?_⟩
  refine zMove ⟨?_⟩
  refine zc (c3) ⟨?_⟩
  refine zMove ⟨?_⟩
  refine zExtract ⟨?_⟩
  refine zExtract ⟨?_⟩
  refine zAssign ⟨?_⟩
  refine zAssign ⟨?_⟩
  refine k14 _ ?_
  refine n13 _ _ (weak_keep [0, 7, 8, 9, 10, 11] _) ?_
  refine zk ⟨?_⟩
  refine v_seq ?_; intro Q15 n15 e15 r15
  refine v_seq ?_; intro Q16 n16 e16 r16
  refine v_region ?_; intro K17 k17
  refine zMove ⟨?_⟩
  refine zMove ⟨?_⟩
  refine zBinOp ⟨?_⟩
  refine zMove ⟨?_⟩
  refine zgMove ⟨?_⟩
  refine zgMove ⟨?_⟩
  refine zgBinOp ⟨?_⟩
  refine zPick ⟨?_⟩
  refine k17 _ ?_
  refine n16 _ _ (weak_keep [0, 9, 39] _) ?_
  refine zk ⟨?_⟩
  refine v_cond _ rfl ?_ ?_
  ·intro hc1
   exfalso; first | (simp at hc1; done) | (simp at hc1; omega)
  ·intro hc1
   try simp only [zC, reduceCtorEq] at hc1
   refine v_skip ?_
   refine n15 _ _ (weak_keep [0, 9] _) ?_
   refine zk ⟨?_⟩
   refine v_seq ?_; intro Q19 n19 e19 r19
   refine v_seq ?_; intro Q20 n20 e20 r20
   refine v_region ?_; intro K21 k21
   refine zMove ⟨?_⟩
   refine zMove ⟨?_⟩
   refine zc (c1) ⟨?_⟩
   refine zc (c4) ⟨?_⟩
   refine zUnOp ⟨?_⟩
   refine k21 _ ?_
   apply n20
   ·refine weak_trans (weak_keep [44] _) (weak_comp [] (by decide) (by simp) ?_ ?_)
    ·simp [keep_mk, keepE_nil, keepE_cons, look_cons, V.only, V.onlyL, idx] <;> (first | rfl | decide)
    ·simp [keep_mk, Blk.kindIs, fillK_mix]
   simp only [keep_mk, keepE_nil, keepE_cons, look_cons, look_nil, Nat.reduceEqDiff, reduceIte, St.comp, List.map_cons, List.map_nil, V.ren, V.renL, idx, List.getD_cons_zero, List.getD_cons_succ, Nat.reduceBEq, cond_true, cond_false, Option.map_some, Option.getD_some, Nat.reduceAdd, beq_dec, decide_true, decide_false]
   skip
   refine v_cond _ rfl ?_ ?_
   ·intro hc2
    exfalso; first | (simp at hc2; done) | (simp at hc2; omega)
   ·intro hc2
    try simp only [zC, reduceCtorEq] at hc2
    refine v_skip ?_
    refine n19 _ _ (weak_keep [] _) ?_
    refine zk ⟨?_⟩
    refine v_seq ?_; intro Q23 n23 e23 r23
    refine v_region ?_; intro K24 k24
    refine zAssign ⟨?_⟩
    refine k24 _ ?_
    refine n23 _ _ (weak_keep [6] _) ?_
    refine zk ⟨?_⟩
    refine v_ret ?_
    refine r0 _ ?_
    refine zf ⟨?_⟩
    exact ret_pure rfl rfl (.inl rfl)
end Go.Proofs.Ytldnelkcmffiaaa
