/- What functions compute. No condition. -/
import Derived.Test.YtmlicajgbgjphaaDoorUty
import Derived.Test.YtmlicajgbgjphaaDoorUmG
import Derived.Test.YtmlicajgbgjphaaDoorX13
import Derived.Test.YtmlicajgbgjphaaDoorX12
import Derived.Test.YtmlicajgbgjphaaDoorX9
import Derived.Test.YtmlicajgbgjphaaDoorX3
import Derived.Test.YtmlicajgbgjphaaDoorX4
import Derived.Test.YtmlicajgbgjphaaDoorX16
set_option linter.unusedSimpArgs false
set_option linter.unusedVariables false
set_option linter.defProp false
namespace Go.Proofs.YtmlicajgbgjphaaDoor
open Go Go.Vm

set_option maxHeartbeats 6000000 in
theorem lawRosterText_con (d : List (List Int)) (n : Int) (hd : d.length ≤ 9223372036854775807) (hsd : ∀ l ∈ d, l.length ≤ 9223372036854775807) : Con Tryd.prog 5 [.sl (d.map fun l => V.sl (l.map (V.int .i64))), .int .i64 n] [] (.bool true) [] := by
 refine v_con [.tmp 4] [] Tryd.func5 rfl rfl rfl (by simp [Tryd.ntmps5]) ?_
 intro Q0 n0 r0
 simp only [Tryd.ntmps5, envFrom, Nat.reduceAdd]
 have T := Tys.mk (And.intro Ty.t3 (And.intro Ty.t4 (And.intro Ty.t9 (And.intro Ty.t37 Ty.t48))))
 have F := Fc.mk True.intro
 refine v_seq ?_; intro Q1 n1 e1 r1
 refine v_region ?_; intro K2 k2
 refine zAssign ⟨?_⟩
 refine k2 _ ?_
 refine n1 _ _ (weak_keep [0, 1] _) ?_
 refine zk ⟨?_⟩
 refine v_seq ?_; intro Q3 n3 e3 r3
 refine v_region ?_; intro K4 k4
 refine zAssign ⟨?_⟩
 refine k4 _ ?_
 refine n3 _ _ (weak_keep [0, 1, 5] _) ?_
 refine zk ⟨?_⟩
 refine v_seq ?_; intro Q5 n5 e5 r5
 refine v_region ?_; intro K6 k6
 refine zMove ⟨?_⟩
 refine zMove ⟨?_⟩
 refine zc (szIntSS_con (1048576 : Int) d (⟨by omega, by omega⟩ : (0 : Int) ≤ 1048576 ∧ (1048576 : Int) ≤ 1048576) hd hsd) ⟨?_⟩
 refine zAssign ⟨?_⟩
 refine k6 _ ?_
 refine n5 _ _ (weak_keep [0, 1, 5] _) ?_
 refine zk ⟨?_⟩
 refine v_seq ?_; intro Q7 n7 e7 r7
 refine v_seq ?_; intro Q8 n8 e8 r8
 refine v_region ?_; intro K9 k9
 refine zMove ⟨?_⟩
 refine zBinOp ⟨?_⟩
 refine k9 _ ?_
 refine n8 _ _ (weak_keep [0, 1, 15] _) ?_
 refine zk ⟨?_⟩
 refine v_condS _ rfl ?_ ?_
 ·intro hc0
  refine v_seq ?_; intro Q11 n11 e11 r11
  refine v_region ?_; intro K12 k12
  refine zAssign ⟨?_⟩
  refine k12 _ ?_
  refine n11 _ _ (weak_keep [4] _) ?_
  refine zk ⟨?_⟩
  refine v_ret ?_
  refine r7 _ ?_
  refine r0 _ ?_
  refine zf ⟨?_⟩
  exact ret_pure rfl rfl (.inl rfl)
 ·intro hc0
  obtain ⟨bd, sd, td, q1⟩ := szIfSS (⟨by omega, by omega⟩ : (0 : Int) ≤ 1048576 ∧ (1048576 : Int) ≤ 1048576).1 (⟨by omega, by omega⟩ : (0 : Int) ≤ 1048576 ∧ (1048576 : Int) ≤ 1048576).2 hc0
  have tpd := totSS_pos d
  have c1 := toIntSS_con d bd sd
  have c2 := specRosterText_con d n bd sd
  have c3 := implRosterText_con d n bd sd
  have c4 := eqIntSS_con d d bd sd
  generalize d.map (fun l : List Int => V.sl (l.map (V.int .i64))) = L1 at c1 c2 c3 c4 ⊢
  refine v_skip ?_
  refine n7 _ _ (weak_keep [0, 1] _) ?_
  refine zk ⟨?_⟩
  refine v_seq ?_; intro Q13 n13 e13 r13
  refine v_region ?_; intro K14 k14
  refine zMove ⟨?_⟩
  refine zc (c1) ⟨?_⟩
  refine zMove ⟨?_⟩
  refine zc (c2) ⟨?_⟩
  refine zMove ⟨?_⟩
  refine zExtract ⟨?_⟩
  refine zExtract ⟨?_⟩
  refine zAssign ⟨?_⟩
  refine zAssign ⟨?_⟩
  refine k14 _ ?_
  refine n13 _ _ (weak_keep [0, 1, 6, 7] _) ?_
  refine zk ⟨?_⟩
  refine v_seq ?_; intro Q15 n15 e15 r15
  refine v_region ?_; intro K16 k16
  refine zMove ⟨?_⟩
  refine zc (c1) ⟨?_⟩
  refine zAssign ⟨?_⟩
  refine k16 _ ?_
  refine n15 _ _ (weak_keep [0, 1, 6, 7, 8] _) ?_
  refine zk ⟨?_⟩
  refine v_seq ?_; intro Q17 n17 e17 r17
  refine v_region ?_; intro K18 k18
  refine zMove ⟨?_⟩
  refine zMove ⟨?_⟩
  refine zc (c3) ⟨?_⟩
  refine zMove ⟨?_⟩
  refine zExtract ⟨?_⟩
  refine zExtract ⟨?_⟩
  refine zAssign ⟨?_⟩
  refine zAssign ⟨?_⟩
  refine k18 _ ?_
  refine n17 _ _ (weak_keep [0, 6, 7, 8, 9, 10] _) ?_
  refine zk ⟨?_⟩
  refine v_seq ?_; intro Q19 n19 e19 r19
  refine v_seq ?_; intro Q20 n20 e20 r20
  refine v_region ?_; intro K21 k21
  refine zMove ⟨?_⟩
  refine zMove ⟨?_⟩
  refine zBinOp ⟨?_⟩
  refine zMove ⟨?_⟩
  refine zgMove ⟨?_⟩
  refine zgMove ⟨?_⟩
  refine zgBinOp ⟨?_⟩
  refine zPick ⟨?_⟩
  refine k21 _ ?_
  refine n20 _ _ (weak_keep [0, 8, 38] _) ?_
  refine zk ⟨?_⟩
  refine v_cond _ rfl ?_ ?_
  ·intro hc1
   exfalso; first | (simp at hc1; done) | (simp at hc1; omega)
  ·intro hc1
   try simp only [zC, reduceCtorEq] at hc1
   refine v_skip ?_
   refine n19 _ _ (weak_keep [0, 8] _) ?_
   refine zk ⟨?_⟩
   refine v_seq ?_; intro Q23 n23 e23 r23
   refine v_seq ?_; intro Q24 n24 e24 r24
   refine v_region ?_; intro K25 k25
   refine zMove ⟨?_⟩
   refine zMove ⟨?_⟩
   refine zc (c1) ⟨?_⟩
   refine zc (c4) ⟨?_⟩
   refine zUnOp ⟨?_⟩
   refine k25 _ ?_
   apply n24
   ·refine weak_trans (weak_keep [43] _) (weak_comp [] (by decide) (by simp) ?_ ?_)
    ·simp [keep_mk, keepE_nil, keepE_cons, look_cons, V.only, V.onlyL, idx] <;> (first | rfl | decide)
    ·simp [keep_mk, Blk.kindIs, fillK_mix]
   simp only [keep_mk, keepE_nil, keepE_cons, look_cons, look_nil, Nat.reduceEqDiff, reduceIte, St.comp, List.map_cons, List.map_nil, V.ren, V.renL, idx, List.getD_cons_zero, List.getD_cons_succ, Nat.reduceBEq, cond_true, cond_false, Option.map_some, Option.getD_some, Nat.reduceAdd, beq_dec, decide_true, decide_false]
   skip
   refine v_cond _ rfl ?_ ?_
   ·intro hc2
    exfalso; first | (simp at hc2; done) | (simp at hc2; omega)
   ·intro hc2
    try simp only [zC, reduceCtorEq] at hc2
    refine v_skip ?_
    refine n23 _ _ (weak_keep [] _) ?_
    refine zk ⟨?_⟩
    refine v_seq ?_; intro Q27 n27 e27 r27
    refine v_region ?_; intro K28 k28
    refine zAssign ⟨?_⟩
    refine k28 _ ?_
    refine n27 _ _ (weak_keep [4] _) ?_
    refine zk ⟨?_⟩
    refine v_ret ?_
    refine r0 _ ?_
    refine zf ⟨?_⟩
    exact ret_pure rfl rfl (.inl rfl)
end Go.Proofs.YtmlicajgbgjphaaDoor
