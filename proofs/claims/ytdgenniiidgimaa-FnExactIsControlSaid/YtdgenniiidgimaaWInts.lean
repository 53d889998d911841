/- What functions compute (Ints). No condition. -/
import Derived.Test.YtdgenniiidgimaaTy
import Derived.Test.YtdgenniiidgimaaVmG
import Derived.Test.YtdgenniiidgimaaWBase
set_option linter.unusedSimpArgs false
set_option linter.unusedVariables false
set_option linter.defProp false
namespace Go.Proofs.Ytdgenniiidgimaa
open Go Go.Vm

set_option maxHeartbeats 1000000 in
theorem eqIntS_con (a b : List Int) (ha : a.length ≤ 1048576) : Con Try.prog 16 [.sl (a.map (V.int .i64)), .sl (b.map (V.int .i64))] [] (.bool (decide (a = b))) [] := by
 refine v_con [.tmp 4] [] Try.func16 rfl rfl rfl (by simp [Try.ntmps16]) ?_
 intro Q0 n0 r0
 simp only [Try.ntmps16, envFrom, Nat.reduceAdd]
 have T := Tys.mk (And.intro Ty.t3 Ty.t26)
 have F := Fc.mk True.intro
 refine v_seq ?_; intro Q1 n1 e1 r1
 refine v_region ?_; intro K2 k2
 refine zAssign ⟨?_⟩
 refine k2 _ ?_
 refine n1 _ _ (weak_keep [0, 1] _) ?_
 refine zk ⟨?_⟩
 refine v_seq ?_; intro Q3 n3 e3 r3
 refine v_seq ?_; intro Q4 n4 e4 r4
 refine v_region ?_; intro K5 k5
 refine zMove ⟨?_⟩
 refine zLen ⟨?_⟩
 refine zMove ⟨?_⟩
 refine zLen ⟨?_⟩
 refine zBinOp ⟨?_⟩
 refine k5 _ ?_
 refine n4 _ _ (weak_keep [0, 1, 10] _) ?_
 refine zk ⟨?_⟩
 refine v_condS _ rfl ?_ ?_
 ·intro hc0
  refine v_seq ?_; intro Q7 n7 e7 r7
  refine v_region ?_; intro K8 k8
  refine zAssign ⟨?_⟩
  refine k8 _ ?_
  refine n7 _ _ (weak_keep [4] _) ?_
  refine zk ⟨?_⟩
  refine v_ret ?_
  refine r3 _ ?_
  refine r0 _ ?_
  refine zf ⟨?_⟩
  exact ret_pure rfl (by rw [decide_eq_false (fun h => by subst h; simp at hc0)]) (.inl rfl)
 ·intro hc0
  have hab : a.length = b.length := by omega
  refine v_skip ?_
  refine n3 _ _ (weak_keep [0, 1] _) ?_
  refine zk ⟨?_⟩
  refine v_seq ?_; intro Q9 n9 e9 r9
  refine v_seq ?_; intro Q10 n10 e10 r10
  refine v_region ?_; intro K11 k11
  refine zAssign ⟨?_⟩
  refine k11 _ ?_
  refine n10 _ _ (weak_keep [0, 1, 5] _) ?_
  refine zk ⟨?_⟩
  refine v_block ?_; intro Q12 n12 x12 e12 r12
  refine v_loop (fun i => ⟨[(0, .sl (a.map (V.int .i64))), (1, .sl (b.map (V.int .i64))), (5, .int .i64 (Nat.cast i))], [], false, 26, 0⟩) (fun i => i ≤ a.length ∧ ((a = b) ↔ (a.drop i = b.drop i))) (fun i => a.length - i) 0 ?_ ?_ ?_
  ·refine weak_of [0, 1, 5] ?_
   simp only [keep_mk, keepE_nil, keepE_cons, look_cons, look_nil, Nat.reduceEqDiff, reduceIte]
   rfl
  ·exact ⟨Nat.zero_le _, by simp⟩
  ·rintro i hok13 Q13 n13 e13 r13
   obtain ⟨hi1, hR⟩ := hok13
   refine v_seq ?_; intro Q14 n14 e14 r14
   refine v_seq ?_; intro Q15 n15 e15 r15
   refine v_region ?_; intro K16 k16
   refine zMove ⟨?_⟩
   refine zMove ⟨?_⟩
   refine zLen ⟨?_⟩
   refine zBinOp ⟨?_⟩
   refine k16 _ ?_
   refine n15 _ _ (weak_keep [0, 1, 5, 14] _) ?_
   refine zk ⟨?_⟩
   refine v_condS _ rfl ?_ ?_
   ·intro hc1
    have hlt : i < a.length := by omega
    obtain ⟨x, hx⟩ : ∃ x, a[i]? = some x := ⟨a[i], List.getElem?_eq_getElem hlt⟩
    obtain ⟨y, hy⟩ : ∃ y, b[i]? = some y := ⟨b[i], List.getElem?_eq_getElem (by omega)⟩
    have hstep := eq_drop hab hx hy
    refine v_skip ?_
    refine n14 _ _ (weak_keep [0, 1, 5] _) ?_
    refine zk ⟨?_⟩
    refine v_seq ?_; intro Q18 n18 e18 r18
    refine v_block ?_; intro Q19 n19 x19 e19 r19
    refine v_seq ?_; intro Q20 n20 e20 r20
    refine v_draw (by kernel_rfl) ?_; intro K21 q21 k21
    show aAny _ _ _ _ 9 (Array.replicate 9 false) _
    have F := Fc.mk (And.intro (fun f => getD_map (f := f) hx) (fun f => getD_map (f := f) hy))
    refine zdMove q21 true 0 17 ?_
    refine zdMove q21 true 1 18 ?_
    refine zdIndexAddr q21 true 2 19 ?_
    refine zdLoad q21 true 3 20 ?_
    refine zdMove q21 true 4 21 ?_
    refine zdMove q21 true 5 22 ?_
    refine zdIndexAddr q21 true 6 23 ?_
    refine zdLoad q21 true 7 24 ?_
    refine zdBinOp q21 true 8 25 ?_
    refine aAny_done (by kernel_rfl) ?_
    refine k21 _ ?_
    refine n20 _ _ (weak_keep [0, 1, 5, 25] _) ?_
    refine zk ⟨?_⟩
    refine v_condS _ rfl ?_ ?_
    ·intro hc2
     refine v_seq ?_; intro Q23 n23 e23 r23
     refine v_region ?_; intro K24 k24
     refine zAssign ⟨?_⟩
     refine k24 _ ?_
     refine n23 _ _ (weak_keep [4] _) ?_
     refine zk ⟨?_⟩
     refine v_ret ?_
     refine r19 _ ?_
     refine r18 _ ?_
     refine r13 _ ?_
     refine r12 _ ?_
     refine r9 _ ?_
     refine r0 _ ?_
     refine zf ⟨?_⟩
     exact ret_pure rfl (by rw [decide_eq_false (fun h => hc2 (hstep.1 (hR.1 h)).1)]) (.inl rfl)
    ·intro hc2
     refine v_skip ?_
     refine n19 _ ?_
     refine n18 _ _ (weak_keep [0, 1, 5] _) ?_
     refine zk ⟨?_⟩
     refine v_region ?_; intro K25 k25
     refine zMove ⟨?_⟩
     refine zBinOpW ⟨?_⟩
     refine zAssign ⟨?_⟩
     refine k25 _ ?_
     refine n13 _ (i + 1) ?_ ?_ ?_
     ·refine weak_of [0, 1, 5] ?_
      simp only [keep_mk, keepE_nil, keepE_cons, look_cons, look_nil, Nat.reduceEqDiff, reduceIte]
      rfl
     ·exact ⟨by omega, hR.trans (hstep.trans ⟨fun h => h.2, fun h => ⟨hc2, h⟩⟩)⟩
     ·show _ < _; omega
   ·intro hc1
    refine v_exit ?_
    refine e14 _ _ ?_
    refine e13 _ _ ?_
    refine x12 _ ?_
    refine n9 _ _ (weak_keep [] _) ?_
    refine zk ⟨?_⟩
    refine v_seq ?_; intro Q26 n26 e26 r26
    refine v_region ?_; intro K27 k27
    refine zAssign ⟨?_⟩
    refine k27 _ ?_
    refine n26 _ _ (weak_keep [4] _) ?_
    refine zk ⟨?_⟩
    refine v_ret ?_
    refine r0 _ ?_
    refine zf ⟨?_⟩
    exact ret_pure rfl (by rw [decide_eq_true (hR.2 (by rw [List.drop_of_length_le (by omega), List.drop_of_length_le (by omega)]))]) (.inl rfl)
def szS (n : Int) (l : List Int) : Int := if n - l.length < 0 then -1 else n - l.length
def szSS : Int → List (List Int) → Int
  | n, [] => n
  | n, l :: ll => if szS n l < 0 then -1 else szSS (szS n l) ll
theorem szSS_le : ∀ {ll : List (List Int)} {n : Int}, 0 ≤ szSS n ll → ∀ l ∈ ll, (l.length : Int) ≤ n
  | [], _, _, l, hl => by cases hl
  | x :: ll, n, h, l, hl => by
    rw [szSS] at h
    split at h
    · omega
    · rename_i hs
      have hx : (x.length : Int) ≤ n ∧ szS n x ≤ n := by
        unfold szS at hs ⊢
        split at hs
        · omega
        · rename_i h2; rw [if_neg h2]; omega
      rcases List.mem_cons.1 hl with rfl | h3
      · exact hx.1
      · have := szSS_le h l h3; omega

set_option maxHeartbeats 1000000 in
theorem szIntS_con (n : Int) (l : List Int) (hn : 0 ≤ n ∧ n ≤ 1048576) (hl : l.length ≤ 9223372036854775807) : Con Try.prog 207 [.sl (l.map (V.int .i64)), .int .i64 n] [] (.int .i64 (szS n l)) [] := by
 refine v_con [.tmp 4] [] Try.func207 rfl rfl rfl (by simp [Try.ntmps207]) ?_
 intro Q0 n0 r0
 simp only [Try.ntmps207, envFrom, Nat.reduceAdd]
 have T := Tys.mk (And.intro Ty.t3 Ty.t26)
 have F := Fc.mk True.intro
 refine v_seq ?_; intro Q1 n1 e1 r1
 refine v_region ?_; intro K2 k2
 refine zAssign ⟨?_⟩
 refine k2 _ ?_
 refine n1 _ _ (weak_keep [0, 1] _) ?_
 refine zk ⟨?_⟩
 refine v_seq ?_; intro Q3 n3 e3 r3
 refine v_region ?_; intro K4 k4
 refine zMove ⟨?_⟩
 refine zMove ⟨?_⟩
 refine zLen ⟨?_⟩
 refine zBinOpW ⟨?_⟩
 refine zAssign ⟨?_⟩
 refine k4 _ ?_
 refine n3 _ _ (weak_keep [1] _) ?_
 refine zk ⟨?_⟩
 refine v_seq ?_; intro Q5 n5 e5 r5
 refine v_seq ?_; intro Q6 n6 e6 r6
 refine v_region ?_; intro K7 k7
 refine zMove ⟨?_⟩
 refine zBinOp ⟨?_⟩
 refine k7 _ ?_
 refine n6 _ _ (weak_keep [1, 10] _) ?_
 refine zk ⟨?_⟩
 refine v_condS _ rfl ?_ ?_
 ·intro hc0
  refine v_seq ?_; intro Q9 n9 e9 r9
  refine v_region ?_; intro K10 k10
  refine zAssign ⟨?_⟩
  refine k10 _ ?_
  refine n9 _ _ (weak_keep [4] _) ?_
  refine zk ⟨?_⟩
  refine v_ret ?_
  refine r5 _ ?_
  refine r0 _ ?_
  refine zf ⟨?_⟩
  exact ret_pure rfl (by rw [szS, if_pos (by omega)]) (.inl rfl)
 ·intro hc0
  refine v_skip ?_
  refine n5 _ _ (weak_keep [1] _) ?_
  refine zk ⟨?_⟩
  refine v_seq ?_; intro Q11 n11 e11 r11
  refine v_region ?_; intro K12 k12
  refine zMove ⟨?_⟩
  refine zAssign ⟨?_⟩
  refine k12 _ ?_
  refine n11 _ _ (weak_keep [4] _) ?_
  refine zk ⟨?_⟩
  refine v_ret ?_
  refine r0 _ ?_
  refine zf ⟨?_⟩
  exact ret_pure rfl (by rw [szS, if_neg (by omega)]) (.inl rfl)
end Go.Proofs.Ytdgenniiidgimaa
