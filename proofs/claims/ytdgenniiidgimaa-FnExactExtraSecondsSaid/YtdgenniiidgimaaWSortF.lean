/- What functions compute (SortF). No condition. -/
import Derived.Test.YtdgenniiidgimaaTy
import Derived.Test.YtdgenniiidgimaaVmG
import Derived.Test.YtdgenniiidgimaaWLem
import Derived.Test.YtdgenniiidgimaaWBase
set_option linter.unusedSimpArgs false
set_option linter.unusedVariables false
set_option linter.defProp false
namespace Go.Proofs.Ytdgenniiidgimaa
open Go Go.Vm

def ltOf (c : Int → Int → Int) (x y : Int) : Bool := decide (c x y < 0)
theorem isort_one (lt : Int → Int → Bool) (l : List Int) : isort lt (l.take 1) ++ l.drop 1 = l := by
  cases l with
  | nil => rfl
  | cons x l => rfl
theorem data_mem {lt : Int → Int → Bool} {l : List Int} {i j : Nat} {x y : Int} (hx : l[i]? = some x) (h : (insAt (isort lt (l.take i)) x (l.drop (i + 1)) j)[j]? = some y ∨ y ∈ insAt (isort lt (l.take i)) x (l.drop (i + 1)) j) : y ∈ l := by
  have h2 : y ∈ insAt (isort lt (l.take i)) x (l.drop (i + 1)) j := by
    rcases h with h | h
    · exact List.mem_of_getElem? h
    · exact h
  rcases insAt_mem h2 with q | q | q
  · rw [q]; exact List.mem_of_getElem? hx
  · exact List.mem_of_mem_take (isort_mem.1 q)
  · exact List.mem_of_mem_drop q

set_option maxRecDepth 8000 in
set_option maxHeartbeats 1000000 in
theorem insSort_con (l : List Int) (g : Nat) (caps : List V) (c : Int → Int → Int) (hl : l.length ≤ 1048576) (hc : Caps caps) (hg : ∀ {a b}, a ∈ l → b ∈ l → Con Try.prog g (V.int .i64 a :: V.int .i64 b :: caps) [] (.int .i64 (c a b)) []) : Con Try.prog 221 [.ref 0, .int .i64 0, .int .i64 l.length, .fn g caps] [.arr (l.map (V.int .i64)) .flat] (.tup []) [.arr ((isort (ltOf c) l).map (V.int .i64)) .flat] := by
 refine v_con [] [] Try.func221 rfl rfl rfl (by simp [Try.ntmps221]) ?_
 intro Q0 n0 r0
 simp only [Try.ntmps221, envFrom, Nat.reduceAdd]
 have T := Tys.mk (And.intro Ty.t3 Ty.t26)
 have F := Fc.mk True.intro
 refine v_seq ?_; intro Q1 n1 e1 r1
 refine v_region ?_; intro K2 k2
 refine zMove ⟨?_⟩
 refine zBinOpW ⟨?_⟩
 refine zAssign ⟨?_⟩
 refine k2 _ ?_
 refine n1 _ _ (weak_keep [0, 1, 2, 3, 8] _) ?_
 refine zk ⟨?_⟩
 refine v_block ?_; intro Q3 n3 x3 e3 r3
 refine v_loop (fun i => ⟨[(0, .ref 0), (1, .int .i64 0), (2, .int .i64 l.length), (3, .fn g caps), (8, .int .i64 (Nat.cast i))], [.arr (((isort (ltOf c) (l.take i)) ++ l.drop i).map (V.int .i64)) .flat], false, 53, 0⟩) (fun i => 1 ≤ i) (fun i => l.length - i) 1 ?_ ?_ ?_
 ·refine weak_bothC [0, 1, 2, 3, 8] [0] ⟨?_⟩
  rw [isort_one]; rfl
 ·exact Nat.le_refl _
 ·rintro i hok4 Q4 n4 e4 r4
  have hi1 : 1 ≤ i := hok4
  refine v_seq ?_; intro Q5 n5 e5 r5
  refine v_seq ?_; intro Q6 n6 e6 r6
  refine v_region ?_; intro K7 k7
  refine zMove ⟨?_⟩
  refine zMove ⟨?_⟩
  refine zBinOp ⟨?_⟩
  refine k7 _ ?_
  refine n6 _ _ (weak_keep [0, 1, 2, 3, 8, 14] _) ?_
  refine zk ⟨?_⟩
  refine v_condS _ rfl ?_ ?_
  ·intro hc0
   have hlt : i < l.length := by omega
   obtain ⟨x, hx⟩ : ∃ x, l[i]? = some x := ⟨_, List.getElem?_eq_getElem hlt⟩
   have hpl : (isort (ltOf c) (l.take i)).length = i := by rw [isort_len, List.length_take]; omega
   have hs0 : (isort (ltOf c) (l.take i)) ++ l.drop i = (insAt (isort (ltOf c) (l.take i)) x (l.drop (i + 1)) i) := by rw [take_cons_drop hx, ← insAt_start, hpl]
   have hxm := List.mem_of_getElem? hx
   refine v_skip ?_
   refine n5 _ _ (weak_keep [0, 1, 2, 3, 8] _) ?_
   refine zk ⟨?_⟩
   refine v_seq ?_; intro Q9 n9 e9 r9
   refine v_block ?_; intro Q10 n10 x10 e10 r10
   refine v_seq ?_; intro Q11 n11 e11 r11
   refine v_region ?_; intro K12 k12
   refine zMove ⟨?_⟩
   refine zAssign ⟨?_⟩
   refine k12 _ ?_
   refine n11 _ _ (weak_keep [0, 1, 2, 3, 8, 9] _) ?_
   refine zk ⟨?_⟩
   refine v_block ?_; intro Q13 n13 x13 e13 r13
   refine v_loop (fun j => ⟨[(0, .ref 0), (1, .int .i64 0), (2, .int .i64 l.length), (3, .fn g caps), (8, .int .i64 (Nat.cast i)), (9, .int .i64 (Nat.cast j))], [.arr ((insAt (isort (ltOf c) (l.take i)) x (l.drop (i + 1)) j).map (V.int .i64)) .flat], false, 53, 0⟩) (fun j => j ≤ i ∧ insPos (ltOf c) x (isort (ltOf c) (l.take i)) j = insPos (ltOf c) x (isort (ltOf c) (l.take i)) i) (fun j => j) i ?_ ?_ ?_
   ·refine weak_bothC [0, 1, 2, 3, 8, 9] [0] ⟨?_⟩
    rw [hs0]
   ·exact ⟨Nat.le_refl _, rfl⟩
   ·rintro j hok14 Q14 n14 e14 r14
    obtain ⟨hj1, hR2⟩ := hok14
    have hym := hxm
    rcases Nat.eq_zero_or_pos j with hj00 | hj00
    ·skip
     have hj0 : ¬ ((0 : Int) < (j : Int)) := by omega
     refine v_seq ?_; intro Q15 n15 e15 r15
     refine v_seq ?_; intro Q16 n16 e16 r16
     refine v_draw (by kernel_rfl) ?_; intro K17 q17 k17
     show aAny _ _ _ _ 17 (Array.replicate 17 false) _
     have F := Fc.mk (And.intro hj0 (And.intro @decide_false @Bool.and_false))
     refine zdMove q17 true 0 18 ?_
     refine zdMove q17 true 1 19 ?_
     refine zdBinOp q17 true 2 20 ?_
     refine zdMove q17 true 3 21 ?_
     refine zdgMove q17 true 4 22 ?_
     refine zdgMove q17 true 5 23 ?_
     refine zdgMove q17 true 6 24 ?_
     refine zdgIndexAddr q17 true 7 25 ?_
     refine zdgLoad q17 true 8 26 ?_
     refine zdgMove q17 true 9 27 ?_
     refine zdgMove q17 true 10 28 ?_
     refine zdgBinOpW q17 true 11 29 ?_
     refine zdgIndexAddr q17 true 12 30 ?_
     refine zdgLoad q17 true 13 31 ?_
     refine zogcc 14 (hg hxm hym) ⟨?_⟩
     refine zdgBinOp q17 true 15 33 ?_
     refine zdPick q17 true 16 34 ?_
     refine aAny_done (by kernel_rfl) ?_
     refine k17 _ ?_
     refine n16 _ _ (weak_keep [0, 1, 2, 3, 8, 9, 34] _) ?_
     refine zk ⟨?_⟩
     refine v_cond _ rfl ?_ ?_
     ·intro hc1
      exfalso; simp [hj0] at hc1
     ·intro hc1
      try simp only [zC, reduceCtorEq] at hc1
      first
      |(have hend : (insAt (isort (ltOf c) (l.take i)) x (l.drop (i + 1)) j) = isort (ltOf c) (l.take (i + 1)) ++ (l.drop (i + 1)) := by rw [isort_step hx]; exact insAt_end (by rw [hpl, ← hR2, hj00]; rfl))
      |(have hend : (insAt (isort (ltOf c) (l.take i)) x (l.drop (i + 1)) (m + 1)) = isort (ltOf c) (l.take (i + 1)) ++ (l.drop (i + 1)) := by rw [isort_step hx]; exact insAt_end (by rw [hpl, ← hR2, insPos_no hyp (by simpa [ltOf, hj0] using hc1)]))
      refine v_exit ?_
      refine e15 _ _ ?_
      refine e14 _ _ ?_
      refine x13 _ ?_
      refine n10 _ ?_
      refine n9 _ _ (weak_keep [0, 1, 2, 3, 8] _) ?_
      refine zk ⟨?_⟩
      refine v_region ?_; intro K19 k19
      refine zMove ⟨?_⟩
      refine zBinOpW ⟨?_⟩
      refine zAssign ⟨?_⟩
      refine k19 _ ?_
      refine n4 _ (i + 1) ?_ ?_ ?_
      ·refine weak_bothC [0, 1, 2, 3, 8] [0] ⟨?_⟩
       rw [hend]; rfl
      ·exact Nat.le_succ_of_le hi1
      ·show _ < _; omega
    ·skip
     obtain ⟨m, rfl⟩ : ∃ m, j = m + 1 := ⟨j - 1, by omega⟩
     have hj0 : (0 : Int) < ((m + 1 : Nat) : Int) := by omega
     obtain ⟨y, hyp⟩ : ∃ y, (isort (ltOf c) (l.take i))[m]? = some y := ⟨_, List.getElem?_eq_getElem (by rw [hpl]; omega)⟩
     have hk : (((m + 1 : Nat) : Int) - 1).toNat = m := by omega
     have hgx := insAt_get (p := (isort (ltOf c) (l.take i))) (r := (l.drop (i + 1))) (x := x) (j := m + 1) (by rw [hpl]; omega)
     have hgy := insAt_prev (x := x) (r := (l.drop (i + 1))) hyp
     have hil : (insAt (isort (ltOf c) (l.take i)) x (l.drop (i + 1)) (m + 1)).length = l.length := by rw [insAt_len (by rw [hpl]; omega), hpl, List.length_drop]; omega
     have hsw := insAt_swap (x := x) (r := (l.drop (i + 1))) hyp
     have hgz : ((insAt (isort (ltOf c) (l.take i)) x (l.drop (i + 1)) (m + 1)).set (m + 1) y)[m]? = some y := by rw [List.getElem?_set_ne (by omega)]; exact hgy
     have hxm := List.mem_of_getElem? hx
     have hym : y ∈ l := List.mem_of_mem_take (isort_mem.1 (List.mem_of_getElem? hyp))
     refine v_seq ?_; intro Q20 n20 e20 r20
     refine v_seq ?_; intro Q21 n21 e21 r21
     refine v_draw (by kernel_rfl) ?_; intro K22 q22 k22
     show aAny _ _ _ _ 17 (Array.replicate 17 false) _
     have F := Fc.mk (And.intro hj0 (And.intro @decide_true (And.intro @Bool.and_true (And.intro hk (And.intro (fun f => getD_map (f := f) hgx) (And.intro (fun f => getD_map (f := f) hgy) (And.intro (fun f => getD_map (f := f) hgz) (And.intro hil (And.intro @set_map (And.intro hsw @List.length_set.{0}))))))))))
     refine zdMove q22 true 0 18 ?_
     refine zdMove q22 true 1 19 ?_
     refine zdBinOp q22 true 2 20 ?_
     refine zdMove q22 true 3 21 ?_
     refine zdgMove q22 true 4 22 ?_
     refine zdgMove q22 true 5 23 ?_
     refine zdgMove q22 true 6 24 ?_
     refine zdgIndexAddr q22 true 7 25 ?_
     refine zdgLoad q22 true 8 26 ?_
     refine zdgMove q22 true 9 27 ?_
     refine zdgMove q22 true 10 28 ?_
     refine zdgBinOpW q22 true 11 29 ?_
     refine zdgIndexAddr q22 true 12 30 ?_
     refine zdgLoad q22 true 13 31 ?_
     refine zogcc 14 (hg hxm hym) ⟨?_⟩
     refine zdgBinOp q22 true 15 33 ?_
     refine zdPick q22 true 16 34 ?_
     refine aAny_done (by kernel_rfl) ?_
     refine k22 _ ?_
     refine n21 _ _ (weak_keep [0, 1, 2, 3, 8, 9, 34] _) ?_
     refine zk ⟨?_⟩
     refine v_condS _ rfl ?_ ?_
     ·intro hc1
      have hlc : ltOf c x y = true := by simpa [ltOf, hj0] using hc1
      refine v_skip ?_
      refine n20 _ _ (weak_keep [0, 1, 2, 3, 8, 9] _) ?_
      refine zk ⟨?_⟩
      refine v_seq ?_; intro Q24 n24 e24 r24
      refine v_block ?_; intro Q25 n25 x25 e25 r25
      refine v_draw (by kernel_rfl) ?_; intro K26 q26 k26
      show aAny _ _ _ _ 18 (Array.replicate 18 false) _
      refine zdMove q26 true 0 37 ?_
      refine zdMove q26 true 1 38 ?_
      refine zdMove q26 false 2 39 ?_
      refine zdMove q26 false 3 40 ?_
      refine zdBinOpW q26 false 4 41 ?_
      refine zdMove q26 true 5 42 ?_
      refine zdMove q26 true 6 43 ?_
      refine zdBinOpW q26 true 7 44 ?_
      refine zdIndexAddr q26 true 8 45 ?_
      refine zdLoad q26 true 9 46 ?_
      refine zdMove q26 true 10 47 ?_
      refine zdMove q26 true 11 48 ?_
      refine zdIndexAddr q26 true 12 49 ?_
      refine zdLoad q26 true 13 50 ?_
      refine zdIndexAddr q26 true 14 51 ?_
      refine zoStore 15 ⟨?_⟩
      refine zdIndexAddr q26 true 16 52 ?_
      refine zoStore 17 ⟨?_⟩
      refine aAny_done (by kernel_rfl) ?_
      refine k26 _ ?_
      refine n25 _ ?_
      refine n24 _ _ (weak_keep [0, 1, 2, 3, 8, 9] _) ?_
      refine zk ⟨?_⟩
      refine v_region ?_; intro K27 k27
      refine zMove ⟨?_⟩
      refine zBinOpW ⟨?_⟩
      refine zAssign ⟨?_⟩
      refine k27 _ ?_
      refine n14 _ m ?_ ?_ ?_
      ·refine weak_bothC [0, 1, 2, 3, 8, 9] [0] ⟨?_⟩
       rw [show ((m + 1 : Nat) : Int) - 1 = (m : Int) by omega]
      ·exact ⟨by omega, by rw [← hR2, insPos_yes hyp hlc]⟩
      ·show m < m + 1; omega
     ·intro hc1
      first
      |(have hend : (insAt (isort (ltOf c) (l.take i)) x (l.drop (i + 1)) j) = isort (ltOf c) (l.take (i + 1)) ++ (l.drop (i + 1)) := by rw [isort_step hx]; exact insAt_end (by rw [hpl, ← hR2, hj00]; rfl))
      |(have hend : (insAt (isort (ltOf c) (l.take i)) x (l.drop (i + 1)) (m + 1)) = isort (ltOf c) (l.take (i + 1)) ++ (l.drop (i + 1)) := by rw [isort_step hx]; exact insAt_end (by rw [hpl, ← hR2, insPos_no hyp (by simpa [ltOf, hj0] using hc1)]))
      refine v_exit ?_
      refine e20 _ _ ?_
      refine e14 _ _ ?_
      refine x13 _ ?_
      refine n10 _ ?_
      refine n9 _ _ (weak_keep [0, 1, 2, 3, 8] _) ?_
      refine zk ⟨?_⟩
      refine v_region ?_; intro K28 k28
      refine zMove ⟨?_⟩
      refine zBinOpW ⟨?_⟩
      refine zAssign ⟨?_⟩
      refine k28 _ ?_
      refine n4 _ (i + 1) ?_ ?_ ?_
      ·refine weak_bothC [0, 1, 2, 3, 8] [0] ⟨?_⟩
       rw [hend]; rfl
      ·exact Nat.le_succ_of_le hi1
      ·show _ < _; omega
  ·intro hc0
   refine v_exit ?_
   refine e5 _ _ ?_
   refine e4 _ _ ?_
   refine x3 _ ?_
   refine n0 _ ?_
   refine zf ⟨?_⟩
   have hend2 : isort (ltOf c) (l.take i) ++ l.drop i = isort (ltOf c) l := by rw [List.take_of_length_le (by omega), List.drop_of_length_le (by omega), List.append_nil]
   exact ret_lent rfl (by simp) rfl (by simp [hend2]) (by simp [Blk.kindIs]) (.inl rfl)
set_option maxHeartbeats 1000000 in
theorem stable_con (l : List Int) (g : Nat) (caps : List V) (c : Int → Int → Int) (hl : l.length ≤ 19) (hc : Caps caps) (hg : ∀ {a b}, a ∈ l → b ∈ l → Con Try.prog g (V.int .i64 a :: V.int .i64 b :: caps) [] (.int .i64 (c a b)) []) : Con Try.prog 205 [.ref 0, .int .i64 l.length, .fn g caps] [.arr (l.map (V.int .i64)) .flat] (.tup []) [.arr ((isort (ltOf c) l).map (V.int .i64)) .flat] := by
 refine v_con [] [(221, [0])] Try.func205 rfl rfl rfl (by simp [Try.ntmps205]) ?_
 intro Q0 n0 r0
 simp only [Try.ntmps205, envFrom, Nat.reduceAdd]
 have T := Tys.mk (And.intro Ty.t3 Ty.t26)
 have F := Fc.mk True.intro
 refine v_seq ?_; intro Q1 n1 e1 r1
 refine v_region ?_; intro K2 k2
 refine zAssign ⟨?_⟩
 refine k2 _ ?_
 refine n1 _ _ (weak_keep [0, 1, 2, 6] _) ?_
 refine zk ⟨?_⟩
 refine v_seq ?_; intro Q3 n3 e3 r3
 refine v_region ?_; intro K4 k4
 refine zMove ⟨?_⟩
 refine zAssign ⟨?_⟩
 refine zAssign ⟨?_⟩
 refine k4 _ ?_
 refine n3 _ _ (weak_keep [0, 1, 2, 6, 7, 8] _) ?_
 refine zk ⟨?_⟩
 refine v_seq ?_; intro Q5 n5 e5 r5
 refine v_block ?_; intro Q6 n6 x6 e6 r6
 refine v_loop (fun i => ⟨[(0, .ref 0), (1, .int .i64 l.length), (2, .fn g caps), (6, .int .i64 20), (7, .int .i64 0), (8, .int .i64 20)], [.arr (l.map (V.int .i64)) .flat], false, 63, 0⟩) (fun i => True) (fun i => 0) () ?_ ?_ ?_
 ·refine weak_of [0, 1, 2, 6, 7, 8] ?_
  simp only [keep_mk, keepE_nil, keepE_cons, look_cons, look_nil, Nat.reduceEqDiff, reduceIte]
  all_goals rfl
 ·trivial
 ·rintro i hok7 Q7 n7 e7 r7
  have hok : True := hok7
  refine v_seq ?_; intro Q8 n8 e8 r8
  refine v_seq ?_; intro Q9 n9 e9 r9
  refine v_region ?_; intro K10 k10
  refine zMove ⟨?_⟩
  refine zMove ⟨?_⟩
  refine zBinOp ⟨?_⟩
  refine k10 _ ?_
  refine n9 _ _ (weak_keep [0, 1, 2, 6, 7, 8, 13] _) ?_
  refine zk ⟨?_⟩
  refine v_cond _ rfl ?_ ?_
  ·intro hc0
   exfalso; simp at hc0; omega
  ·intro hc0
   try simp only [zC, reduceCtorEq] at hc0
   refine v_exit ?_
   refine e8 _ _ ?_
   refine e7 _ _ ?_
   refine x6 _ ?_
   refine n5 _ _ (weak_keep [0, 1, 2, 6, 7] _) ?_
   refine zk ⟨?_⟩
   refine v_seq ?_; intro Q12 n12 e12 r12
   refine v_region ?_; intro K13 k13
   refine zMove ⟨?_⟩
   refine zMove ⟨?_⟩
   refine zMove ⟨?_⟩
   refine zMove ⟨?_⟩
   refine zclc (insSort_con l g caps c (by omega) hc hg) ⟨?_⟩
   refine k13 _ ?_
   refine n12 _ _ (weak_keep [0, 1, 2, 6] _) ?_
   refine zk ⟨?_⟩
   refine v_block ?_; intro Q14 n14 x14 e14 r14
   refine v_loop (fun i => ⟨[(0, .ref 0), (1, .int .i64 l.length), (2, .fn g caps), (6, .int .i64 20)], [.arr ((isort (ltOf c) l).map (V.int .i64)) .flat], false, 63, 0⟩) (fun i => True) (fun i => 0) () ?_ ?_ ?_
   ·refine weak_of [0, 1, 2, 6] ?_
    simp only [keep_mk, keepE_nil, keepE_cons, look_cons, look_nil, Nat.reduceEqDiff, reduceIte]
    all_goals rfl
   ·trivial
   ·rintro i hok15 Q15 n15 e15 r15
    have hok : True := hok15
    refine v_seq ?_; intro Q16 n16 e16 r16
    refine v_seq ?_; intro Q17 n17 e17 r17
    refine v_region ?_; intro K18 k18
    refine zMove ⟨?_⟩
    refine zMove ⟨?_⟩
    refine zBinOp ⟨?_⟩
    refine k18 _ ?_
    refine n17 _ _ (weak_keep [0, 1, 2, 6, 30] _) ?_
    refine zk ⟨?_⟩
    refine v_cond _ rfl ?_ ?_
    ·intro hc1
     exfalso; simp at hc1; omega
    ·intro hc1
     try simp only [zC, reduceCtorEq] at hc1
     refine v_exit ?_
     refine e16 _ _ ?_
     refine e15 _ _ ?_
     refine x14 _ ?_
     refine n0 _ ?_
     refine zf ⟨?_⟩
     exact ret_lent rfl (by simp) rfl (by simp) (by simp [Blk.kindIs]) (.inl rfl)
set_option maxHeartbeats 1000000 in
theorem sortStable_con (l : List Int) (g : Nat) (caps : List V) (c : Int → Int → Int) (hl : l.length ≤ 19) (hc : Caps caps) (hg : ∀ {a b}, a ∈ l → b ∈ l → Con Try.prog g (V.int .i64 a :: V.int .i64 b :: caps) [] (.int .i64 (c a b)) []) : Con Try.prog 177 [.ref 0, .fn g caps] [.arr (l.map (V.int .i64)) .flat] (.tup []) [.arr ((isort (ltOf c) l).map (V.int .i64)) .flat] := by
 refine v_con [] [(205, [0])] Try.func177 rfl rfl rfl (by simp [Try.ntmps177]) ?_
 intro Q0 n0 r0
 simp only [Try.ntmps177, envFrom, Nat.reduceAdd]
 have T := Tys.mk (And.intro Ty.t3 Ty.t26)
 have F := Fc.mk True.intro
 refine v_region ?_; intro K1 k1
 refine zMove ⟨?_⟩
 refine zMove ⟨?_⟩
 refine zLen ⟨?_⟩
 refine zMove ⟨?_⟩
 refine zclc (stable_con l g caps c hl hc hg) ⟨?_⟩
 refine k1 _ ?_
 refine n0 _ ?_
 refine zf ⟨?_⟩
 exact ret_lent rfl (by simp) rfl (by simp) (by simp [Blk.kindIs]) (.inl rfl)
end Go.Proofs.Ytdgenniiidgimaa
