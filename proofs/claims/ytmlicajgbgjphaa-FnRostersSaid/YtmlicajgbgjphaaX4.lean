/- What functions compute. No condition. -/
import Derived.Test.YtmlicajgbgjphaaUty
import Derived.Test.YtmlicajgbgjphaaUmG
import Derived.Test.YtmlicajgbgjphaaX3
import Derived.Test.YtmlicajgbgjphaaX1
import Derived.Test.YtmlicajgbgjphaaX2
import Derived.Test.YtmlicajgbgjphaaShelf
set_option linter.unusedSimpArgs false
set_option linter.unusedVariables false
set_option linter.defProp false
namespace Go.Proofs.Ytmlicajgbgjphaa
open Go Go.Vm

def ltOf (c : Int → Int → Int) (x y : Int) : Bool := decide (c x y < 0)
theorem isort_one (lt : Int → Int → Bool) (l : List Int) : isort lt (l.take 1) ++ l.drop 1 = l := by
  cases l with
  | nil => rfl
  | cons x l => rfl
theorem data_mem {lt : Int → Int → Bool} {l : List Int} {i j : Nat} {x y : Int} (hx : l[i]? = some x) (h : (insAt (isort lt (l.take i)) x (l.drop (i + 1)) j)[j]? = some y ∨ y ∈ insAt (isort lt (l.take i)) x (l.drop (i + 1)) j) : y ∈ l := by
  have h2 : y ∈ insAt (isort lt (l.take i)) x (l.drop (i + 1)) j := by
    rcases h with h | h
    · exact List.mem_of_getElem? h
    · exact h
  rcases insAt_mem h2 with q | q | q
  · rw [q]; exact List.mem_of_getElem? hx
  · exact List.mem_of_mem_take (isort_mem.1 q)
  · exact List.mem_of_mem_drop q

set_option maxRecDepth 8000 in
set_option maxHeartbeats 1000000 in
theorem insSort_con (l : List Int) (g : Nat) (caps : List V) (c : Int → Int → Int) (hl : l.length ≤ 1048576) (hc : Caps caps) (hg : ∀ {a b}, a ∈ l → b ∈ l → Con Try.prog g (V.int .i64 a :: V.int .i64 b :: caps) [] (.int .i64 (c a b)) []) : Con Try.prog 265 [.ref 0, .int .i64 0, .int .i64 l.length, .fn g caps] [.arr (l.map (V.int .i64)) .flat] (.tup []) [.arr ((isort (ltOf c) l).map (V.int .i64)) .flat] := by
 refine v_con [] [] Try.func265 rfl rfl rfl (by simp [Try.ntmps265]) ?_
 intro Q0 n0 r0
 simp only [Try.ntmps265, envFrom, Nat.reduceAdd]
 have T := Tys.mk (And.intro Ty.t3 Ty.t31)
 have F := Fc.mk True.intro
 refine v_seqR [0,1,2,3,8] ?_; intro K1 k1
 refine zMove ⟨?_⟩
 refine zBinOpW ⟨?_⟩
 refine zAssign ⟨?_⟩
 refine k1 _ ?_
 refine zk ⟨?_⟩
 refine v_block ?_; intro Q2 n2 x2 e2 r2
 refine v_loop (fun i => ⟨[(0, .ref 0), (1, .int .i64 0), (2, .int .i64 l.length), (3, .fn g caps), (8, .int .i64 (Nat.cast i))], [.arr (((isort (ltOf c) (l.take i)) ++ l.drop i).map (V.int .i64)) .flat], false, 53, 0⟩) (fun i => 1 ≤ i) (fun i => l.length - i) 1 ?_ ?_ ?_
 ·refine weak_bothC [0, 1, 2, 3, 8] [0] ⟨?_⟩
  rw [isort_one]; rfl
 ·exact Nat.le_refl _
 ·rintro i hok3 Q3 n3 e3 r3
  have hi1 : 1 ≤ i := hok3
  refine v_seq ?_; intro Q4 n4 e4 r4
  refine v_seqR [0,1,2,3,8,14] ?_; intro K5 k5
  refine zMove ⟨?_⟩
  refine zMove ⟨?_⟩
  refine zBinOp ⟨?_⟩
  refine k5 _ ?_
  refine zk ⟨?_⟩
  refine v_condS _ rfl ?_ ?_
  ·intro hc0
   have hlt : i < l.length := by omega
   obtain ⟨x, hx⟩ : ∃ x, l[i]? = some x := ⟨_, List.getElem?_eq_getElem hlt⟩
   have hpl : (isort (ltOf c) (l.take i)).length = i := by rw [isort_len, List.length_take]; omega
   have hs0 : (isort (ltOf c) (l.take i)) ++ l.drop i = (insAt (isort (ltOf c) (l.take i)) x (l.drop (i + 1)) i) := by rw [take_cons_drop hx, ← insAt_start, hpl]
   have hxm := List.mem_of_getElem? hx
   refine v_skip ?_
   refine n4 _ _ (weak_keep [0, 1, 2, 3, 8] _) ?_
   refine zk ⟨?_⟩
   refine v_seq ?_; intro Q7 n7 e7 r7
   refine v_block ?_; intro Q8 n8 x8 e8 r8
   refine v_seqR [0,1,2,3,8,9] ?_; intro K9 k9
   refine zMove ⟨?_⟩
   refine zAssign ⟨?_⟩
   refine k9 _ ?_
   refine zk ⟨?_⟩
   refine v_block ?_; intro Q10 n10 x10 e10 r10
   refine v_loop (fun j => ⟨[(0, .ref 0), (1, .int .i64 0), (2, .int .i64 l.length), (3, .fn g caps), (8, .int .i64 (Nat.cast i)), (9, .int .i64 (Nat.cast j))], [.arr ((insAt (isort (ltOf c) (l.take i)) x (l.drop (i + 1)) j).map (V.int .i64)) .flat], false, 53, 0⟩) (fun j => j ≤ i ∧ insPos (ltOf c) x (isort (ltOf c) (l.take i)) j = insPos (ltOf c) x (isort (ltOf c) (l.take i)) i) (fun j => j) i ?_ ?_ ?_
   ·refine weak_bothC [0, 1, 2, 3, 8, 9] [0] ⟨?_⟩
    rw [hs0]
   ·exact ⟨Nat.le_refl _, rfl⟩
   ·rintro j hok11 Q11 n11 e11 r11
    obtain ⟨hj1, hR2⟩ := hok11
    have hym := hxm
    rcases Nat.eq_zero_or_pos j with hj00 | hj00
    ·skip
     have hj0 : ¬ ((0 : Int) < (j : Int)) := by omega
     refine v_seq ?_; intro Q12 n12 e12 r12
     refine v_seq ?_; intro Q13 n13 e13 r13
     refine v_draw (by kernel_rfl) ?_; intro K14 q14 k14
     show aAny _ _ _ _ 17 (Array.replicate 17 false) _
     have F := Fc.mk (And.intro hj0 (And.intro @decide_false @Bool.and_false))
     refine zdMove q14 true 0 18 ?_
     refine zdMove q14 true 1 19 ?_
     refine zdBinOp q14 true 2 20 ?_
     refine zdMove q14 true 3 21 ?_
     refine zdgMove q14 true 4 22 ?_
     refine zdgMove q14 true 5 23 ?_
     refine zdgMove q14 true 6 24 ?_
     refine zdgIndexAddr q14 true 7 25 ?_
     refine zdgLoad q14 true 8 26 ?_
     refine zdgMove q14 true 9 27 ?_
     refine zdgMove q14 true 10 28 ?_
     refine zdgBinOpW q14 true 11 29 ?_
     refine zdgIndexAddr q14 true 12 30 ?_
     refine zdgLoad q14 true 13 31 ?_
     first
     |refine zogcc 14 (hg hxm hym) ⟨?_⟩
     |(refine aAny_pass 14 32 3 true rfl rfl (show 32 < 53 by decide) (by kernel_rfl) rfl ?_ ?_; (focus first | rfl | (simp only [zV, guardV, Nat.reduceEqDiff, reduceIte]; done)); simp only [zW, set_some, Nat.reduceEqDiff, reduceIte])
     refine zdgBinOp q14 true 15 33 ?_
     refine zdPick q14 true 16 34 ?_
     refine aAny_done (by kernel_rfl) ?_
     refine k14 _ ?_
     refine n13 _ _ (weak_keep [0, 1, 2, 3, 8, 9, 34] _) ?_
     refine zk ⟨?_⟩
     refine v_cond _ rfl ?_ ?_
     ·intro hc1
      exfalso; simp [hj0] at hc1
     ·intro hc1
      try simp only [zC, reduceCtorEq] at hc1
      first
      |(have hend : (insAt (isort (ltOf c) (l.take i)) x (l.drop (i + 1)) j) = isort (ltOf c) (l.take (i + 1)) ++ (l.drop (i + 1)) := by rw [isort_step hx]; exact insAt_end (by rw [hpl, ← hR2, hj00]; rfl))
      |(have hend : (insAt (isort (ltOf c) (l.take i)) x (l.drop (i + 1)) (m + 1)) = isort (ltOf c) (l.take (i + 1)) ++ (l.drop (i + 1)) := by rw [isort_step hx]; exact insAt_end (by rw [hpl, ← hR2, insPos_no hyp (by simpa [ltOf, hj0] using hc1)]))
      refine v_exit ?_
      refine e12 _ _ ?_
      refine e11 _ _ ?_
      refine x10 _ ?_
      refine n8 _ ?_
      refine n7 _ _ (weak_keep [0, 1, 2, 3, 8] _) ?_
      refine zk ⟨?_⟩
      refine v_region ?_; intro K16 k16
      refine zMove ⟨?_⟩
      refine zBinOpW ⟨?_⟩
      refine zAssign ⟨?_⟩
      refine k16 _ ?_
      refine n3 _ (i + 1) ?_ ?_ ?_
      ·refine weak_bothC [0, 1, 2, 3, 8] [0] ⟨?_⟩
       rw [hend]; rfl
      ·exact Nat.le_succ_of_le hi1
      ·show _ < _; omega
    ·skip
     obtain ⟨m, rfl⟩ : ∃ m, j = m + 1 := ⟨j - 1, by omega⟩
     have hj0 : (0 : Int) < ((m + 1 : Nat) : Int) := by omega
     obtain ⟨y, hyp⟩ : ∃ y, (isort (ltOf c) (l.take i))[m]? = some y := ⟨_, List.getElem?_eq_getElem (by rw [hpl]; omega)⟩
     have hk : (((m + 1 : Nat) : Int) - 1).toNat = m := by omega
     have hgx := insAt_get (p := (isort (ltOf c) (l.take i))) (r := (l.drop (i + 1))) (x := x) (j := m + 1) (by rw [hpl]; omega)
     have hgy := insAt_prev (x := x) (r := (l.drop (i + 1))) hyp
     have hil : (insAt (isort (ltOf c) (l.take i)) x (l.drop (i + 1)) (m + 1)).length = l.length := by rw [insAt_len (by rw [hpl]; omega), hpl, List.length_drop]; omega
     have hsw := insAt_swap (x := x) (r := (l.drop (i + 1))) hyp
     have hgz : ((insAt (isort (ltOf c) (l.take i)) x (l.drop (i + 1)) (m + 1)).set (m + 1) y)[m]? = some y := by rw [List.getElem?_set_ne (by omega)]; exact hgy
     have hxm := List.mem_of_getElem? hx
     have hym : y ∈ l := List.mem_of_mem_take (isort_mem.1 (List.mem_of_getElem? hyp))
     refine v_seq ?_; intro Q17 n17 e17 r17
     refine v_seq ?_; intro Q18 n18 e18 r18
     refine v_draw (by kernel_rfl) ?_; intro K19 q19 k19
     show aAny _ _ _ _ 17 (Array.replicate 17 false) _
     have F := Fc.mk (And.intro hj0 (And.intro @decide_true (And.intro @Bool.and_true (And.intro hk (And.intro (fun f => getD_map (f := f) hgx) (And.intro (fun f => getD_map (f := f) hgy) (And.intro (fun f => getD_map (f := f) hgz) (And.intro hil (And.intro @set_map (And.intro hsw @List.length_set.{0}))))))))))
     refine zdMove q19 true 0 18 ?_
     refine zdMove q19 true 1 19 ?_
     refine zdBinOp q19 true 2 20 ?_
     refine zdMove q19 true 3 21 ?_
     refine zdgMove q19 true 4 22 ?_
     refine zdgMove q19 true 5 23 ?_
     refine zdgMove q19 true 6 24 ?_
     refine zdgIndexAddr q19 true 7 25 ?_
     refine zdgLoad q19 true 8 26 ?_
     refine zdgMove q19 true 9 27 ?_
     refine zdgMove q19 true 10 28 ?_
     refine zdgBinOpW q19 true 11 29 ?_
     refine zdgIndexAddr q19 true 12 30 ?_
     refine zdgLoad q19 true 13 31 ?_
     first
     |refine zogcc 14 (hg hxm hym) ⟨?_⟩
     |(refine aAny_pass 14 32 3 true rfl rfl (show 32 < 53 by decide) (by kernel_rfl) rfl ?_ ?_; (focus first | rfl | (simp only [zV, guardV, Nat.reduceEqDiff, reduceIte]; done)); simp only [zW, set_some, Nat.reduceEqDiff, reduceIte])
     refine zdgBinOp q19 true 15 33 ?_
     refine zdPick q19 true 16 34 ?_
     refine aAny_done (by kernel_rfl) ?_
     refine k19 _ ?_
     refine n18 _ _ (weak_keep [0, 1, 2, 3, 8, 9, 34] _) ?_
     refine zk ⟨?_⟩
     refine v_condS _ rfl ?_ ?_
     ·intro hc1
      have hlc : ltOf c x y = true := by simpa [ltOf, hj0] using hc1
      refine v_skip ?_
      refine n17 _ _ (weak_keep [0, 1, 2, 3, 8, 9] _) ?_
      refine zk ⟨?_⟩
      refine v_seq ?_; intro Q21 n21 e21 r21
      refine v_block ?_; intro Q22 n22 x22 e22 r22
      refine v_draw (by kernel_rfl) ?_; intro K23 q23 k23
      show aAny _ _ _ _ 18 (Array.replicate 18 false) _
      refine zdMove q23 true 0 37 ?_
      refine zdMove q23 true 1 38 ?_
      refine zdMove q23 false 2 39 ?_
      refine zdMove q23 false 3 40 ?_
      refine zdBinOpW q23 false 4 41 ?_
      refine zdMove q23 true 5 42 ?_
      refine zdMove q23 true 6 43 ?_
      refine zdBinOpW q23 true 7 44 ?_
      refine zdIndexAddr q23 true 8 45 ?_
      refine zdLoad q23 true 9 46 ?_
      refine zdMove q23 true 10 47 ?_
      refine zdMove q23 true 11 48 ?_
      refine zdIndexAddr q23 true 12 49 ?_
      refine zdLoad q23 true 13 50 ?_
      refine zdIndexAddr q23 true 14 51 ?_
      refine zoStore 15 ⟨?_⟩
      refine zdIndexAddr q23 true 16 52 ?_
      refine zoStore 17 ⟨?_⟩
      refine aAny_done (by kernel_rfl) ?_
      refine k23 _ ?_
      refine n22 _ ?_
      refine n21 _ _ (weak_keep [0, 1, 2, 3, 8, 9] _) ?_
      refine zk ⟨?_⟩
      refine v_region ?_; intro K24 k24
      refine zMove ⟨?_⟩
      refine zBinOpW ⟨?_⟩
      refine zAssign ⟨?_⟩
      refine k24 _ ?_
      refine n11 _ m ?_ ?_ ?_
      ·refine weak_bothC [0, 1, 2, 3, 8, 9] [0] ⟨?_⟩
       rw [show ((m + 1 : Nat) : Int) - 1 = (m : Int) by omega]
      ·exact ⟨by omega, by rw [← hR2, insPos_yes hyp hlc]⟩
      ·show m < m + 1; omega
     ·intro hc1
      first
      |(have hend : (insAt (isort (ltOf c) (l.take i)) x (l.drop (i + 1)) j) = isort (ltOf c) (l.take (i + 1)) ++ (l.drop (i + 1)) := by rw [isort_step hx]; exact insAt_end (by rw [hpl, ← hR2, hj00]; rfl))
      |(have hend : (insAt (isort (ltOf c) (l.take i)) x (l.drop (i + 1)) (m + 1)) = isort (ltOf c) (l.take (i + 1)) ++ (l.drop (i + 1)) := by rw [isort_step hx]; exact insAt_end (by rw [hpl, ← hR2, insPos_no hyp (by simpa [ltOf, hj0] using hc1)]))
      refine v_exit ?_
      refine e17 _ _ ?_
      refine e11 _ _ ?_
      refine x10 _ ?_
      refine n8 _ ?_
      refine n7 _ _ (weak_keep [0, 1, 2, 3, 8] _) ?_
      refine zk ⟨?_⟩
      refine v_region ?_; intro K25 k25
      refine zMove ⟨?_⟩
      refine zBinOpW ⟨?_⟩
      refine zAssign ⟨?_⟩
      refine k25 _ ?_
      refine n3 _ (i + 1) ?_ ?_ ?_
      ·refine weak_bothC [0, 1, 2, 3, 8] [0] ⟨?_⟩
       rw [hend]; rfl
      ·exact Nat.le_succ_of_le hi1
      ·show _ < _; omega
  ·intro hc0
   refine v_exit ?_
   refine e4 _ _ ?_
   refine e3 _ _ ?_
   refine x2 _ ?_
   refine n0 _ ?_
   refine zf ⟨?_⟩
   have hend2 : isort (ltOf c) (l.take i) ++ l.drop i = isort (ltOf c) l := by rw [List.take_of_length_le (by omega), List.drop_of_length_le (by omega), List.append_nil]
   exact ret_lent rfl (by simp) rfl (by simp [hend2]) (by simp [Blk.kindIs]) (.inl rfl)
set_option maxHeartbeats 1000000 in
theorem stable_con (l : List Int) (g : Nat) (caps : List V) (c : Int → Int → Int) (hl : l.length ≤ 19) (hc : Caps caps) (hg : ∀ {a b}, a ∈ l → b ∈ l → Con Try.prog g (V.int .i64 a :: V.int .i64 b :: caps) [] (.int .i64 (c a b)) []) : Con Try.prog 256 [.ref 0, .int .i64 l.length, .fn g caps] [.arr (l.map (V.int .i64)) .flat] (.tup []) [.arr ((isort (ltOf c) l).map (V.int .i64)) .flat] := by
 refine v_con [] [(265, [0])] Try.func256 rfl rfl rfl (by simp [Try.ntmps256]) ?_
 intro Q0 n0 r0
 simp only [Try.ntmps256, envFrom, Nat.reduceAdd]
 have T := Tys.mk (And.intro Ty.t3 Ty.t31)
 have F := Fc.mk True.intro
 refine v_seqR [0,1,2,6] ?_; intro K1 k1
 refine zAssign ⟨?_⟩
 refine k1 _ ?_
 refine zk ⟨?_⟩
 refine v_seqR [0,1,2,6,7,8] ?_; intro K2 k2
 refine zMove ⟨?_⟩
 refine zAssign ⟨?_⟩
 refine zAssign ⟨?_⟩
 refine k2 _ ?_
 refine zk ⟨?_⟩
 refine v_seq ?_; intro Q3 n3 e3 r3
 refine v_block ?_; intro Q4 n4 x4 e4 r4
 refine v_loop (fun i => ⟨[(0, .ref 0), (1, .int .i64 l.length), (2, .fn g caps), (6, .int .i64 20), (7, .int .i64 0), (8, .int .i64 20)], [.arr (l.map (V.int .i64)) .flat], false, 63, 0⟩) (fun i => True) (fun i => 0) () ?_ ?_ ?_
 ·refine weak_of [0, 1, 2, 6, 7, 8] ?_
  simp only [keep_mk, keepE_nil, keepE_cons, look_cons, look_nil, Nat.reduceEqDiff, reduceIte]
  all_goals rfl
 ·trivial
 ·rintro i hok5 Q5 n5 e5 r5
  have hok : True := hok5
  refine v_seq ?_; intro Q6 n6 e6 r6
  refine v_seqR [0,1,2,6,7,8,13] ?_; intro K7 k7
  refine zMove ⟨?_⟩
  refine zMove ⟨?_⟩
  refine zBinOp ⟨?_⟩
  refine k7 _ ?_
  refine zk ⟨?_⟩
  refine v_cond _ rfl ?_ ?_
  ·intro hc0
   exfalso; simp at hc0; omega
  ·intro hc0
   try simp only [zC, reduceCtorEq] at hc0
   refine v_exit ?_
   refine e6 _ _ ?_
   refine e5 _ _ ?_
   refine x4 _ ?_
   refine n3 _ _ (weak_keep [0, 1, 2, 6, 7] _) ?_
   refine zk ⟨?_⟩
   refine v_seqR [0,1,2,6] ?_; intro K9 k9
   refine zMove ⟨?_⟩
   refine zMove ⟨?_⟩
   refine zMove ⟨?_⟩
   refine zMove ⟨?_⟩
   refine zclc (insSort_con l g caps c (by omega) hc hg) ⟨?_⟩
   refine k9 _ ?_
   refine zk ⟨?_⟩
   refine v_block ?_; intro Q10 n10 x10 e10 r10
   refine v_loop (fun i => ⟨[(0, .ref 0), (1, .int .i64 l.length), (2, .fn g caps), (6, .int .i64 20)], [.arr ((isort (ltOf c) l).map (V.int .i64)) .flat], false, 63, 0⟩) (fun i => True) (fun i => 0) () ?_ ?_ ?_
   ·refine weak_of [0, 1, 2, 6] ?_
    simp only [keep_mk, keepE_nil, keepE_cons, look_cons, look_nil, Nat.reduceEqDiff, reduceIte]
    all_goals rfl
   ·trivial
   ·rintro i hok11 Q11 n11 e11 r11
    have hok : True := hok11
    refine v_seq ?_; intro Q12 n12 e12 r12
    refine v_seqR [0,1,2,6,30] ?_; intro K13 k13
    refine zMove ⟨?_⟩
    refine zMove ⟨?_⟩
    refine zBinOp ⟨?_⟩
    refine k13 _ ?_
    refine zk ⟨?_⟩
    refine v_cond _ rfl ?_ ?_
    ·intro hc1
     exfalso; simp at hc1; omega
    ·intro hc1
     try simp only [zC, reduceCtorEq] at hc1
     refine v_exit ?_
     refine e12 _ _ ?_
     refine e11 _ _ ?_
     refine x10 _ ?_
     refine n0 _ ?_
     refine zf ⟨?_⟩
     exact ret_lent rfl (by simp) rfl (by simp) (by simp [Blk.kindIs]) (.inl rfl)
set_option maxHeartbeats 1000000 in
theorem sortStable_con (l : List Int) (g : Nat) (caps : List V) (c : Int → Int → Int) (hl : l.length ≤ 19) (hc : Caps caps) (hg : ∀ {a b}, a ∈ l → b ∈ l → Con Try.prog g (V.int .i64 a :: V.int .i64 b :: caps) [] (.int .i64 (c a b)) []) : Con Try.prog 222 [.ref 0, .fn g caps] [.arr (l.map (V.int .i64)) .flat] (.tup []) [.arr ((isort (ltOf c) l).map (V.int .i64)) .flat] := by
 refine v_con [] [(256, [0])] Try.func222 rfl rfl rfl (by simp [Try.ntmps222]) ?_
 intro Q0 n0 r0
 simp only [Try.ntmps222, envFrom, Nat.reduceAdd]
 have T := Tys.mk (And.intro Ty.t3 Ty.t31)
 have F := Fc.mk True.intro
 refine v_region ?_; intro K1 k1
 refine zMove ⟨?_⟩
 refine zMove ⟨?_⟩
 refine zLen ⟨?_⟩
 refine zMove ⟨?_⟩
 refine zclc (stable_con l g caps c hl hc hg) ⟨?_⟩
 refine k1 _ ?_
 refine n0 _ ?_
 refine zf ⟨?_⟩
 exact ret_lent rfl (by simp) rfl (by simp) (by simp [Blk.kindIs]) (.inl rfl)
theorem snocI {l : List Int} {x : Int} : l.map (V.int .i64) ++ [V.int .i64 x] = (l ++ [x]).map (V.int .i64) := by rw [List.map_append]; rfl
theorem lt_key (fl : List (ByteArray × Int × Int × Int × Int)) (ts : List Int) : ltOf (fun a b => cmpI (keyOf fl ts a) (keyOf fl ts b)) = byKey fl ts := by
  funext a b
  rw [ltOf, byKey]
  refine decide_eq_decide.2 ?_
  unfold cmpI
  by_cases h : keyOf fl ts a < keyOf fl ts b
  · simp [h]
  · simp only [h, if_false, iff_false]
    split <;> omega
def allT (fl : List (ByteArray × Int × Int × Int × Int)) (ts : List Int) : List Int := fl.map fun a => Tm.at_ ts a.2.2.1.toNat
theorem ready_is {fl : List (ByteArray × Int × Int × Int × Int)} {ts : List Int} {x : (ByteArray × Int × Int × Int × Int)} {w : Nat} {p : Int} (hw : x.2.2.1 = (w : Int)) (hp : ts[w]? = some p) : readyP fl ts x = (availB x && decide (0 ≤ p)) := by
  rw [readyP, hw, Int.toNat_natCast, Tm.at_get hp]
theorem key_is {fl : List (ByteArray × Int × Int × Int × Int)} {ts : List Int} {k : Nat} {x : (ByteArray × Int × Int × Int × Int)} {w : Nat} {p : Int} (hx : fl[k]? = some x) (hw : x.2.2.1 = (w : Int)) (hp : ts[w]? = some p) : keyOf fl ts (k : Int) = p := by
  rw [keyOf, Int.toNat_natCast, hx]
  simp only [hw, Int.toNat_natCast, Tm.at_get hp]

def idxFromS (x : ByteArray) : Nat → List ByteArray → Int
  | _, [] => -1
  | i, y :: l => if x = y then i else idxFromS x (i + 1) l
theorem idxS_step {x y : ByteArray} {l : List ByteArray} {i : Nat} (h : l[i]? = some y) : idxFromS x i (l.drop i) = if x = y then (i : Int) else idxFromS x (i + 1) (l.drop (i + 1)) := by
  rw [getElem_drop_cons h, idxFromS]
theorem idxS_end {x : ByteArray} {l : List ByteArray} {i k : Nat} (h : l.length ≤ i) : idxFromS x k (l.drop i) = -1 := by
  rw [List.drop_of_length_le h, idxFromS]
def inS (x : ByteArray) (l : List ByteArray) : Bool := l.any fun y => decide (x = y)
theorem idxS_mem (x : ByteArray) : ∀ (l : List ByteArray) (i : Nat), decide (0 ≤ idxFromS x i l) = inS x l
  | [], i => by rw [idxFromS]; rfl
  | y :: l, i => by
    rw [idxFromS, inS, List.any_cons]
    split
    · rename_i h; simp [h]
    · rename_i h; rw [idxS_mem x l (i + 1)]; simp [h, inS]
theorem inS_step {x y : ByteArray} {l : List ByteArray} {i : Nat} (h : l[i]? = some y) : inS x (l.drop i) = (decide (x = y) || inS x (l.drop (i + 1))) := by
  rw [getElem_drop_cons h, inS, List.any_cons]; rfl
theorem inS_end {x : ByteArray} {l : List ByteArray} {i : Nat} (h : l.length ≤ i) : inS x (l.drop i) = false := by
  rw [List.drop_of_length_le h]; rfl

theorem findA_cases (fl : List (ByteArray × Int × Int × Int × Int)) (s : ByteArray) : findA fl s = -1 ∨ ∃ (k : Nat) (x : (ByteArray × Int × Int × Int × Int)), findA fl s = (k : Int) ∧ fl[k]? = some x ∧ x.1 = s := by
  by_cases h : findA fl s = -1
  · exact .inl h
  · obtain ⟨k, h1, h2, _, x, h4, h5⟩ := first_some h
    exact .inr ⟨k, x, by rw [findA, h2, Nat.zero_add], h4, by simpa using h5⟩
def attR (n : Int) (ss : List (Int × Int × Int)) (fl : List (ByteArray × Int × Int × Int × Int)) (node : Int) (names : List ByteArray) : Bool := askD n ss fl node && attB fl (tmL n ss node) names
def attW (n : Int) (ss : List (Int × Int × Int)) (fl : List (ByteArray × Int × Int × Int × Int)) (node : Int) (names : List ByteArray) : Int := if attR n ss fl node names = true then attV fl (tmL n ss node) names else 0
theorem attOne_none {fl : List (ByteArray × Int × Int × Int × Int)} {ts : List Int} {s : ByteArray} (h : findA fl s = -1) : attOne fl ts s = -1 := by rw [attOne, if_pos (by omega)]
theorem attOne_some {fl : List (ByteArray × Int × Int × Int × Int)} {ts : List Int} {s : ByteArray} {k : Nat} {x : (ByteArray × Int × Int × Int × Int)} {w : Nat} {p : Int} (h : findA fl s = (k : Int)) (hx : fl[k]? = some x) (hw : x.2.2.1 = (w : Int)) (hp : ts[w]? = some p) : attOne fl ts s = p := by
  rw [attOne, if_neg (by omega), h, key_is hx hw hp]
theorem attV_step {fl : List (ByteArray × Int × Int × Int × Int)} {ts : List Int} {names : List ByteArray} {i : Nat} {s : ByteArray} (h : names[i]? = some s) : attV fl ts (names.take (i + 1)) = max (attV fl ts (names.take i)) (attOne fl ts s) := by
  rw [attV, List.take_add_one, h, Option.toList, List.foldl_append]; rfl
theorem attB_split {fl : List (ByteArray × Int × Int × Int × Int)} {ts : List Int} {names : List ByteArray} : attB fl ts names = ((chainAt (fun _ : ByteArray => true) strLt names 0 && names.all fun s => decide (0 ≤ attOne fl ts s)) && !decide ((names.length : Int) = 0)) := by
  rw [attB, chain_split]

def need4 (l : List Int) : Bool := decide ((l.length : Int) = 4) && l.all (fun x : Int => inR x 0 6)
theorem need4_facts {l : List Int} (h : need4 l = true) : l.length = 4 ∧ ∀ x ∈ l, 0 ≤ x ∧ x ≤ 6 := by
  simp only [need4, Bool.and_eq_true, decide_eq_true_eq, List.all_eq_true, inR] at h
  exact ⟨by omega, h.2⟩

set_option maxHeartbeats 1000000 in
theorem cloneInt_con (l : List Int) (hl : l.length ≤ 1048576) : Con Try.prog 225 [.sl (l.map (V.int .i64))] [] (.ref 0) [.arr (l.map (V.int .i64)) .flat] := by
 have hns : (l.map (V.int .i64)).all V.noSl = true := by rw [List.all_map, List.all_eq_true]; intro a _; rfl
 refine v_con [.tmp 2] [] Try.func225 rfl rfl rfl (by simp [Try.ntmps225]) ?_
 intro Q0 n0 r0
 simp only [Try.ntmps225, envFrom, Nat.reduceAdd]
 have T := Tys.mk (And.intro Ty.t3 Ty.t31)
 have F := Fc.mk True.intro
 refine v_seqR [0] ?_; intro K1 k1
 have F := Fc.mk hns
 refine zAssign ⟨?_⟩
 refine k1 _ ?_
 refine zk ⟨?_⟩
 refine v_seq ?_; intro Q2 n2 e2 r2
 refine v_seqR [0,4] ?_; intro K3 k3
 refine zMove ⟨?_⟩
 refine zNil ⟨?_⟩
 intro nb4 hnb4
 refine k3 _ ?_
 refine zk ⟨?_⟩
 refine v_condS _ rfl ?_ ?_
 ·intro hc0
  have hnil : l = [] := by cases l with | nil => rfl | cons a b => have := hnb4 (by simp); rw [hc0] at this; cases this
  refine v_seqR [2] ?_; intro K5 k5
  refine zAssign ⟨?_⟩
  refine k5 _ ?_
  refine zk ⟨?_⟩
  refine v_ret ?_
  refine r2 _ ?_
  refine r0 _ ?_
  refine zf ⟨?_⟩
  rw [hnil]; exact ret_refK rfl rfl rfl
 ·intro hc0
  refine v_skip ?_
  refine n2 _ _ (weak_keep [0] _) ?_
  refine zk ⟨?_⟩
  refine v_seqR [2] ?_; intro K6 k6
  refine zBuildSlice ⟨?_⟩
  refine zMove ⟨?_⟩
  refine zAppend ⟨?_⟩
  refine zAssign ⟨?_⟩
  refine k6 _ ?_
  refine zk ⟨?_⟩
  refine v_ret ?_
  refine r0 _ ?_
  refine zf ⟨?_⟩
  exact ret_refK rfl rfl (by simp)
def incOK (x : (Int × Int × Bool × List ByteArray)) : Bool := (decide (1 ≤ x.1) && decide (x.1 ≤ 999)) && (decide (0 ≤ x.2.1) && decide (x.2.1 ≤ 13)) && !decide (12 < (x.2.2.2.length : Int)) && !(x.2.2.1 && decide (0 < (x.2.2.2.length : Int))) && chainAt nameB strLt x.2.2.2 0
def clashB (pre : List (Int × Int × Bool × List ByteArray)) (x : (Int × Int × Bool × List ByteArray)) : Bool := x.2.2.2.any fun s => pre.any fun y => inS s y.2.2.2
def incP (l : List (Int × Int × Bool × List ByteArray)) (i : Nat) : Bool := match l[i]? with
  | none => true
  | some x => incOK x && (decide (i = 0) || match l[i - 1]? with | some y => decide (y.1 < x.1) | none => true) && !clashB (l.take i) x
def incsB (l : List (Int × Int × Bool × List ByteArray)) : Bool := (List.range l.length).all (incP l) && decide ((l.length : Int) ≤ 8)
theorem incs_bad {l : List (Int × Int × Bool × List ByteArray)} {i : Nat} (hi : i < l.length) (h : incP l i = false) : incsB l = false := by
  have : (List.range l.length).all (incP l) = false := by
    rw [List.all_eq_false]
    exact ⟨i, List.mem_range.2 hi, by rw [h]; simp⟩
  rw [incsB, this]; rfl
theorem incs_good {l : List (Int × Int × Bool × List ByteArray)} {i : Nat} (hi : l.length ≤ i) (h : ∀ j, j < i → incP l j = true) : incsB l = decide ((l.length : Int) ≤ 8) := by
  have : (List.range l.length).all (incP l) = true := by
    rw [List.all_eq_true]
    intro j hj
    exact h j (Nat.lt_of_lt_of_le (List.mem_range.1 hj) hi)
  rw [incsB, this]; rfl
theorem upto_step {P : Nat → Bool} {i : Nat} (h : ∀ j, j < i → P j = true) (hi : P i = true) : ∀ j, j < i + 1 → P j = true := by
  intro j hj
  rcases Nat.lt_or_ge j i with q | q
  · exact h j q
  · have : j = i := by omega
    subst this; exact hi
theorem incP_zero {l : List (Int × Int × Bool × List ByteArray)} {x : (Int × Int × Bool × List ByteArray)} (h : l[0]? = some x) : incP l 0 = (incOK x && !clashB (l.take 0) x) := by
  rw [incP, h]; simp
theorem incP_succ {l : List (Int × Int × Bool × List ByteArray)} {i : Nat} {x y : (Int × Int × Bool × List ByteArray)} (h0 : 0 < i) (hy : l[i - 1]? = some y) (h : l[i]? = some x) : incP l i = (incOK x && decide (y.1 < x.1) && !clashB (l.take i) x) := by
  rw [incP, h]
  simp only [hy, decide_eq_false (show ¬ i = 0 by omega), Bool.false_or]
def openF (l : List (Int × Int × Bool × List ByteArray)) (n : Int) : Int := firstP (fun x : (Int × Int × Bool × List ByteArray) => decide (x.1 = n) && !x.2.2.1) 0 l
def commF (l : List (Int × Int × Bool × List ByteArray)) (s : ByteArray) : Int := firstP (fun x : (Int × Int × Bool × List ByteArray) => inS s x.2.2.2) 0 l
theorem comm_any (l : List (Int × Int × Bool × List ByteArray)) (s : ByteArray) : decide (0 ≤ commF l s) = l.any fun y => inS s y.2.2.2 := first_any _ l 0
theorem any_swap {α β : Type} (f : α → β → Bool) (l : List α) (m : List β) : (l.any fun a => m.any fun b => f a b) = (m.any fun b => l.any fun a => f a b) := by
  rw [Bool.eq_iff_iff]
  simp only [List.any_eq_true]
  exact ⟨fun ⟨a, ha, b, hb, h⟩ => ⟨b, hb, a, ha, h⟩, fun ⟨b, hb, a, ha, h⟩ => ⟨a, ha, b, hb, h⟩⟩

def busyA (x : (ByteArray × Int × Int × Int × Int)) : Bool := decide (1 ≤ x.2.2.2.2) && decide (x.2.2.2.2 ≤ 3)
def realNeed (l : List Int) : Bool := need4 l && !l.all (fun x : Int => inR x 0 0)
def wantP (ins : List (Int × Int × Bool × List ByteArray)) (ws : List (Int × List Int)) (i : Nat) : Bool := match ws[i]? with
  | none => true
  | some w => decide (0 ≤ openF ins w.1) && realNeed w.2 && (decide (i = 0) || match ws[i - 1]? with | some y => decide (y.1 < w.1) | none => true)
def inP (n : Int) (fl : List (ByteArray × Int × Int × Int × Int)) (x : (Int × Int × Bool × List ByteArray)) : Bool := hasB n x.2.1 && x.2.2.2.all fun s => decide (0 ≤ findA fl s)
def fleetP (ins : List (Int × Int × Bool × List ByteArray)) (a : (ByteArray × Int × Int × Int × Int)) : Bool := !(busyA a != decide (0 ≤ commF ins a.1))
def ctlH (n : Int) (ss : List (Int × Int × Int)) (fl : List (ByteArray × Int × Int × Int × Int)) (ins : List (Int × Int × Bool × List ByteArray)) (ws : List (Int × List Int)) : Bool := dsB n ss fl && incsB ins && !decide (8 < (ws.length : Int))
def ctlB (n : Int) (ss : List (Int × Int × Int)) (fl : List (ByteArray × Int × Int × Int × Int)) (ins : List (Int × Int × Bool × List ByteArray)) (ws : List (Int × List Int)) : Bool := ctlH n ss fl ins ws && ins.all (inP n fl) && fl.all (fleetP ins) && (List.range ws.length).all (wantP ins ws)
theorem ctl_h {n : Int} {ss : List (Int × Int × Int)} {fl : List (ByteArray × Int × Int × Int × Int)} {ins : List (Int × Int × Bool × List ByteArray)} {ws : List (Int × List Int)} (h : ctlH n ss fl ins ws = false) : ctlB n ss fl ins ws = false := by rw [ctlB, h]; rfl
theorem ctl_i {n : Int} {ss : List (Int × Int × Int)} {fl : List (ByteArray × Int × Int × Int × Int)} {ins : List (Int × Int × Bool × List ByteArray)} {ws : List (Int × List Int)} (h : ins.all (inP n fl) = false) : ctlB n ss fl ins ws = false := by rw [ctlB, h]; simp
theorem ctl_f {n : Int} {ss : List (Int × Int × Int)} {fl : List (ByteArray × Int × Int × Int × Int)} {ins : List (Int × Int × Bool × List ByteArray)} {ws : List (Int × List Int)} (h : fl.all (fleetP ins) = false) : ctlB n ss fl ins ws = false := by rw [ctlB, h]; simp
theorem ctl_w {n : Int} {ss : List (Int × Int × Int)} {fl : List (ByteArray × Int × Int × Int × Int)} {ins : List (Int × Int × Bool × List ByteArray)} {ws : List (Int × List Int)} {i : Nat} (hi : i < ws.length) (h : wantP ins ws i = false) : ctlB n ss fl ins ws = false := by
  have : (List.range ws.length).all (wantP ins ws) = false := by
    rw [List.all_eq_false]
    exact ⟨i, List.mem_range.2 hi, by rw [h]; simp⟩
  rw [ctlB, this]; simp
theorem ctl_yes {n : Int} {ss : List (Int × Int × Int)} {fl : List (ByteArray × Int × Int × Int × Int)} {ins : List (Int × Int × Bool × List ByteArray)} {ws : List (Int × List Int)} {i : Nat} (h1 : ctlH n ss fl ins ws = true) (h2 : ins.all (inP n fl) = true) (h3 : fl.all (fleetP ins) = true) (hi : ws.length ≤ i) (h4 : ∀ j, j < i → wantP ins ws j = true) : ctlB n ss fl ins ws = true := by
  have : (List.range ws.length).all (wantP ins ws) = true := by
    rw [List.all_eq_true]
    intro j hj
    exact h4 j (Nat.lt_of_lt_of_le (List.mem_range.1 hj) hi)
  rw [ctlB, h1, h2, h3, this]; rfl
theorem wantP_zero {ins : List (Int × Int × Bool × List ByteArray)} {ws : List (Int × List Int)} {w : (Int × List Int)} (h : ws[0]? = some w) : wantP ins ws 0 = (decide (0 ≤ openF ins w.1) && realNeed w.2) := by
  rw [wantP, h]; simp
theorem wantP_succ {ins : List (Int × Int × Bool × List ByteArray)} {ws : List (Int × List Int)} {w y : (Int × List Int)} {i : Nat} (h0 : 0 < i) (hy : ws[i - 1]? = some y) (h : ws[i]? = some w) : wantP ins ws i = (decide (0 ≤ openF ins w.1) && realNeed w.2 && decide (y.1 < w.1)) := by
  rw [wantP, h]
  simp only [hy, decide_eq_false (show ¬ i = 0 by omega), Bool.false_or]
theorem ctlh_facts {n : Int} {ss : List (Int × Int × Int)} {fl : List (ByteArray × Int × Int × Int × Int)} {ins : List (Int × Int × Bool × List ByteArray)} {ws : List (Int × List Int)} (h : ctlH n ss fl ins ws = true) : DsFacts n ss fl ∧ (∀ x ∈ ins, 0 ≤ x.2.1) := by
  simp only [ctlH, Bool.and_eq_true] at h
  refine ⟨ds_facts h.1.1, fun x hx => ?_⟩
  obtain ⟨i, hi, rfl⟩ := List.getElem_of_mem hx
  have h2 := h.1.2
  simp only [incsB, Bool.and_eq_true, List.all_eq_true, List.mem_range] at h2
  have h3 := h2.1 i hi
  rw [incP, List.getElem?_eq_getElem hi] at h3
  simp only [Bool.and_eq_true, incOK, decide_eq_true_eq] at h3
  omega
theorem max_zero {x : Int} {l : List Int} (h : need4 (x :: l) = true) : decide (mostL l x = 0) = (x :: l).all (fun x : Int => inR x 0 0) := by
  obtain ⟨_, hb⟩ := need4_facts h
  have key : ∀ (l : List Int) (a : Int), 0 ≤ a → (∀ y ∈ l, 0 ≤ y) → decide (mostL l a = 0) = (decide (a = 0) && l.all (fun x : Int => inR x 0 0)) := by
    intro l
    induction l with
    | nil => intro a _ _; simp [mostL]
    | cons y l ih =>
      intro a ha hl
      have hy := hl y (List.mem_cons_self ..)
      have hs : mostL (y :: l) a = mostL l (if y > a then y else a) := rfl
      rw [hs, ih _ (by split <;> omega) fun z hz => hl z (List.mem_cons_of_mem _ hz), List.all_cons]
      have e : decide ((if y > a then y else a) = 0) = (decide (a = 0) && inR y 0 0) := by
        rw [inR]
        by_cases h1 : y > a
        · rw [if_pos h1, decide_eq_false (show ¬ y = 0 by omega), decide_eq_false (show ¬ y ≤ 0 by omega)]; simp
        · rw [if_neg h1]
          by_cases h2 : a = 0
          · rw [decide_eq_true h2, decide_eq_true (show 0 ≤ y by omega), decide_eq_true (show y ≤ 0 by omega)]; rfl
          · rw [decide_eq_false h2]; rfl
      rw [e, Bool.and_assoc]
  rw [key l x (hb x (List.mem_cons_self ..)).1 fun y hy => (hb y (List.mem_cons_of_mem _ hy)).1, List.all_cons]
  congr 1
  have := (hb x (List.mem_cons_self ..)).1
  rw [inR, decide_eq_true this, Bool.true_and]
  exact decide_eq_decide.2 (by omega)

def orNil {α : Type} (b : Bool) (l : List α) : List α := bif b then l else []
theorem orNil_t {α : Type} (l : List α) : orNil true l = l := rfl
theorem orNil_f {α : Type} (l : List α) : orNil false l = [] := rfl
theorem orNil_len {α : Type} {b : Bool} {l : List α} {n : Nat} (h : l.length ≤ n) : (orNil b l).length ≤ n := by
  cases b
  · exact Nat.zero_le _
  · exact h
theorem orNil_all {α : Type} {b : Bool} {l : List α} {P : α → Prop} (h : ∀ x ∈ l, P x) : ∀ x ∈ orNil b l, P x := by
  cases b
  · intro x hx; cases hx
  · exact h
theorem firstP_at {α : Type} {p : α → Bool} {l : List α} (h : 0 ≤ firstP p 0 l) : ∃ (k : Nat) (x : α), l[k]? = some x ∧ p x = true ∧ firstP p 0 l = (k : Int) := by
  obtain ⟨k, _, h2, _, x, h4, h5⟩ := first_some (p := p) (l := l) (i := 0) (by omega)
  exact ⟨k, x, h4, h5, by rw [h2, Nat.zero_add]⟩
theorem findA_at {fl : List (ByteArray × Int × Int × Int × Int)} {s : ByteArray} (h : 0 ≤ findA fl s) : ∃ (k : Nat) (x : (ByteArray × Int × Int × Int × Int)), fl[k]? = some x ∧ x.1 = s ∧ findA fl s = (k : Int) := by
  rcases findA_cases fl s with q | ⟨k, x, h1, h2, h3⟩
  · omega
  · exact ⟨k, x, h2, h3, h1⟩
theorem openF_at {ins : List (Int × Int × Bool × List ByteArray)} {n : Int} (h : 0 ≤ openF ins n) : ∃ (k : Nat) (x : (Int × Int × Bool × List ByteArray)), ins[k]? = some x ∧ (x.1 = n ∧ x.2.2.1 = false) ∧ openF ins n = (k : Int) := by
  obtain ⟨k, x, h1, h2, h3⟩ := firstP_at h
  simp only [Bool.and_eq_true, decide_eq_true_eq, Bool.not_eq_true'] at h2
  exact ⟨k, x, h1, h2, h3⟩
theorem commF_at {ins : List (Int × Int × Bool × List ByteArray)} {s : ByteArray} (h : 0 ≤ commF ins s) : ∃ (k : Nat) (x : (Int × Int × Bool × List ByteArray)), ins[k]? = some x ∧ inS s x.2.2.2 = true ∧ commF ins s = (k : Int) := firstP_at h
structure CtlFacts (n : Int) (ss : List (Int × Int × Int)) (fl : List (ByteArray × Int × Int × Int × Int)) (ins : List (Int × Int × Bool × List ByteArray)) (ws : List (Int × List Int)) : Prop where
  ds : DsFacts n ss fl
  town : townB n ss = true
  ins8 : incsB ins = true
  node : ∀ x ∈ ins, 0 ≤ x.2.1 ∧ x.2.1 < n
  names : ∀ x ∈ ins, ∀ s ∈ x.2.2.2, 0 ≤ findA fl s
  busy : ∀ a ∈ fl, busyA a = decide (0 ≤ commF ins a.1)
  ws8 : ws.length ≤ 8
  want : ∀ w ∈ ws, 0 ≤ openF ins w.1 ∧ realNeed w.2 = true
theorem ctl_facts {n : Int} {ss : List (Int × Int × Int)} {fl : List (ByteArray × Int × Int × Int × Int)} {ins : List (Int × Int × Bool × List ByteArray)} {ws : List (Int × List Int)} (h : ctlB n ss fl ins ws = true) : CtlFacts n ss fl ins ws := by
  simp only [ctlB, ctlH, Bool.and_eq_true, List.all_eq_true, decide_eq_true_eq, Bool.not_eq_true', decide_eq_false_iff_not, List.mem_range] at h
  obtain ⟨⟨⟨⟨⟨h1, h2⟩, h3⟩, h4⟩, h5⟩, h6⟩ := h
  have hd := ds_facts h1
  refine ⟨hd, ?_, h2, fun x hx => ?_, fun x hx s hs => ?_, fun a ha => ?_, by omega, fun w hw => ?_⟩
  · simp only [dsB, Bool.and_eq_true] at h1; exact h1.1.1
  · have := h4 x hx
    rw [inP, Bool.and_eq_true, has_facts hd.hn, Bool.and_eq_true, decide_eq_true_eq, decide_eq_true_eq] at this
    exact this.1
  · have := h4 x hx
    rw [inP, Bool.and_eq_true, List.all_eq_true] at this
    simpa using this.2 s hs
  · have := h5 a ha
    rw [fleetP] at this
    simpa using this
  · obtain ⟨i, hi, rfl⟩ := List.getElem_of_mem hw
    have := h6 i hi
    rw [wantP, List.getElem?_eq_getElem hi] at this
    simp only [Bool.and_eq_true, decide_eq_true_eq] at this
    exact ⟨this.1.1, this.1.2⟩
theorem ctl_town {n : Int} {ss : List (Int × Int × Int)} {fl : List (ByteArray × Int × Int × Int × Int)} {ins : List (Int × Int × Bool × List ByteArray)} {ws : List (Int × List Int)} (h : ctlB n ss fl ins ws = true) : townB n ss = true := (ctl_facts h).town
theorem want_need {n : Int} {ss : List (Int × Int × Int)} {fl : List (ByteArray × Int × Int × Int × Int)} {ins : List (Int × Int × Bool × List ByteArray)} {ws : List (Int × List Int)} (h : CtlFacts n ss fl ins ws) : ∀ w ∈ ws, w.2.length = 4 ∧ ∀ x ∈ w.2, 0 ≤ x ∧ x ≤ 6 := by
  intro w hw
  have := (h.want w hw).2
  rw [realNeed, Bool.and_eq_true] at this
  exact need4_facts this.1
-- new controls
theorem new_ctl (n : Int) (ss : List (Int × Int × Int)) (fl : List (ByteArray × Int × Int × Int × Int)) : ctlB n ss fl [] [] = (dsB n ss fl && !fl.any busyA) := by
  have h1 : ctlH n ss fl [] [] = dsB n ss fl := by simp [ctlH, incsB]
  have h2 : (fl.all (fleetP [])) = !fl.any busyA := by
    rw [List.not_any_eq_all_not]
    congr 1
    funext a
    simp [fleetP, commF, firstP]
  rw [ctlB, h1, h2]
  simp
-- the free ones
def freeTo (fl : List (ByteArray × Int × Int × Int × Int)) (i : Nat) : List ByteArray := ((fl.take i).filter availB).map fun a => a.1
theorem free_yes {fl : List (ByteArray × Int × Int × Int × Int)} {i : Nat} {x : (ByteArray × Int × Int × Int × Int)} (h : fl[i]? = some x) (hp : availB x = true) : freeTo fl (i + 1) = freeTo fl i ++ [x.1] := by
  rw [freeTo, List.take_add_one, h, Option.toList, List.filter_append]; simp [hp, freeTo]
theorem free_no {fl : List (ByteArray × Int × Int × Int × Int)} {i : Nat} {x : (ByteArray × Int × Int × Int × Int)} (h : fl[i]? = some x) (hp : availB x = false) : freeTo fl (i + 1) = freeTo fl i := by
  rw [freeTo, List.take_add_one, h, Option.toList, List.filter_append]; simp [hp, freeTo]
theorem free_len (fl : List (ByteArray × Int × Int × Int × Int)) (i : Nat) : (freeTo fl i).length ≤ i := by
  rw [freeTo, List.length_map]
  exact Nat.le_trans (List.length_filter_le ..) (by rw [List.length_take]; omega)
theorem free_len2 (fl : List (ByteArray × Int × Int × Int × Int)) (i : Nat) : (freeTo fl i).length ≤ fl.length := by
  rw [freeTo, List.length_map]
  exact Nat.le_trans (List.length_filter_le ..) (by rw [List.length_take]; omega)
theorem freeTo_zero (fl : List (ByteArray × Int × Int × Int × Int)) : freeTo fl 0 = [] := rfl
-- states
def stA (fl : List (ByteArray × Int × Int × Int × Int)) (s : ByteArray) : Int := match fl[(findA fl s).toNat]? with | some a => a.2.2.2.2 | none => 0
theorem stA_at {fl : List (ByteArray × Int × Int × Int × Int)} {s : ByteArray} {k : Nat} {x : (ByteArray × Int × Int × Int × Int)} (h : findA fl s = (k : Int)) (hx : fl[k]? = some x) : stA fl s = x.2.2.2.2 := by
  rw [stA, h, Int.toNat_natCast, hx]
def namesAt (ins : List (Int × Int × Bool × List ByteArray)) (n : Int) : List ByteArray := match ins[(openF ins n).toNat]? with | some x => x.2.2.2 | none => []
theorem namesAt_at {ins : List (Int × Int × Bool × List ByteArray)} {n : Int} {k : Nat} {x : (Int × Int × Bool × List ByteArray)} (h : openF ins n = (k : Int)) (hx : ins[k]? = some x) : namesAt ins n = x.2.2.2 := by
  rw [namesAt, h, Int.toNat_natCast, hx]
def atB (n : Int) (ss : List (Int × Int × Int)) (fl : List (ByteArray × Int × Int × Int × Int)) (ins : List (Int × Int × Bool × List ByteArray)) (ws : List (Int × List Int)) (m : Int) : Bool := ctlB n ss fl ins ws && decide (0 ≤ openF ins m)
def statesL (fl : List (ByteArray × Int × Int × Int × Int)) (ins : List (Int × Int × Bool × List ByteArray)) (m : Int) : List Int := (namesAt ins m).map (stA fl)
theorem take_map_step {α β : Type} {f : α → β} {l : List α} {i : Nat} {x : α} (h : l[i]? = some x) : (l.take (i + 1)).map f = (l.take i).map f ++ [f x] := by
  rw [List.take_add_one, h, Option.toList, List.map_append]; rfl
-- sums of wants
def addL : List Int → List Int → List Int
  | a :: xs, b :: ys => (a + b) :: addL xs ys
  | xs, [] => xs
  | [], _ => []
theorem addL_nil : ∀ l : List Int, addL l [] = l
  | [] => rfl
  | _ :: _ => rfl
theorem addL_len : ∀ a b : List Int, (addL a b).length = a.length
  | [], [] => rfl
  | [], _ :: _ => rfl
  | _ :: _, [] => rfl
  | a :: xs, b :: ys => by rw [addL, List.length_cons, List.length_cons, addL_len xs ys]
theorem addL_step : ∀ {acc l : List Int} {k : Nat} {a b : Int}, acc[k]? = some a → l[k]? = some b → (addL acc (l.take k))[k]? = some a ∧ (addL acc (l.take k)).set k (a + b) = addL acc (l.take (k + 1))
  | [], _, _, _, _, h, _ => by simp at h
  | _ :: _, [], _, _, _, _, h => by simp at h
  | x :: acc, y :: l, 0, a, b, h, k => by
    simp at h k
    subst h k
    refine ⟨by simp [addL], ?_⟩
    simp [addL, addL_nil]
  | x :: acc, y :: l, k + 1, a, b, h, q => by
    obtain ⟨h1, h2⟩ := addL_step (acc := acc) (l := l) (k := k) (a := a) (b := b) (by simpa using h) (by simpa using q)
    refine ⟨by simpa [addL] using h1, ?_⟩
    rw [List.take_succ_cons, addL, List.set_cons_succ, h2, List.take_succ_cons, addL]
theorem addL_bound : ∀ {acc l : List Int} {A B : Int}, 0 ≤ B → (∀ x ∈ acc, 0 ≤ x ∧ x ≤ A) → (∀ x ∈ l, 0 ≤ x ∧ x ≤ B) → ∀ x ∈ addL acc l, 0 ≤ x ∧ x ≤ A + B
  | [], [], _, _, _, _, _, x, hx => by cases hx
  | [], _ :: _, _, _, _, _, _, x, hx => by cases hx
  | a :: acc, [], A, B, hB, h1, _, x, hx => by
    have := h1 x hx; omega
  | a :: acc, b :: l, A, B, hB, h1, h2, x, hx => by
    rcases List.mem_cons.1 hx with e | e
    · have q1 := h1 a (List.mem_cons_self ..)
      have q2 := h2 b (List.mem_cons_self ..)
      subst e; omega
    · exact addL_bound hB (fun y hy => h1 y (List.mem_cons_of_mem _ hy)) (fun y hy => h2 y (List.mem_cons_of_mem _ hy)) x e
def sumTo (ws : List (Int × List Int)) (i : Nat) : List Int := (ws.take i).foldl (fun acc w => addL acc w.2) [0, 0, 0, 0]
theorem sumTo_step {ws : List (Int × List Int)} {i : Nat} {w : (Int × List Int)} (h : ws[i]? = some w) : sumTo ws (i + 1) = addL (sumTo ws i) w.2 := by
  rw [sumTo, List.take_add_one, h, Option.toList, List.foldl_append]; rfl
theorem sumTo_len (ws : List (Int × List Int)) : ∀ i, (sumTo ws i).length = 4
  | 0 => rfl
  | i + 1 => by
    cases h : ws[i]? with
    | none => rw [sumTo, List.take_add_one, h]; simp only [Option.toList, List.append_nil]; exact sumTo_len ws i
    | some w => rw [sumTo_step h, addL_len, sumTo_len ws i]
theorem sumTo_bound {ws : List (Int × List Int)} (hw : ∀ w ∈ ws, w.2.length = 4 ∧ ∀ x ∈ w.2, 0 ≤ x ∧ x ≤ 6) : ∀ i, ∀ x ∈ sumTo ws i, 0 ≤ x ∧ x ≤ 6 * (i : Int)
  | 0, x, hx => by
    have : sumTo ws 0 = [0, 0, 0, 0] := rfl
    rw [this] at hx
    simp at hx
    omega
  | i + 1, x, hx => by
    cases h : ws[i]? with
    | none =>
      have e : sumTo ws (i + 1) = sumTo ws i := by rw [sumTo, List.take_add_one, h]; simp only [Option.toList, List.append_nil]; rfl
      rw [e] at hx
      have := sumTo_bound hw i x hx
      omega
    | some w =>
      rw [sumTo_step h] at hx
      have := addL_bound (by omega) (sumTo_bound hw i) (hw w (List.mem_of_getElem? h)).2 x hx
      omega
-- an appliance arrives
def arrB (fl : List (ByteArray × Int × Int × Int × Int)) (s : ByteArray) : Bool := decide (0 ≤ findA fl s) && decide (stA fl s = 2)
def arrF (fl : List (ByteArray × Int × Int × Int × Int)) (ins : List (Int × Int × Bool × List ByteArray)) (s : ByteArray) : List (ByteArray × Int × Int × Int × Int) := match fl[(findA fl s).toNat]?, ins[(commF ins s).toNat]? with
  | some a, some x => fl.set (findA fl s).toNat (a.1, a.2.1, x.2.1, a.2.2.2.1, 3)
  | _, _ => fl
theorem arrF_at {fl : List (ByteArray × Int × Int × Int × Int)} {ins : List (Int × Int × Bool × List ByteArray)} {s : ByteArray} {k m : Nat} {a : (ByteArray × Int × Int × Int × Int)} {x : (Int × Int × Bool × List ByteArray)} (h1 : findA fl s = (k : Int)) (h2 : fl[k]? = some a) (h3 : commF ins s = (m : Int)) (h4 : ins[m]? = some x) : arrF fl ins s = fl.set k (a.1, a.2.1, x.2.1, a.2.2.2.1, 3) := by
  rw [arrF, h1, h3, Int.toNat_natCast, Int.toNat_natCast, h2, h4]
theorem arrF_len (fl : List (ByteArray × Int × Int × Int × Int)) (ins : List (Int × Int × Bool × List ByteArray)) (s : ByteArray) : (arrF fl ins s).length = fl.length := by
  rw [arrF]
  split
  · rw [List.length_set]
  · rfl
theorem arr_comm {n : Int} {ss : List (Int × Int × Int)} {fl : List (ByteArray × Int × Int × Int × Int)} {ins : List (Int × Int × Bool × List ByteArray)} {ws : List (Int × List Int)} (h : CtlFacts n ss fl ins ws) {s : ByteArray} {k : Nat} {a : (ByteArray × Int × Int × Int × Int)} (h1 : fl[k]? = some a) (h2 : a.1 = s) (h3 : a.2.2.2.2 = 2) : 0 ≤ commF ins s := by
  have := h.busy a (List.mem_of_getElem? h1)
  rw [busyA, h3, h2] at this
  simpa using this.symm

set_option maxHeartbeats 1000000 in
theorem ins0_con  : Con Try.prog 245 [.ref 0, .int .i64 0, .int .i64 0] [.arr [] .flat] (.tup []) [.arr [] .flat] := by
 refine v_con [] [] Try.func245 rfl rfl rfl (by simp [Try.ntmps245]) ?_
 intro Q0 n0 r0
 simp only [Try.ntmps245, envFrom, Nat.reduceAdd]
 have T := Tys.mk (And.intro Ty.t3 (And.intro Ty.t4 Ty.t31))
 have F := Fc.mk True.intro
 refine v_seqR [0,1,2,6] ?_; intro K1 k1
 refine zMove ⟨?_⟩
 refine zBinOpW ⟨?_⟩
 refine zAssign ⟨?_⟩
 refine k1 _ ?_
 refine zk ⟨?_⟩
 refine v_block ?_; intro Q2 n2 x2 e2 r2
 refine v_loop (fun i => ⟨[(0, .ref 0), (1, .int .i64 0), (2, .int .i64 0), (6, .int .i64 1)], [.arr [] .flat], false, 49, 0⟩) (fun i => True) (fun i => 0) () ?_ ?_ ?_
 ·refine weak_of [0, 1, 2, 6] ?_
  simp only [keep_mk, keepE_nil, keepE_cons, look_cons, look_nil, Nat.reduceEqDiff, reduceIte]
  all_goals rfl
 ·trivial
 ·rintro i hok3 Q3 n3 e3 r3
  have hok : True := hok3
  refine v_seq ?_; intro Q4 n4 e4 r4
  refine v_seqR [0,1,2,6,12] ?_; intro K5 k5
  refine zMove ⟨?_⟩
  refine zMove ⟨?_⟩
  refine zBinOp ⟨?_⟩
  refine k5 _ ?_
  refine zk ⟨?_⟩
  refine v_cond _ rfl ?_ ?_
  ·intro hc0
   exfalso; simp at hc0
  ·intro hc0
   try simp only [zC, reduceCtorEq] at hc0
   refine v_exit ?_
   refine e4 _ _ ?_
   refine e3 _ _ ?_
   refine x2 _ ?_
   refine n0 _ ?_
   refine zf ⟨?_⟩
   exact ret_lent rfl (by simp) rfl (by simp) (by simp [Blk.kindIs]) (.inl rfl)
set_option maxHeartbeats 1000000 in
theorem pdq0_con (lim : Int) : Con Try.prog 212 [.ref 0, .int .i64 0, .int .i64 0, .int .i64 lim] [.arr [] .flat] (.tup []) [.arr [] .flat] := by
 refine v_con [] [(245, [0])] Try.func212 rfl rfl rfl (by simp [Try.ntmps212]) ?_
 intro Q0 n0 r0
 simp only [Try.ntmps212, envFrom, Nat.reduceAdd]
 have T := Tys.mk (And.intro Ty.t3 (And.intro Ty.t4 (And.intro Ty.t31 Ty.t208)))
 have F := Fc.mk True.intro
 refine v_seqR [0,1,2,3,8] ?_; intro K1 k1
 refine zAssign ⟨?_⟩
 refine k1 _ ?_
 refine zk ⟨?_⟩
 refine v_seqR [0,1,2,3,8,9] ?_; intro K2 k2
 refine zAssign ⟨?_⟩
 refine k2 _ ?_
 refine zk ⟨?_⟩
 refine v_block ?_; intro Q3 n3 x3 e3 r3
 refine v_loop (fun i => ⟨[(0, .ref 0), (1, .int .i64 0), (2, .int .i64 0), (3, .int .i64 lim), (8, .bool true), (9, .bool true)], [.arr [] .flat], false, 134, 0⟩) (fun i => True) (fun i => 0) () ?_ ?_ ?_
 ·refine weak_of [0, 1, 2, 3, 8, 9] ?_
  simp only [keep_mk, keepE_nil, keepE_cons, look_cons, look_nil, Nat.reduceEqDiff, reduceIte]
  all_goals rfl
 ·trivial
 ·rintro i hok4 Q4 n4 e4 r4
  have hok : True := hok4
  refine v_block ?_; intro Q5 n5 x5 e5 r5
  refine v_seqR [0,1,2,3,8,9,10] ?_; intro K6 k6
  refine zMove ⟨?_⟩
  refine zMove ⟨?_⟩
  refine zBinOpW ⟨?_⟩
  refine zAssign ⟨?_⟩
  refine k6 _ ?_
  refine zk ⟨?_⟩
  refine v_seq ?_; intro Q7 n7 e7 r7
  refine v_seqR [0,1,2,3,8,9,10,23] ?_; intro K8 k8
  refine zMove ⟨?_⟩
  refine zBinOp ⟨?_⟩
  refine k8 _ ?_
  refine zk ⟨?_⟩
  refine v_cond _ rfl ?_ ?_
  ·intro hc0
   try simp only [zC, reduceCtorEq] at hc0
   refine v_seqR [] ?_; intro K10 k10
   refine zMove ⟨?_⟩
   refine zMove ⟨?_⟩
   refine zMove ⟨?_⟩
   refine zcl (ins0_con) ⟨?_⟩
   refine k10 _ ?_
   refine zk ⟨?_⟩
   refine v_ret ?_
   refine r7 _ ?_
   refine r5 _ ?_
   refine r4 _ ?_
   refine r3 _ ?_
   refine r0 _ ?_
   refine zf ⟨?_⟩
   exact ret_lent rfl (by simp) rfl (by simp) (by simp [Blk.kindIs]) (.inl rfl)
  ·intro hc0
   exfalso; simp at hc0
set_option maxRecDepth 100000 in
set_option maxHeartbeats 1000000 in
theorem len64_0_con  : Con Try.prog 255 [.int .u64 0] [] (.int .i64 0) [] := by
 refine v_con [.tmp 2] [] Try.func255 rfl rfl rfl (by simp [Try.ntmps255]) ?_
 intro Q0 n0 r0
 simp only [Try.ntmps255, envFrom, Nat.reduceAdd]
 have T := Tys.mk (And.intro Ty.t3 (And.intro Ty.t5 (And.intro Ty.t9 (And.intro Ty.t118 Ty.t188))))
 have F := Fc.mk True.intro
 refine v_seqR [0,2] ?_; intro K1 k1
 refine zAssign ⟨?_⟩
 refine k1 _ ?_
 refine zk ⟨?_⟩
 refine v_seq ?_; intro Q2 n2 e2 r2
 refine v_seqR [0,2,4] ?_; intro K3 k3
 refine zMove ⟨?_⟩
 refine zBinOp ⟨?_⟩
 refine k3 _ ?_
 refine zk ⟨?_⟩
 refine v_cond _ rfl ?_ ?_
 ·intro hc0
  exfalso; simp at hc0
 ·intro hc0
  try simp only [zC, reduceCtorEq] at hc0
  refine v_skip ?_
  refine n2 _ _ (weak_keep [0, 2] _) ?_
  refine zk ⟨?_⟩
  refine v_seq ?_; intro Q5 n5 e5 r5
  refine v_seqR [0,2,8] ?_; intro K6 k6
  refine zMove ⟨?_⟩
  refine zBinOp ⟨?_⟩
  refine k6 _ ?_
  refine zk ⟨?_⟩
  refine v_cond _ rfl ?_ ?_
  ·intro hc1
   exfalso; simp at hc1
  ·intro hc1
   try simp only [zC, reduceCtorEq] at hc1
   refine v_skip ?_
   refine n5 _ _ (weak_keep [0, 2] _) ?_
   refine zk ⟨?_⟩
   refine v_seq ?_; intro Q8 n8 e8 r8
   refine v_seqR [0,2,14] ?_; intro K9 k9
   refine zMove ⟨?_⟩
   refine zBinOp ⟨?_⟩
   refine k9 _ ?_
   refine zk ⟨?_⟩
   refine v_cond _ rfl ?_ ?_
   ·intro hc2
    exfalso; simp at hc2
   ·intro hc2
    try simp only [zC, reduceCtorEq] at hc2
    refine v_skip ?_
    refine n8 _ _ (weak_keep [0, 2] _) ?_
    refine zk ⟨?_⟩
    refine v_seqR [2] ?_; intro K11 k11
    refine zMove ⟨?_⟩
    refine zMove ⟨?_⟩
    refine zConvert ⟨?_⟩
    refine v_op ?_; intro K k
    simp only [zE, zL, zN, aStepM, optable, set_some, Nat.reduceEqDiff, reduceIte, Nat.reduceLT, implies_true, forall_const, reduceCtorEq, V.ofValue, V.ofScalar, V.un, V.gd, aExec, aop, aIndex, Int.toNat_natCast, Int.reduceToNat, Nat.reduceAdd, Nat.reduceLeDiff, Nat.reduceMul, Try.underlying9]
    repeat (refine And.intro (by first | decide | exact ⟨by decide, by decide⟩ | (intro _; exact ⟨by decide, by decide⟩) | rfl | exact ⟨_, rfl⟩) ?_)
    refine k _ ?_; clear k K
    refine zConvert ⟨?_⟩
    refine zBinOpW ⟨?_⟩
    refine zAssign ⟨?_⟩
    refine k11 _ ?_
    refine zk ⟨?_⟩
    refine v_ret ?_
    refine r0 _ ?_
    refine zf ⟨?_⟩
    exact ret_pure rfl (by rfl) (.inl rfl)
set_option maxHeartbeats 1000000 in
theorem len_0_con  : Con Try.prog 213 [.int .u64 0] [] (.int .i64 0) [] := by
 refine v_con [.tmp 2] [] Try.func213 rfl rfl rfl (by simp [Try.ntmps213]) ?_
 intro Q0 n0 r0
 simp only [Try.ntmps213, envFrom, Nat.reduceAdd]
 have T := Tys.mk (And.intro Ty.t3 (And.intro Ty.t118 Ty.t188))
 have F := Fc.mk True.intro
 refine v_seqR [0] ?_; intro K1 k1
 refine zAssign ⟨?_⟩
 refine k1 _ ?_
 refine zk ⟨?_⟩
 refine v_seq ?_; intro Q2 n2 e2 r2
 refine v_cond _ rfl ?_ ?_
 ·intro hc0
  exfalso; simp at hc0
 ·intro hc0
  try simp only [zC, reduceCtorEq] at hc0
  refine v_skip ?_
  refine n2 _ _ (weak_keep [0] _) ?_
  refine zk ⟨?_⟩
  refine v_seqR [2] ?_; intro K4 k4
  refine zMove ⟨?_⟩
  refine zc (len64_0_con) ⟨?_⟩
  refine zAssign ⟨?_⟩
  refine k4 _ ?_
  refine zk ⟨?_⟩
  refine v_ret ?_
  refine r0 _ ?_
  refine zf ⟨?_⟩
  exact ret_pure rfl rfl (.inl rfl)
set_option maxHeartbeats 1000000 in
theorem sort0_con  : Con Try.prog 145 [.ref 0] [.arr [] .flat] (.tup []) [.arr [] .flat] := by
 refine v_con [] [(212, [0])] Try.func145 rfl rfl rfl (by simp [Try.ntmps145]) ?_
 intro Q0 n0 r0
 simp only [Try.ntmps145, envFrom, Nat.reduceAdd]
 have T := Tys.mk (And.intro Ty.t3 (And.intro Ty.t31 Ty.t188))
 have F := Fc.mk True.intro
 refine v_seqR [0,2] ?_; intro K1 k1
 refine zMove ⟨?_⟩
 refine zLen ⟨?_⟩
 refine zAssign ⟨?_⟩
 refine k1 _ ?_
 refine zk ⟨?_⟩
 refine v_region ?_; intro K2 k2
 refine zMove ⟨?_⟩
 refine zMove ⟨?_⟩
 refine zMove ⟨?_⟩
 refine zConvert ⟨?_⟩
 refine zc (len_0_con) ⟨?_⟩
 refine zcl (pdq0_con 0) ⟨?_⟩
 refine k2 _ ?_
 refine n0 _ ?_
 refine zf ⟨?_⟩
 exact ret_lent rfl (by simp) rfl (by simp) (by simp [Blk.kindIs]) (.inl rfl)
theorem sortAny_con (zs : List Int) (hl : zs.length < 4611686018427387904) : Con Try.prog 145 [.ref 0] [.arr (zs.map (V.int .i64)) .flat] (.tup []) [.arr ((sortL zs).map (V.int .i64)) .flat] := by
  by_cases hne : zs = []
  · subst hne
    have e : sortL [] = [] := List.length_eq_zero_iff.1 (sortL_len [])
    rw [e]; exact sort0_con
  · exact con_sort zs ⟨_, Try.func145, rfl, rfl⟩ hne (fun blk off cap w h1 h2 => Try.slices_Sort_int blk off cap zs w h1 h2 hl)

/-- By key, then by number. -/
def byKN (key : Int → Int) (a b : Int) : Prop := key a < key b ∨ (key a = key b ∧ a < b)
theorem byKN_trans {key : Int → Int} {a b c : Int} (h : byKN key a b) (k : byKN key b c) : byKN key a c := by unfold byKN at *; omega
/-- All behind the place are later. -/
theorem insPos_behind {key : Int → Int} {x : Int} {p : List Int} : ∀ k, k ≤ p.length → ∀ j y, insPos (fun a b => decide (key a < key b)) x p k ≤ j → j < k → p[j]? = some y → key x < key y
  | 0, _, j, y, _, h, _ => by omega
  | k + 1, hk, j, y, h1, h2, hy => by
    obtain ⟨z, hz⟩ : ∃ z, p[k]? = some z := ⟨p[k], List.getElem?_eq_getElem (by omega)⟩
    by_cases q : key x < key z
    · have e := insPos_yes (lt := fun a b => decide (key a < key b)) (x := x) hz (by simpa using q)
      rw [e] at h1
      rcases Nat.lt_or_ge j k with r | r
      · exact insPos_behind k (by omega) j y h1 r hy
      · have : j = k := by omega
        subst this
        rw [hz] at hy
        cases hy; exact q
    · have e := insPos_no (lt := fun a b => decide (key a < key b)) (x := x) hz (by simpa using q)
      omega
theorem insPos_front {key : Int → Int} {x : Int} {p : List Int} : ∀ k, k ≤ p.length → ∀ j y, insPos (fun a b => decide (key a < key b)) x p k = j + 1 → p[j]? = some y → key y ≤ key x
  | 0, _, j, y, h, _ => by simp [insPos] at h
  | k + 1, hk, j, y, h, hy => by
    obtain ⟨z, hz⟩ : ∃ z, p[k]? = some z := ⟨p[k], List.getElem?_eq_getElem (by omega)⟩
    by_cases q : key x < key z
    · have e := insPos_yes (lt := fun a b => decide (key a < key b)) (x := x) hz (by simpa using q)
      rw [e] at h
      exact insPos_front k (by omega) j y h hy
    · have e := insPos_no (lt := fun a b => decide (key a < key b)) (x := x) hz (by simpa using q)
      have : j = k := by omega
      subst this
      rw [hz] at hy
      cases hy; omega
theorem insR_sorted {key : Int → Int} {p : List Int} {x : Int} (hp : p.Pairwise (byKN key)) (hx : ∀ y ∈ p, y < x) : (insR (fun a b => decide (key a < key b)) p x).Pairwise (byKN key) := by
  have hle := insPos_le (fun a b => decide (key a < key b)) x p p.length
  rw [insR, List.pairwise_append, List.pairwise_cons]
  have front : ∀ y ∈ p.take (insPos (fun a b => decide (key a < key b)) x p p.length), byKN key y x := by
    intro y hy
    cases hq : insPos (fun a b => decide (key a < key b)) x p p.length with
    | zero => rw [hq] at hy; simp at hy
    | succ q =>
      rw [hq] at hy
      obtain ⟨z, hz⟩ : ∃ z, p[q]? = some z := ⟨p[q]'(by omega), List.getElem?_eq_getElem (by omega)⟩
      have hzx := insPos_front p.length (Nat.le_refl _) q z hq hz
      obtain ⟨j, hj, rfl⟩ := List.getElem_of_mem hy
      rw [List.length_take] at hj
      rw [List.getElem_take]
      have hyx := hx p[j] (List.getElem_mem _)
      rcases Nat.lt_or_ge j q with r | r
      · have := (List.pairwise_iff_getElem.1 hp) j q (by omega) (by omega) r
        have ez : p[q]'(by omega) = z := (List.getElem?_eq_some_iff.1 hz).2
        rw [ez] at this
        unfold byKN at *; omega
      · have : j = q := by omega
        subst this
        have ez : p[j]'(by omega) = z := (List.getElem?_eq_some_iff.1 hz).2
        rw [ez] at hyx ⊢
        unfold byKN; omega
  have behind : ∀ y ∈ p.drop (insPos (fun a b => decide (key a < key b)) x p p.length), byKN key x y := by
    intro y hy
    obtain ⟨j, hj, rfl⟩ := List.getElem_of_mem hy
    rw [List.length_drop] at hj
    rw [List.getElem_drop]
    exact .inl (insPos_behind p.length (Nat.le_refl _) _ _ (Nat.le_add_right ..) (by omega) (List.getElem?_eq_getElem (by omega)))
  refine ⟨hp.sublist (List.take_sublist ..), ⟨behind, hp.sublist (List.drop_sublist ..)⟩, ?_⟩
  intro a ha b hb
  rcases List.mem_cons.1 hb with rfl | hb
  · exact front a ha
  · exact byKN_trans (front a ha) (behind b hb)
theorem isort_sorted {key : Int → Int} : ∀ (l acc : List Int), acc.Pairwise (byKN key) → (∀ x ∈ acc, ∀ y ∈ l, x < y) → l.Pairwise (· < ·) → (l.foldl (insR fun a b => decide (key a < key b)) acc).Pairwise (byKN key)
  | [], _, h, _, _ => h
  | x :: l, acc, h, h2, h3 => by
    obtain ⟨a, b⟩ := List.pairwise_cons.1 h3
    refine isort_sorted l _ (insR_sorted h fun y hy => h2 y hy x (List.mem_cons_self ..)) (fun y hy z hz => ?_) b
    rcases insR_mem.1 hy with rfl | hy
    · exact a z hz
    · exact h2 y hy z (List.mem_cons_of_mem _ hz)
/-- The best of those that are not taken. -/
def bestF (key : Int → Int) (taken : List Int) (best i : Int) : Int := if i ∉ taken ∧ (best < 0 ∨ key i < key best) then i else best
theorem best_fold {key : Int → Int} {taken : List Int} : ∀ (l : List Int) (b : Int), l.Pairwise (· < ·) → (∀ i ∈ l, 0 ≤ i) → (b = -1 ∨ (0 ≤ b ∧ b ∉ taken ∧ ∀ i ∈ l, b < i)) →
    (l.foldl (bestF key taken) b = -1 ∧ b = -1 ∧ ∀ i ∈ l, i ∈ taken) ∨
    (0 ≤ l.foldl (bestF key taken) b ∧ l.foldl (bestF key taken) b ∉ taken ∧ (l.foldl (bestF key taken) b = b ∨ l.foldl (bestF key taken) b ∈ l) ∧ (b ≠ -1 → l.foldl (bestF key taken) b = b ∨ byKN key (l.foldl (bestF key taken) b) b) ∧
      ∀ i ∈ l, i ∉ taken → l.foldl (bestF key taken) b = i ∨ byKN key (l.foldl (bestF key taken) b) i)
  | [], b, _, _, hb => by
    rcases hb with hb | ⟨h1, h2, _⟩
    · exact .inl ⟨hb, hb, fun i hi => by cases hi⟩
    · exact .inr ⟨h1, h2, .inl rfl, fun _ => .inl rfl, fun i hi => by cases hi⟩
  | x :: l, b, hl, hp, hb => by
    obtain ⟨p1, p2⟩ := List.pairwise_cons.1 hl
    have hx0 := hp x (List.mem_cons_self ..)
    have hp' : ∀ i ∈ l, 0 ≤ i := fun i hi => hp i (List.mem_cons_of_mem _ hi)
    rw [List.foldl_cons]
    by_cases hc : x ∉ taken ∧ (b < 0 ∨ key x < key b)
    · have e : bestF key taken b x = x := by rw [bestF, if_pos hc]
      rw [e]
      rcases best_fold l x p2 hp' (.inr ⟨hx0, hc.1, p1⟩) with ⟨_, h, _⟩ | ⟨r1, r2, r3, r4, r5⟩
      · omega
      · have r6 := r4 (by omega)
        refine .inr ⟨r1, r2, .inr ?_, fun hbn => .inr ?_, fun i hi hit => ?_⟩
        · rcases r3 with r3 | r3
          · rw [r3]; exact List.mem_cons_self ..
          · exact List.mem_cons_of_mem _ r3
        · have hxb : byKN key x b := by
            rcases hb with hb | hb
            · exact absurd hb hbn
            · exact .inl (by omega)
          rcases r6 with r6 | r6
          · rw [r6]; exact hxb
          · exact byKN_trans r6 hxb
        · rcases List.mem_cons.1 hi with rfl | hi
          · exact r6
          · exact r5 i hi hit
    · have e : bestF key taken b x = b := by rw [bestF, if_neg hc]
      rw [e]
      have hb' : b = -1 ∨ (0 ≤ b ∧ b ∉ taken ∧ ∀ i ∈ l, b < i) := hb.imp id fun h => ⟨h.1, h.2.1, fun i hi => h.2.2 i (List.mem_cons_of_mem _ hi)⟩
      rcases best_fold l b p2 hp' hb' with ⟨r1, r2, r3⟩ | ⟨r1, r2, r3, r4, r5⟩
      · refine .inl ⟨r1, r2, fun i hi => ?_⟩
        rcases List.mem_cons.1 hi with rfl | hi
        · exact Classical.byContradiction fun q => hc ⟨q, .inl (by omega)⟩
        · exact r3 i hi
      · refine .inr ⟨r1, r2, r3.imp id (List.mem_cons_of_mem _), r4, fun i hi hit => ?_⟩
        rcases List.mem_cons.1 hi with rfl | hi
        · have hbn : ¬ b < 0 := fun q => hc ⟨hit, .inl q⟩
          have hk : ¬ key i < key b := fun q => hc ⟨hit, .inr q⟩
          have hbi : byKN key b i := by
            rcases hb with hb | hb
            · omega
            · have := hb.2.2 i (List.mem_cons_self ..)
              unfold byKN; omega
          rcases r4 (by omega) with r | r
          · rw [r]; exact .inr hbi
          · exact .inr (byKN_trans r hbi)
        · exact r5 i hi hit
/-- THE BEST THAT IS NOT TAKEN IS THE NEXT ONE IN ORDER. -/
theorem best_is_next {key : Int → Int} {l s taken : List Int} {k : Nat} (hl : l.Pairwise (· < ·)) (hp : ∀ i ∈ l, 0 ≤ i) (hs : s.Pairwise (byKN key)) (hm : ∀ i, i ∈ s ↔ i ∈ l) (ht : ∀ i, i ∈ taken ↔ i ∈ s.take k) :
    l.foldl (bestF key taken) (-1) = match s[k]? with | some y => y | none => -1 := by
  have irr : ∀ a, ¬ byKN key a a := fun a h => by unfold byKN at h; omega
  rcases best_fold l (-1) hl hp (.inl rfl) with ⟨r1, _, r3⟩ | ⟨r1, r2, r3, _, r5⟩
  · rw [r1]
    cases hk : s[k]? with
    | none => rfl
    | some y =>
      exfalso
      have hy := (ht y).1 (r3 y ((hm y).1 (List.mem_of_getElem? hk)))
      obtain ⟨j, hj, e⟩ := List.getElem_of_mem hy
      rw [List.length_take] at hj
      rw [List.getElem_take] at e
      obtain ⟨hkl, ek⟩ := List.getElem?_eq_some_iff.1 hk
      have := (List.pairwise_iff_getElem.1 hs) j k (by omega) hkl (by omega)
      rw [e, ek] at this
      exact irr y this
  · generalize l.foldl (bestF key taken) (-1) = r at *
    have hrl : r ∈ l := by
      rcases r3 with r3 | r3
      · omega
      · exact r3
    obtain ⟨m, hml, em⟩ := List.getElem_of_mem ((hm r).2 hrl)
    have hmk : k ≤ m := by
      rcases Nat.lt_or_ge m k with q | q
      · exact absurd ((ht r).2 (by rw [← em]; exact List.mem_take_iff_getElem.2 ⟨m, by omega, rfl⟩)) r2
      · exact q
    have hkl : k < s.length := by omega
    rw [List.getElem?_eq_getElem hkl]
    show r = s[k]
    have hnt : s[k] ∉ taken := fun h => by
      obtain ⟨j, hj, e⟩ := List.getElem_of_mem ((ht _).1 h)
      rw [List.length_take] at hj
      rw [List.getElem_take] at e
      have := (List.pairwise_iff_getElem.1 hs) j k (by omega) hkl (by omega)
      rw [e] at this
      exact irr _ this
    rcases r5 s[k] ((hm _).1 (List.getElem_mem _)) hnt with q | q
    · exact q
    · rcases Nat.lt_or_ge k m with z | z
      · have := (List.pairwise_iff_getElem.1 hs) k m hkl hml z
        rw [em] at this
        exact absurd (byKN_trans q this) (irr r)
      · have : k = m := by omega
        subst this
        exact em.symm

end Go.Proofs.Ytmlicajgbgjphaa
