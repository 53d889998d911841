/- What functions compute. No condition. -/
import Derived.Test.YtmlicajgbgjphaaDoorUty
import Derived.Test.YtmlicajgbgjphaaDoorUmG
import Derived.Test.YtmlicajgbgjphaaDoorX3
import Derived.Test.YtmlicajgbgjphaaDoorX1
import Derived.Test.YtmlicajgbgjphaaDoorX2
import Derived.Test.YtmlicajgbgjphaaDoorShelf
set_option linter.unusedSimpArgs false
set_option linter.unusedVariables false
set_option linter.defProp false
namespace Go.Proofs.YtmlicajgbgjphaaDoor
open Go Go.Vm

def noisyP (wr : List (Int × Int)) (most : Int) (d : (Int × Int × Int × Bool)) : Bool := decide (most < ((wr.filter fun s => decide (s.2 = d.1)).length : Int))
def noisyOf (l : List (Int × Int × Int × Bool)) (wr : List (Int × Int)) (most : Int) : List Int := (l.filter (noisyP wr most)).map fun d => d.1
def noisyB (l : List (Int × Int × Int × Bool)) (s : List (Int × Int)) (within most : Int) : Bool := askB l s within && (decide (0 ≤ most) && decide (most ≤ 60))
def noisyR (l : List (Int × Int × Int × Bool)) (s : List (Int × Int)) (within most : Int) : List Int := if noisyB l s within most = true then noisyOf l (falseOf l s within) most else []
theorem noisyOf_len (l : List (Int × Int × Int × Bool)) (wr : List (Int × Int)) (most : Int) : (noisyOf l wr most).length ≤ l.length := by rw [noisyOf, List.length_map]; exact List.length_filter_le ..
theorem noisyR_len (l : List (Int × Int × Int × Bool)) (s : List (Int × Int)) (within most : Int) : (noisyR l s within most).length ≤ l.length := by
  rw [noisyR]
  split
  · exact noisyOf_len ..
  · exact Nat.zero_le _
theorem noisy_step {l : List (Int × Int × Int × Bool)} {wr : List (Int × Int)} {most : Int} {i : Nat} {x : (Int × Int × Int × Bool)} (h : l[i]? = some x) : noisyOf (l.take (i + 1)) wr most = noisyOf (l.take i) wr most ++ (if noisyP wr most x = true then [x.1] else []) := by
  rw [noisyOf, filter_step h, List.map_append, noisyOf]
  congr 1
  split <;> rfl
theorem cntY_step {wr : List (Int × Int)} {n : Int} {j : Nat} {y : (Int × Int)} (h : wr[j]? = some y) : ((wr.take (j + 1)).filter fun s => decide (s.2 = n)).length = ((wr.take j).filter fun s => decide (s.2 = n)).length + (if y.2 = n then 1 else 0) := by
  rw [filter_step h, List.length_append]
  congr 1
  by_cases q : y.2 = n <;> simp [q]

set_option maxHeartbeats 1000000 in
theorem specNoisy_con (l : List (Int × Int × Int × Bool)) (s : List (Int × Int)) (within : Int) (most : Int) (hl : l.length ≤ 1048576) (hs : s.length ≤ 1048576) : Con Tryd.prog 32 [.sl (l.map (fun t : Int × Int × Int × Bool => V.agg [V.int .i64 t.1, V.int .i64 t.2.1, V.int .i64 t.2.2.1, V.bool t.2.2.2])), .sl (s.map (fun t : Int × Int => V.agg [V.int .i64 t.1, V.int .i64 t.2])), .int .i64 within, .int .i64 most] [] (.tup [.ref 0, .bool (noisyB l s within most)]) [.arr ((noisyR l s within most).map (V.int .i64)) .flat] := by
 obtain ⟨wr, hwr⟩ : ∃ wr, wr = falseOf l s within := ⟨_, rfl⟩
 have hwl : wr.length ≤ 1048576 := by rw [hwr]; exact Nat.le_trans (falseOf_len l s within) hs
 refine v_con [.tmp 8, .tmp 9] [] Tryd.func32 rfl rfl rfl (by simp [Tryd.ntmps32]) ?_
 intro Q0 n0 r0
 simp only [Tryd.ntmps32, envFrom, Nat.reduceAdd]
 have T := Tys.mk (And.intro Ty.t3 (And.intro Ty.t4 (And.intro Ty.t33 (And.intro Ty.t48 (And.intro Ty.t51 (And.intro Ty.t61 Ty.t65))))))
 have F := Fc.mk True.intro
 refine v_seqR [0,1,2,3] ?_; intro K1 k1
 refine zAssign ⟨?_⟩
 refine zAssign ⟨?_⟩
 refine k1 _ ?_
 refine zk ⟨?_⟩
 refine v_seq ?_; intro Q2 n2 e2 r2
 refine v_seqR [0,1,2,3,26] ?_; intro K3 k3
 refine zMove ⟨?_⟩
 refine zMove ⟨?_⟩
 refine zMove ⟨?_⟩
 refine zc (alAsked_con l s within hl hs) ⟨?_⟩
 refine zUnOp ⟨?_⟩
 refine zMove ⟨?_⟩
 refine zgMove ⟨?_⟩
 refine zgc (l1In_con _ _ _) ⟨?_⟩
 refine zgUnOp ⟨?_⟩
 refine zPick ⟨?_⟩
 refine k3 _ ?_
 refine zk ⟨?_⟩
 refine v_condS _ rfl ?_ ?_
 ·intro hc0
  have hask : noisyB l s within most = false := by
   cases hq : noisyB l s within most with
   |false => rfl
   |true => (exfalso; first | (simp [noisyB] at hq; simp at hc0; simp_all; done) | (simp [noisyB] at hq; simp at hc0; simp_all; omega) | (simp [noisyB, askB] at hq; simp at hc0; simp_all; done) | (simp [noisyB, askB] at hq; simp at hc0; simp_all; omega))
  refine v_seqR [8,9] ?_; intro K5 k5
  refine zAssign ⟨?_⟩
  refine zAssign ⟨?_⟩
  refine k5 _ ?_
  refine zk ⟨?_⟩
  refine v_ret ?_
  refine r2 _ ?_
  refine r0 _ ?_
  refine zf ⟨?_⟩
  rw [show noisyR l s within most = [] by rw [noisyR, hask]; rfl, hask]
  exact ret_ref_tup rfl rfl rfl (.inl rfl)
 ·intro hc0
  have hask : noisyB l s within most = true := by simp only [noisyB, askB, Bool.and_eq_true, decide_eq_true_eq]; simp at hc0; first | (simp_all; done) | (simp_all [askB]; done)
  have hpos := ssB_pos (by simp [noisyB, askB] at hask; exact hask.1.1.2 : ssB s = true)
  refine v_skip ?_
  refine n2 _ _ (weak_keep [0, 1, 2, 3] _) ?_
  refine zk ⟨?_⟩
  refine v_seqR [0,1,2,3,10] ?_; intro K6 k6
  refine zAssign ⟨?_⟩
  refine k6 _ ?_
  refine zk ⟨?_⟩
  refine v_seqR [0,3,10,11] ?_; intro K7 k7
  refine zMove ⟨?_⟩
  refine zMove ⟨?_⟩
  refine zMove ⟨?_⟩
  refine zc ((hwr ▸ alFalse_con l s within hl hs : Con _ _ _ _ _ [.arr (wr.map (fun t : Int × Int => V.agg [V.int .i64 t.1, V.int .i64 t.2])) .flat])) ⟨?_⟩
  refine zAssign ⟨?_⟩
  refine k7 _ ?_
  refine zk ⟨?_⟩
  refine v_seq ?_; intro Q8 n8 e8 r8
  refine v_seqR [3,10,11,31,32,33] ?_; intro K9 k9
  refine zMove ⟨?_⟩
  refine zLen ⟨?_⟩
  refine zMove ⟨?_⟩
  refine k9 _ ?_
  refine zk ⟨?_⟩
  refine v_block ?_; intro Q10 n10 x10 e10 r10
  refine v_loop (fun p => ⟨[(3, .int .i64 most), (10, .ref 0), (11, .ref 1), (31, .sl (l.map (fun t : Int × Int × Int × Bool => V.agg [V.int .i64 t.1, V.int .i64 t.2.1, V.int .i64 t.2.2.1, V.bool t.2.2.2]))), (32, .int .i64 l.length), (33, .int .i64 (Nat.cast p.1))], [.arr (p.2.map (V.int .i64)) .flat, .arr (wr.map (fun t : Int × Int => V.agg [V.int .i64 t.1, V.int .i64 t.2])) .flat], false, 61, 0⟩) (fun p => p.1 ≤ l.length ∧ p.2.length ≤ p.1 ∧ p.2 = noisyOf (l.take p.1) wr most) (fun p => l.length - p.1) ((0, []) : Nat × List Int) ?_ ?_ ?_
  ·refine weak_bothS [3, 10, 11, 31, 32, 33] [1, 2] ⟨?_⟩
   rfl
  ·exact ⟨Nat.zero_le _, Nat.le_refl _, rfl⟩
  ·rintro ⟨i, acc⟩ hok11 Q11 n11 e11 r11
   obtain ⟨hi1, hal, hR⟩ := hok11
   simp only [] at hi1 hal hR ⊢
   refine v_seqR [3,10,11,31,32,33,34] ?_; intro K12 k12
   refine zBinOp ⟨?_⟩
   refine k12 _ ?_
   refine zk ⟨?_⟩
   refine v_seq ?_; intro Q13 n13 e13 r13
   refine v_condS _ rfl ?_ ?_
   ·intro hc1
    have hlt : i < l.length := by omega
    obtain ⟨⟨x0, x1, x2, x3⟩, hx⟩ : ∃ x : Int × Int × Int × Bool, l[i]? = some x := ⟨l[i]'(by omega), List.getElem?_eq_getElem (by omega)⟩
    have hst := noisy_step (wr := wr) (most := most) hx
    refine v_skip ?_
    refine n13 _ _ (weak_keep [3, 10, 11, 31, 32, 33] _) ?_
    refine zk ⟨?_⟩
    refine v_seq ?_; intro Q15 n15 e15 r15
    refine v_block ?_; intro Q16 n16 x16 e16 r16
    refine v_seqR [3,10,11,13,31,32,33] ?_; intro K17 k17
    have F := Fc.mk (fun f => getD_map (f := f) hx)
    refine zIndexAddr ⟨?_⟩
    refine zLoad ⟨?_⟩
    refine zAlloc ⟨?_⟩
    refine zStore ⟨?_⟩
    refine k17 _ ?_
    refine zk ⟨?_⟩
    refine v_seqR [3,10,11,13,14,31,32,33] ?_; intro K18 k18
    refine zAssign ⟨?_⟩
    refine k18 _ ?_
    refine zk ⟨?_⟩
    refine v_seq ?_; intro Q19 n19 e19 r19
    refine v_seqR [3,10,11,13,14,31,32,33,37,38,39] ?_; intro K20 k20
    refine zMove ⟨?_⟩
    refine zLen ⟨?_⟩
    refine zMove ⟨?_⟩
    refine k20 _ ?_
    refine zk ⟨?_⟩
    refine v_block ?_; intro Q21 n21 x21 e21 r21
    refine v_loop (fun q => ⟨[(3, .int .i64 most), (10, .ref 0), (11, .ref 1), (13, .ptr 2 0 0), (14, .int .i64 (Nat.cast q.2)), (31, .sl (l.map (fun t : Int × Int × Int × Bool => V.agg [V.int .i64 t.1, V.int .i64 t.2.1, V.int .i64 t.2.2.1, V.bool t.2.2.2]))), (32, .int .i64 l.length), (33, .int .i64 (Nat.cast i)), (37, .ref 1), (38, .int .i64 wr.length), (39, .int .i64 (Nat.cast q.1))], [.arr (acc.map (V.int .i64)) .flat, .arr (wr.map (fun t : Int × Int => V.agg [V.int .i64 t.1, V.int .i64 t.2])) .flat, .box (.agg [V.int .i64 x0, V.int .i64 x1, V.int .i64 x2, V.bool x3]) .flat], false, 61, 0⟩) (fun q => q.1 ≤ wr.length ∧ q.2 = ((wr.take q.1).filter fun s => decide (s.2 = x0)).length) (fun q => wr.length - q.1) ((0, 0) : Nat × Nat) ?_ ?_ ?_
    ·refine weak_bothS [3, 10, 11, 13, 14, 31, 32, 33, 37, 38, 39] [0, 1, 2] ⟨?_⟩
     rfl
    ·exact ⟨Nat.zero_le _, rfl⟩
    ·rintro ⟨j, n⟩ hok22 Q22 n22 e22 r22
     obtain ⟨hj1, hn⟩ := hok22
     simp only [] at hj1 hn ⊢
     have hnb : n ≤ j := by rw [hn]; exact Nat.le_trans (List.length_filter_le ..) (List.length_take_le ..)
     refine v_seqR [3,10,11,13,14,31,32,33,37,38,39,40] ?_; intro K23 k23
     refine zBinOp ⟨?_⟩
     refine k23 _ ?_
     refine zk ⟨?_⟩
     refine v_seq ?_; intro Q24 n24 e24 r24
     refine v_condS _ rfl ?_ ?_
     ·intro hc2
      have hlj : j < wr.length := by simpa using hc2
      obtain ⟨⟨y0, y1⟩, hy⟩ : ∃ x : Int × Int, wr[j]? = some x := ⟨wr[j]'(by omega), List.getElem?_eq_getElem (by omega)⟩
      have hcs := cntY_step (n := x0) hy
      refine v_skip ?_
      refine n24 _ _ (weak_keep [3, 10, 11, 13, 14, 31, 32, 33, 37, 38, 39] _) ?_
      refine zk ⟨?_⟩
      refine v_seq ?_; intro Q26 n26 e26 r26
      refine v_block ?_; intro Q27 n27 x27 e27 r27
      refine v_seqR [3,10,11,13,14,16,31,32,33,37,38,39] ?_; intro K28 k28
      have F := Fc.mk (And.intro (fun f => getD_map (f := f) hx) (fun f => getD_map (f := f) hy))
      refine zIndexAddr ⟨?_⟩
      refine zLoad ⟨?_⟩
      refine zAlloc ⟨?_⟩
      refine zStore ⟨?_⟩
      refine k28 _ ?_
      refine zk ⟨?_⟩
      refine v_seqR [3,10,11,13,14,31,32,33,37,38,39,47] ?_; intro K29 k29
      refine zFieldAddr ⟨?_⟩
      refine zLoad ⟨?_⟩
      refine zFieldAddr ⟨?_⟩
      refine zLoad ⟨?_⟩
      refine zBinOp ⟨?_⟩
      refine k29 _ ?_
      refine zk ⟨?_⟩
      refine v_condS _ rfl ?_ ?_
      ·intro hc3
       refine v_region ?_; intro K31 k31
       refine zMove ⟨?_⟩
       refine zBinOpW ⟨?_⟩
       refine zAssign ⟨?_⟩
       refine k31 _ ?_
       refine n27 _ ?_
       refine n26 _ _ (weak_keep [3, 10, 11, 13, 14, 31, 32, 33, 37, 38, 39] _) ?_
       refine zk ⟨?_⟩
       refine v_region ?_; intro K32 k32
       refine zBinOpW ⟨?_⟩
       refine zMove ⟨?_⟩
       refine k32 _ ?_
       refine n22 _ (j + 1, n + 1) ?_ ?_ ?_
       ·refine weak_bothS [3, 10, 11, 13, 14, 31, 32, 33, 37, 38, 39] [0, 1, 2] ⟨?_⟩
        rfl
       ·exact ⟨hlj, by show n + 1 = _; rw [hcs, ← hn, if_pos hc3]⟩
       ·show _ < _; show wr.length - (j + 1) < wr.length - j; omega
      ·intro hc3
       refine v_skip ?_
       refine n27 _ ?_
       refine n26 _ _ (weak_keep [3, 10, 11, 13, 14, 31, 32, 33, 37, 38, 39] _) ?_
       refine zk ⟨?_⟩
       refine v_region ?_; intro K33 k33
       refine zBinOpW ⟨?_⟩
       refine zMove ⟨?_⟩
       refine k33 _ ?_
       refine n22 _ (j + 1, n) ?_ ?_ ?_
       ·refine weak_bothS [3, 10, 11, 13, 14, 31, 32, 33, 37, 38, 39] [0, 1, 2] ⟨?_⟩
        rfl
       ·exact ⟨hlj, by show n = _; rw [hcs, ← hn, if_neg hc3]; rfl⟩
       ·show _ < _; show wr.length - (j + 1) < wr.length - j; omega
     ·intro hc2
      have hje : wr.length ≤ j := by simpa using hc2
      have hcn : noisyP wr most (x0, x1, x2, x3) = decide (most < (n : Int)) := by rw [noisyP, hn, List.take_of_length_le hje]
      refine v_exit ?_
      refine e24 _ _ ?_
      refine e22 _ _ ?_
      refine x21 _ ?_
      refine n19 _ _ (weak_keep [3, 10, 11, 13, 14, 31, 32, 33] _) ?_
      refine zk ⟨?_⟩
      refine v_seqR [3,10,11,13,31,32,33,53] ?_; intro K34 k34
      refine zMove ⟨?_⟩
      refine zMove ⟨?_⟩
      refine zBinOp ⟨?_⟩
      refine k34 _ ?_
      refine zk ⟨?_⟩
      refine v_condS _ rfl ?_ ?_
      ·intro hc4
       refine v_region ?_; intro K36 k36
       refine zMove ⟨?_⟩
       refine zFieldAddr ⟨?_⟩
       refine zLoad ⟨?_⟩
       refine zBuildSlice ⟨?_⟩
       refine zAppend ⟨?_⟩
       refine zAssign ⟨?_⟩
       refine k36 _ ?_
       refine n16 _ ?_
       refine n15 _ _ (weak_keep [3, 10, 11, 31, 32, 33] _) ?_
       refine zk ⟨?_⟩
       refine v_region ?_; intro K37 k37
       refine zBinOpW ⟨?_⟩
       refine zMove ⟨?_⟩
       refine k37 _ ?_
       refine n11 _ (i + 1, acc ++ [x0]) ?_ ?_ ?_
       ·refine weak_bothS [3, 10, 11, 31, 32, 33] [4, 1] ⟨?_⟩
        rw [snoc_zone]; rfl
       ·exact ⟨hlt, by show (acc ++ _).length ≤ i + 1; simp; omega, by show acc ++ _ = _; rw [hst, ← hR, hcn, if_pos (decide_eq_true hc4)]⟩
       ·show _ < _; show l.length - (i + 1) < l.length - i; omega
      ·intro hc4
       refine v_skip ?_
       refine n16 _ ?_
       refine n15 _ _ (weak_keep [3, 10, 11, 31, 32, 33] _) ?_
       refine zk ⟨?_⟩
       refine v_region ?_; intro K38 k38
       refine zBinOpW ⟨?_⟩
       refine zMove ⟨?_⟩
       refine k38 _ ?_
       refine n11 _ (i + 1, acc) ?_ ?_ ?_
       ·refine weak_bothS [3, 10, 11, 31, 32, 33] [0, 1] ⟨?_⟩
        rfl
       ·exact ⟨hlt, by show acc.length ≤ i + 1; omega, by show acc = _; rw [hst, ← hR, hcn, if_neg (by simp; omega), List.append_nil]⟩
       ·show _ < _; show l.length - (i + 1) < l.length - i; omega
   ·intro hc1
    refine v_exit ?_
    refine e13 _ _ ?_
    refine e11 _ _ ?_
    refine x10 _ ?_
    refine n8 _ _ (weak_keep [10] _) ?_
    refine zk ⟨?_⟩
    refine v_seqR [8,9] ?_; intro K39 k39
    refine zMove ⟨?_⟩
    refine zAssign ⟨?_⟩
    refine zAssign ⟨?_⟩
    refine k39 _ ?_
    refine zk ⟨?_⟩
    refine v_ret ?_
    refine r0 _ ?_
    refine zf ⟨?_⟩
    have hend : acc = noisyOf l wr most := by rw [hR, List.take_of_length_le (by omega)]
    rw [show noisyR l s within most = acc by rw [noisyR, hask, hend, hwr]; rfl, hask]
    exact ret_ref_tup rfl rfl rfl (.inl rfl)
set_option maxHeartbeats 1000000 in
theorem implNoisy_con (l : List (Int × Int × Int × Bool)) (s : List (Int × Int)) (within : Int) (most : Int) (hl : l.length ≤ 1048576) (hs : s.length ≤ 1048576) : Con Tryd.prog 31 [.sl (l.map (fun t : Int × Int × Int × Bool => V.agg [V.int .i64 t.1, V.int .i64 t.2.1, V.int .i64 t.2.2.1, V.bool t.2.2.2])), .sl (s.map (fun t : Int × Int => V.agg [V.int .i64 t.1, V.int .i64 t.2])), .int .i64 within, .int .i64 most] [] (.tup [.ref 0, .bool (noisyB l s within most)]) [.arr ((noisyR l s within most).map (V.int .i64)) .flat] := by
 obtain ⟨wr, hwr⟩ : ∃ wr, wr = falseOf l s within := ⟨_, rfl⟩
 have hwl : wr.length ≤ 1048576 := by rw [hwr]; exact Nat.le_trans (falseOf_len l s within) hs
 refine v_con [.tmp 8, .tmp 9] [] Tryd.func31 rfl rfl rfl (by simp [Tryd.ntmps31]) ?_
 intro Q0 n0 r0
 simp only [Tryd.ntmps31, envFrom, Nat.reduceAdd]
 have T := Tys.mk (And.intro Ty.t3 (And.intro Ty.t4 (And.intro Ty.t33 (And.intro Ty.t48 (And.intro Ty.t51 (And.intro Ty.t61 Ty.t65))))))
 have F := Fc.mk True.intro
 refine v_seqR [0,1,2,3] ?_; intro K1 k1
 refine zAssign ⟨?_⟩
 refine zAssign ⟨?_⟩
 refine k1 _ ?_
 refine zk ⟨?_⟩
 refine v_seq ?_; intro Q2 n2 e2 r2
 refine v_seqR [0,1,2,3,34] ?_; intro K3 k3
 refine zMove ⟨?_⟩
 refine zc (areDetectors_con l hl) ⟨?_⟩
 refine zUnOp ⟨?_⟩
 refine zMove ⟨?_⟩
 refine zgMove ⟨?_⟩
 refine zgc (areSignals_con s hs) ⟨?_⟩
 refine zgUnOp ⟨?_⟩
 refine zPick ⟨?_⟩
 refine zMove ⟨?_⟩
 refine zgMove ⟨?_⟩
 refine zgc (inside_con _ _ _) ⟨?_⟩
 refine zgUnOp ⟨?_⟩
 refine zPick ⟨?_⟩
 refine zMove ⟨?_⟩
 refine zgMove ⟨?_⟩
 refine zgc (inside_con _ _ _) ⟨?_⟩
 refine zgUnOp ⟨?_⟩
 refine zPick ⟨?_⟩
 refine k3 _ ?_
 refine zk ⟨?_⟩
 refine v_condS _ rfl ?_ ?_
 ·intro hc0
  have hask : noisyB l s within most = false := by
   cases hq : noisyB l s within most with
   |false => rfl
   |true => (exfalso; first | (simp [noisyB] at hq; simp at hc0; simp_all; done) | (simp [noisyB] at hq; simp at hc0; simp_all; omega) | (simp [noisyB, askB] at hq; simp at hc0; simp_all; done) | (simp [noisyB, askB] at hq; simp at hc0; simp_all; omega))
  refine v_seqR [8,9] ?_; intro K5 k5
  refine zAssign ⟨?_⟩
  refine zAssign ⟨?_⟩
  refine k5 _ ?_
  refine zk ⟨?_⟩
  refine v_ret ?_
  refine r2 _ ?_
  refine r0 _ ?_
  refine zf ⟨?_⟩
  rw [show noisyR l s within most = [] by rw [noisyR, hask]; rfl, hask]
  exact ret_ref_tup rfl rfl rfl (.inl rfl)
 ·intro hc0
  have hask : noisyB l s within most = true := by simp only [noisyB, askB, Bool.and_eq_true, decide_eq_true_eq]; simp at hc0; first | (simp_all; done) | (simp_all [askB]; done)
  have hpos := ssB_pos (by simp [noisyB, askB] at hask; exact hask.1.1.2 : ssB s = true)
  refine v_skip ?_
  refine n2 _ _ (weak_keep [0, 1, 2, 3] _) ?_
  refine zk ⟨?_⟩
  refine v_seqR [0,3,10] ?_; intro K6 k6
  refine zMove ⟨?_⟩
  refine zMove ⟨?_⟩
  refine zMove ⟨?_⟩
  refine zc ((hwr ▸ falseSignals_con l s within hl hs hpos : Con _ _ _ _ _ [.arr (wr.map (fun t : Int × Int => V.agg [V.int .i64 t.1, V.int .i64 t.2])) .thin])) ⟨?_⟩
  refine zAssign ⟨?_⟩
  refine k6 _ ?_
  refine zk ⟨?_⟩
  refine v_seqR [0,3,10,11] ?_; intro K7 k7
  refine zAssign ⟨?_⟩
  refine k7 _ ?_
  refine zk ⟨?_⟩
  refine v_seq ?_; intro Q8 n8 e8 r8
  refine v_seqR [3,10,11,39,40,41] ?_; intro K9 k9
  refine zMove ⟨?_⟩
  refine zLen ⟨?_⟩
  refine zMove ⟨?_⟩
  refine k9 _ ?_
  refine zk ⟨?_⟩
  refine v_block ?_; intro Q10 n10 x10 e10 r10
  refine v_loop (fun p => ⟨[(3, .int .i64 most), (10, .ref 1), (11, .ref 0), (39, .sl (l.map (fun t : Int × Int × Int × Bool => V.agg [V.int .i64 t.1, V.int .i64 t.2.1, V.int .i64 t.2.2.1, V.bool t.2.2.2]))), (40, .int .i64 l.length), (41, .int .i64 (Nat.cast p.1))], [.arr (p.2.map (V.int .i64)) .flat, .arr (wr.map (fun t : Int × Int => V.agg [V.int .i64 t.1, V.int .i64 t.2])) .thin], false, 69, 0⟩) (fun p => p.1 ≤ l.length ∧ p.2.length ≤ p.1 ∧ p.2 = noisyOf (l.take p.1) wr most) (fun p => l.length - p.1) ((0, []) : Nat × List Int) ?_ ?_ ?_
  ·refine weak_bothS [3, 10, 11, 39, 40, 41] [2, 1] ⟨?_⟩
   rfl
  ·exact ⟨Nat.zero_le _, Nat.le_refl _, rfl⟩
  ·rintro ⟨i, acc⟩ hok11 Q11 n11 e11 r11
   obtain ⟨hi1, hal, hR⟩ := hok11
   simp only [] at hi1 hal hR ⊢
   refine v_seqR [3,10,11,39,40,41,42] ?_; intro K12 k12
   refine zBinOp ⟨?_⟩
   refine k12 _ ?_
   refine zk ⟨?_⟩
   refine v_seq ?_; intro Q13 n13 e13 r13
   refine v_condS _ rfl ?_ ?_
   ·intro hc1
    have hlt : i < l.length := by omega
    obtain ⟨⟨x0, x1, x2, x3⟩, hx⟩ : ∃ x : Int × Int × Int × Bool, l[i]? = some x := ⟨l[i]'(by omega), List.getElem?_eq_getElem (by omega)⟩
    have hst := noisy_step (wr := wr) (most := most) hx
    refine v_skip ?_
    refine n13 _ _ (weak_keep [3, 10, 11, 39, 40, 41] _) ?_
    refine zk ⟨?_⟩
    refine v_seq ?_; intro Q15 n15 e15 r15
    refine v_block ?_; intro Q16 n16 x16 e16 r16
    refine v_seqR [3,10,11,13,39,40,41] ?_; intro K17 k17
    have F := Fc.mk (fun f => getD_map (f := f) hx)
    refine zIndexAddr ⟨?_⟩
    refine zLoad ⟨?_⟩
    refine zAlloc ⟨?_⟩
    refine zStore ⟨?_⟩
    refine k17 _ ?_
    refine zk ⟨?_⟩
    refine v_seqR [3,10,11,13,14,39,40,41] ?_; intro K18 k18
    refine zAssign ⟨?_⟩
    refine k18 _ ?_
    refine zk ⟨?_⟩
    refine v_seq ?_; intro Q19 n19 e19 r19
    refine v_seqR [3,10,11,13,14,39,40,41,45,46,47] ?_; intro K20 k20
    refine zMove ⟨?_⟩
    refine zLen ⟨?_⟩
    refine zMove ⟨?_⟩
    refine k20 _ ?_
    refine zk ⟨?_⟩
    refine v_block ?_; intro Q21 n21 x21 e21 r21
    refine v_loop (fun q => ⟨[(3, .int .i64 most), (10, .ref 1), (11, .ref 0), (13, .ptr 2 0 0), (14, .int .i64 (Nat.cast q.2)), (39, .sl (l.map (fun t : Int × Int × Int × Bool => V.agg [V.int .i64 t.1, V.int .i64 t.2.1, V.int .i64 t.2.2.1, V.bool t.2.2.2]))), (40, .int .i64 l.length), (41, .int .i64 (Nat.cast i)), (45, .ref 1), (46, .int .i64 wr.length), (47, .int .i64 (Nat.cast q.1))], [.arr (acc.map (V.int .i64)) .flat, .arr (wr.map (fun t : Int × Int => V.agg [V.int .i64 t.1, V.int .i64 t.2])) .thin, .box (.agg [V.int .i64 x0, V.int .i64 x1, V.int .i64 x2, V.bool x3]) .flat], false, 69, 0⟩) (fun q => q.1 ≤ wr.length ∧ q.2 = ((wr.take q.1).filter fun s => decide (s.2 = x0)).length) (fun q => wr.length - q.1) ((0, 0) : Nat × Nat) ?_ ?_ ?_
    ·refine weak_bothS [3, 10, 11, 13, 14, 39, 40, 41, 45, 46, 47] [0, 1, 2] ⟨?_⟩
     rfl
    ·exact ⟨Nat.zero_le _, rfl⟩
    ·rintro ⟨j, n⟩ hok22 Q22 n22 e22 r22
     obtain ⟨hj1, hn⟩ := hok22
     simp only [] at hj1 hn ⊢
     have hnb : n ≤ j := by rw [hn]; exact Nat.le_trans (List.length_filter_le ..) (List.length_take_le ..)
     refine v_seqR [3,10,11,13,14,39,40,41,45,46,47,48] ?_; intro K23 k23
     refine zBinOp ⟨?_⟩
     refine k23 _ ?_
     refine zk ⟨?_⟩
     refine v_seq ?_; intro Q24 n24 e24 r24
     refine v_condS _ rfl ?_ ?_
     ·intro hc2
      have hlj : j < wr.length := by simpa using hc2
      obtain ⟨⟨y0, y1⟩, hy⟩ : ∃ x : Int × Int, wr[j]? = some x := ⟨wr[j]'(by omega), List.getElem?_eq_getElem (by omega)⟩
      have hcs := cntY_step (n := x0) hy
      refine v_skip ?_
      refine n24 _ _ (weak_keep [3, 10, 11, 13, 14, 39, 40, 41, 45, 46, 47] _) ?_
      refine zk ⟨?_⟩
      refine v_seq ?_; intro Q26 n26 e26 r26
      refine v_block ?_; intro Q27 n27 x27 e27 r27
      refine v_seqR [3,10,11,13,14,16,39,40,41,45,46,47] ?_; intro K28 k28
      have F := Fc.mk (And.intro (fun f => getD_map (f := f) hx) (fun f => getD_map (f := f) hy))
      refine zIndexAddr ⟨?_⟩
      refine zLoad ⟨?_⟩
      refine zAlloc ⟨?_⟩
      refine zStore ⟨?_⟩
      refine k28 _ ?_
      refine zk ⟨?_⟩
      refine v_seqR [3,10,11,13,14,39,40,41,45,46,47,55] ?_; intro K29 k29
      refine zFieldAddr ⟨?_⟩
      refine zLoad ⟨?_⟩
      refine zFieldAddr ⟨?_⟩
      refine zLoad ⟨?_⟩
      refine zBinOp ⟨?_⟩
      refine k29 _ ?_
      refine zk ⟨?_⟩
      refine v_condS _ rfl ?_ ?_
      ·intro hc3
       refine v_region ?_; intro K31 k31
       refine zMove ⟨?_⟩
       refine zBinOpW ⟨?_⟩
       refine zAssign ⟨?_⟩
       refine k31 _ ?_
       refine n27 _ ?_
       refine n26 _ _ (weak_keep [3, 10, 11, 13, 14, 39, 40, 41, 45, 46, 47] _) ?_
       refine zk ⟨?_⟩
       refine v_region ?_; intro K32 k32
       refine zBinOpW ⟨?_⟩
       refine zMove ⟨?_⟩
       refine k32 _ ?_
       refine n22 _ (j + 1, n + 1) ?_ ?_ ?_
       ·refine weak_bothS [3, 10, 11, 13, 14, 39, 40, 41, 45, 46, 47] [0, 1, 2] ⟨?_⟩
        rfl
       ·exact ⟨hlj, by show n + 1 = _; rw [hcs, ← hn, if_pos hc3]⟩
       ·show _ < _; show wr.length - (j + 1) < wr.length - j; omega
      ·intro hc3
       refine v_skip ?_
       refine n27 _ ?_
       refine n26 _ _ (weak_keep [3, 10, 11, 13, 14, 39, 40, 41, 45, 46, 47] _) ?_
       refine zk ⟨?_⟩
       refine v_region ?_; intro K33 k33
       refine zBinOpW ⟨?_⟩
       refine zMove ⟨?_⟩
       refine k33 _ ?_
       refine n22 _ (j + 1, n) ?_ ?_ ?_
       ·refine weak_bothS [3, 10, 11, 13, 14, 39, 40, 41, 45, 46, 47] [0, 1, 2] ⟨?_⟩
        rfl
       ·exact ⟨hlj, by show n = _; rw [hcs, ← hn, if_neg hc3]; rfl⟩
       ·show _ < _; show wr.length - (j + 1) < wr.length - j; omega
     ·intro hc2
      have hje : wr.length ≤ j := by simpa using hc2
      have hcn : noisyP wr most (x0, x1, x2, x3) = decide (most < (n : Int)) := by rw [noisyP, hn, List.take_of_length_le hje]
      refine v_exit ?_
      refine e24 _ _ ?_
      refine e22 _ _ ?_
      refine x21 _ ?_
      refine n19 _ _ (weak_keep [3, 10, 11, 13, 14, 39, 40, 41] _) ?_
      refine zk ⟨?_⟩
      refine v_seqR [3,10,11,13,39,40,41,61] ?_; intro K34 k34
      refine zMove ⟨?_⟩
      refine zMove ⟨?_⟩
      refine zBinOp ⟨?_⟩
      refine k34 _ ?_
      refine zk ⟨?_⟩
      refine v_condS _ rfl ?_ ?_
      ·intro hc4
       refine v_region ?_; intro K36 k36
       refine zMove ⟨?_⟩
       refine zFieldAddr ⟨?_⟩
       refine zLoad ⟨?_⟩
       refine zBuildSlice ⟨?_⟩
       refine zAppend ⟨?_⟩
       refine zAssign ⟨?_⟩
       refine k36 _ ?_
       refine n16 _ ?_
       refine n15 _ _ (weak_keep [3, 10, 11, 39, 40, 41] _) ?_
       refine zk ⟨?_⟩
       refine v_region ?_; intro K37 k37
       refine zBinOpW ⟨?_⟩
       refine zMove ⟨?_⟩
       refine k37 _ ?_
       refine n11 _ (i + 1, acc ++ [x0]) ?_ ?_ ?_
       ·refine weak_bothS [3, 10, 11, 39, 40, 41] [4, 1] ⟨?_⟩
        rw [snoc_zone]; rfl
       ·exact ⟨hlt, by show (acc ++ _).length ≤ i + 1; simp; omega, by show acc ++ _ = _; rw [hst, ← hR, hcn, if_pos (decide_eq_true hc4)]⟩
       ·show _ < _; show l.length - (i + 1) < l.length - i; omega
      ·intro hc4
       refine v_skip ?_
       refine n16 _ ?_
       refine n15 _ _ (weak_keep [3, 10, 11, 39, 40, 41] _) ?_
       refine zk ⟨?_⟩
       refine v_region ?_; intro K38 k38
       refine zBinOpW ⟨?_⟩
       refine zMove ⟨?_⟩
       refine k38 _ ?_
       refine n11 _ (i + 1, acc) ?_ ?_ ?_
       ·refine weak_bothS [3, 10, 11, 39, 40, 41] [0, 1] ⟨?_⟩
        rfl
       ·exact ⟨hlt, by show acc.length ≤ i + 1; omega, by show acc = _; rw [hst, ← hR, hcn, if_neg (by simp; omega), List.append_nil]⟩
       ·show _ < _; show l.length - (i + 1) < l.length - i; omega
   ·intro hc1
    refine v_exit ?_
    refine e13 _ _ ?_
    refine e11 _ _ ?_
    refine x10 _ ?_
    refine n8 _ _ (weak_keep [11] _) ?_
    refine zk ⟨?_⟩
    refine v_seqR [8,9] ?_; intro K39 k39
    refine zMove ⟨?_⟩
    refine zAssign ⟨?_⟩
    refine zAssign ⟨?_⟩
    refine k39 _ ?_
    refine zk ⟨?_⟩
    refine v_ret ?_
    refine r0 _ ?_
    refine zf ⟨?_⟩
    have hend : acc = noisyOf l wr most := by rw [hR, List.take_of_length_le (by omega)]
    rw [show noisyR l s within most = acc by rw [noisyR, hask, hend, hwr]; rfl, hask]
    exact ret_ref_tup rfl rfl rfl (.inl rfl)
theorem str_digit {n : Nat} (h : n < 10) : strOf [IntKind.u8.wrap (48 + (n : Int))] = ⟨#[UInt8.ofNat (48 + n)]⟩ := by
  have e : IntKind.u8.wrap (48 + (n : Int)) = ((48 + n : Nat) : Int) := by
    simp only [IntKind.wrap, IntKind.bits, IntKind.signed]
    simp
    omega
  rw [e]
  rfl

set_option maxHeartbeats 1000000 in
theorem l1Num_step (n : Nat) (hn : n < 1000000000) (ih : ∀ m, m < n → Con Tryd.prog 104 [.int .i64 (Nat.cast m)] [] (.str (numB m)) []) : Con Tryd.prog 104 [.int .i64 (Nat.cast n)] [] (.str (numB n)) [] := by
 refine v_con [.tmp 2] [] Tryd.func104 rfl rfl rfl (by simp [Tryd.ntmps104]) ?_
 intro Q0 n0 r0
 simp only [Tryd.ntmps104, envFrom, Nat.reduceAdd]
 have T := Tys.mk (And.intro Ty.t3 (And.intro Ty.t5 (And.intro Ty.t9 Ty.t43)))
 have F := Fc.mk True.intro
 refine v_seqR [0] ?_; intro K1 k1
 refine zAssign ⟨?_⟩
 refine k1 _ ?_
 refine zk ⟨?_⟩
 refine v_seq ?_; intro Q2 n2 e2 r2
 refine v_seqR [0,4] ?_; intro K3 k3
 refine zMove ⟨?_⟩
 refine zBinOp ⟨?_⟩
 refine k3 _ ?_
 refine zk ⟨?_⟩
 refine v_condS _ rfl ?_ ?_
 ·intro hc0
  have h10 : n < 10 := by omega
  refine v_seqR [2] ?_; intro K5 k5
  refine zMove ⟨?_⟩
  refine zBinOpW ⟨?_⟩
  refine zConvert ⟨?_⟩
  refine zBuildSlice ⟨?_⟩
  refine zConvert ⟨?_⟩
  refine zAssign ⟨?_⟩
  refine k5 _ ?_
  refine zk ⟨?_⟩
  refine v_ret ?_
  refine r2 _ ?_
  refine r0 _ ?_
  refine zf ⟨?_⟩
  exact ret_pure rfl (by rw [str_digit h10, numB_lt h10]) (.inl rfl)
 ·intro hc0
  have h10 : ¬ n < 10 := by omega
  have hq : (n : Int).tdiv 10 = ((n / 10 : Nat) : Int) := rfl
  have hm : (n : Int).tmod 10 = ((n % 10 : Nat) : Int) := rfl
  have hm10 : n % 10 < 10 := Nat.mod_lt _ (by omega)
  have hsz : (numB (n / 10)).size ≤ 9 := numB_size 9 (n / 10) (by omega) (by omega)
  have hst := str_digit hm10
  have hz : ∀ b : UInt8, (ByteArray.mk #[b]).size = 1 := fun _ => rfl
  refine v_skip ?_
  refine n2 _ _ (weak_keep [0] _) ?_
  refine zk ⟨?_⟩
  refine v_seq ?_; intro Q6 n6 e6 r6
  refine v_draw (by kernel_rfl) ?_; intro K7 q7 k7
  show aAny _ _ _ _ 11 (Array.replicate 11 false) _
  have F := Fc.mk (And.intro hq (And.intro hm (And.intro hst hz)))
  refine zdMove q7 true 0 10 ?_
  refine zdBinOpW q7 true 1 11 ?_
  refine zdMove q7 true 3 13 ?_
  refine zdBinOp q7 true 4 14 ?_
  refine zdBinOpW q7 true 5 15 ?_
  refine zdConvert q7 true 6 16 ?_
  refine aAny_two 2 7 rfl rfl (by kernel_rfl) ?_ ?_
  ·refine zsc (ih (n / 10) (by omega)) ⟨?_⟩
   refine zoBuildSlice 7 ⟨?_⟩
   refine zdConvertY q7 true 8 18 ?_
   refine zdBinOpW q7 true 9 19 ?_
   refine zoAssign 10 ⟨?_⟩
   refine aAny_done (by kernel_rfl) ?_
   refine k7 _ ?_
   refine n6 _ _ (weak_keep [2] _) ?_
   refine zk ⟨?_⟩
   refine v_ret ?_
   refine r0 _ ?_
   refine zf ⟨?_⟩
   exact ret_pure rfl (by rw [numB_ge h10]) (.inl rfl)
  ·refine zsBuildSlice ⟨?_⟩
   refine zdConvertY q7 true 8 18 ?_
   refine zoc 2 (ih (n / 10) (by omega)) ⟨?_⟩
   refine zdBinOpW q7 true 9 19 ?_
   refine zoAssign 10 ⟨?_⟩
   refine aAny_done (by kernel_rfl) ?_
   refine k7 _ ?_
   refine n6 _ _ (weak_keep [2] _) ?_
   refine zk ⟨?_⟩
   refine v_ret ?_
   refine r0 _ ?_
   refine zf ⟨?_⟩
   exact ret_pure rfl (by rw [numB_ge h10]) (.inl rfl)
theorem l1Num_con (n : Int) (h : 0 ≤ n ∧ n < 1000000000) : Con Tryd.prog 104 [.int .i64 n] [] (.str (numB n.toNat)) [] := by
  have key : ∀ k : Nat, k < 1000000000 → Con Tryd.prog 104 [.int .i64 (Nat.cast k)] [] (.str (numB k)) [] := by
    intro k
    induction k using Nat.strongRecOn with
    | ind k ih => exact fun hk => l1Num_step k hk fun m hm => ih m hm (by omega)
  obtain ⟨m, hm⟩ : ∃ m : Nat, n = (m : Int) := ⟨n.toNat, by omega⟩
  subst hm
  rw [Int.toNat_natCast]
  exact key m (by omega)

theorem Tryd.pow10 : (Tryd.prog.globalNamed "internal/strconv.uint64pow10").isSome = true := by kernel_rfl
theorem itoa_con (n : Int) (h : 0 ≤ n ∧ n < 1000000000) : Con Tryd.prog 108 [.int .i64 n] [] (.str (numB n.toNat)) [] := by
  rw [← itoa_nat h.1]
  obtain ⟨g, hg⟩ := Option.isSome_iff_exists.1 Tryd.pow10
  exact con_int1 ⟨_, Tryd.func108, rfl, rfl⟩ (fun w μ => .str _) (fun w ht => Tryd.strconv_Itoa n (by omega) (by omega) w (tabIs_of hg ht))

theorem joinB_two (a b s : ByteArray) : joinB [a, b] s = a ++ s ++ b := by
  unfold joinB Lib.join
  apply ByteArray.ext
  simp [List.intercalate, ByteArray.data_append]
def catB (ws : List ByteArray) : ByteArray := ws.foldl (· ++ ·) .empty
theorem foldB_acc : ∀ (ws : List ByteArray) (s : ByteArray), ws.foldl (· ++ ·) s = s ++ catB ws
  | [], s => by simp [catB]
  | w :: ws, s => by
    have h1 := foldB_acc ws (s ++ w)
    have h2 := foldB_acc ws (ByteArray.empty ++ w)
    unfold catB
    rw [List.foldl_cons, List.foldl_cons, h1, h2, ByteArray.empty_append, ByteArray.append_assoc]
theorem joinB_cat (ws : List ByteArray) : joinB ws .empty = catB ws := by
  have key : ∀ ws : List ByteArray, (catB ws).data.toList = (ws.map (·.data.toList)).flatten := by
    intro ws
    induction ws with
    | nil => rfl
    | cons w ws ih =>
      have := foldB_acc ws (ByteArray.empty ++ w)
      unfold catB at ih ⊢
      rw [List.foldl_cons, this, ByteArray.empty_append, ByteArray.data_append, Array.toList_append]
      unfold catB
      rw [ih]; rfl
  have h2 : ∀ ws : List (List UInt8), Lib.join ws [] = ws.flatten := by
    intro ws
    unfold Lib.join
    induction ws with
    | nil => rfl
    | cons w ws ih => cases ws <;> simp_all [List.intercalate]
  unfold joinB
  apply ByteArray.ext
  apply Array.ext'
  show Lib.join (ws.map (·.data.toList)) [] = _
  rw [h2, key]
theorem join_size : ∀ (ws : List ByteArray) (sep : ByteArray) (m : Nat), (∀ w ∈ ws, w.size ≤ m) → (Lib.join (ws.map (·.data.toList)) sep.data.toList).length ≤ ws.length * (m + sep.size)
  | [], _, _, _ => Nat.zero_le _
  | w :: ws, sep, m, h => by
    have h1 := h w (List.mem_cons_self ..)
    have h2 := join_size ws sep m fun x hx => h x (List.mem_cons_of_mem _ hx)
    have e1 : w.data.toList.length = w.size := rfl
    have e2 : sep.data.toList.length = sep.size := rfl
    unfold Lib.join at h2 ⊢
    rw [List.length_cons, Nat.add_mul]
    cases ws with
    | nil => simp [List.intercalate] at h2 ⊢; omega
    | cons y ws =>
      simp [List.intercalate] at h2 ⊢
      omega
theorem joinB_size (ws : List ByteArray) (sep : ByteArray) (m : Nat) (h : ∀ w ∈ ws, w.size ≤ m) : (joinB ws sep).size ≤ ws.length * (m + sep.size) := by
  have := join_size ws sep m h
  have e : (joinB ws sep).size = (Lib.join (ws.map (·.data.toList)) sep.data.toList).length := by
    show (Lib.join (ws.map (·.data.toList)) sep.data.toList).toArray.size = _
    exact List.size_toArray
  rw [e]; exact this
def numS (l : List Int) : List ByteArray := l.map fun n => numB n.toNat
theorem numS_size {l : List Int} (h : ∀ n ∈ l, 0 ≤ n ∧ n < 1000000000) : ∀ w ∈ numS l, w.size ≤ 9 := by
  intro w hw
  obtain ⟨n, hn, rfl⟩ := List.mem_map.1 hw
  have := h n hn
  exact numB_size 9 _ (by omega) (by omega)
theorem snoc_str {a : List ByteArray} {x : ByteArray} : a.map V.str ++ [V.str x] = (a ++ [x]).map V.str := by simp

theorem join_con (ws : List ByteArray) (sep : ByteArray) (hl : ws.length ≤ 1048576) (hw : ∀ w ∈ ws, w.size ≤ 1048576) (hs : sep.size ≤ 1048576) : Con Tryd.prog 203 [.sl (ws.map V.str), .str sep] [] (.str (joinB ws sep)) [] := by
  have hj := join_size ws sep 1048576 hw
  have hb : (Lib.join (ws.map (·.data.toList)) sep.data.toList).length ≤ 140737488355328 := Nat.le_trans hj (Nat.le_trans (Nat.mul_le_mul hl (Nat.add_le_add_left hs _)) (by decide))
  exact con_join ⟨_, Tryd.func203, rfl, rfl⟩ (fun a c w => Tryd.strings_Join_none a c sep w) (fun b o c w h1 h2 h3 => Tryd.strings_Join b o c ws sep w h1 h2 (by omega) h3 hb)

set_option maxHeartbeats 1000000 in
theorem joinNumbers_con (l : List Int) (sep : ByteArray) (hl : l.length ≤ 1048576) (hn : ∀ n ∈ l, 0 ≤ n ∧ n < 1000000000) (hs : sep.size ≤ 1048576) : Con Tryd.prog 113 [.str sep, .sl (l.map (V.int .i64))] [] (.str (joinB (numS l) sep)) [] := by
 refine v_con [.tmp 4] [] Tryd.func113 rfl rfl rfl (by simp [Tryd.ntmps113]) ?_
 intro Q0 n0 r0
 simp only [Tryd.ntmps113, envFrom, Nat.reduceAdd]
 have T := Tys.mk (And.intro Ty.t3 (And.intro Ty.t9 (And.intro Ty.t48 Ty.t80)))
 have F := Fc.mk True.intro
 refine v_seqR [0,1] ?_; intro K1 k1
 refine zAssign ⟨?_⟩
 refine k1 _ ?_
 refine zk ⟨?_⟩
 refine v_seqR [0,1,5] ?_; intro K2 k2
 refine zAssign ⟨?_⟩
 refine k2 _ ?_
 refine zk ⟨?_⟩
 refine v_seq ?_; intro Q3 n3 e3 r3
 refine v_seqR [0,5,8,9,10] ?_; intro K4 k4
 refine zMove ⟨?_⟩
 refine zLen ⟨?_⟩
 refine zMove ⟨?_⟩
 refine k4 _ ?_
 refine zk ⟨?_⟩
 refine v_block ?_; intro Q5 n5 x5 e5 r5
 refine v_loop (fun p => ⟨[(0, .str sep), (5, .ref 0), (8, .sl (l.map (V.int .i64))), (9, .int .i64 l.length), (10, .int .i64 (Nat.cast p.1))], [.arr (p.2.map V.str) .flat], false, 23, 0⟩) (fun p => p.1 ≤ l.length ∧ p.2 = numS (l.take p.1)) (fun p => l.length - p.1) ((0, []) : Nat × List ByteArray) ?_ ?_ ?_
 ·refine weak_bothS [0, 5, 8, 9, 10] [0] ⟨?_⟩
  rfl
 ·exact ⟨Nat.zero_le _, rfl⟩
 ·rintro ⟨i, acc⟩ hok6 Q6 n6 e6 r6
  obtain ⟨hi1, hR⟩ := hok6
  simp only [] at hi1 hR ⊢
  have hal : acc.length ≤ 1048576 := by rw [hR, numS, List.length_map, List.length_take]; omega
  have haw : ∀ w ∈ acc, w.size ≤ 1048576 := by rw [hR]; intro w hw; exact Nat.le_trans (numS_size (fun n h => hn n (List.mem_of_mem_take h)) w hw) (by omega)
  refine v_seqR [0,5,8,9,10,11] ?_; intro K7 k7
  refine zBinOp ⟨?_⟩
  refine k7 _ ?_
  refine zk ⟨?_⟩
  refine v_seq ?_; intro Q8 n8 e8 r8
  refine v_condS _ rfl ?_ ?_
  ·intro hc0
   have hlt : i < l.length := by omega
   obtain ⟨x, hx⟩ : ∃ x, l[i]? = some x := ⟨l[i], List.getElem?_eq_getElem hlt⟩
   have hxn := hn x (List.mem_of_getElem? hx)
   refine v_skip ?_
   refine n8 _ _ (weak_keep [0, 5, 8, 9, 10] _) ?_
   refine zk ⟨?_⟩
   refine v_seq ?_; intro Q10 n10 e10 r10
   refine v_block ?_; intro Q11 n11 x11 e11 r11
   refine v_seqR [0,5,7,8,9,10] ?_; intro K12 k12
   have F := Fc.mk (fun f => getD_map (f := f) hx)
   refine zIndexAddr ⟨?_⟩
   refine zLoad ⟨?_⟩
   refine zAssign ⟨?_⟩
   refine k12 _ ?_
   refine zk ⟨?_⟩
   refine v_region ?_; intro K13 k13
   refine zMove ⟨?_⟩
   refine zMove ⟨?_⟩
   refine zc (itoa_con x hxn) ⟨?_⟩
   refine zBuildSlice ⟨?_⟩
   refine zAppend ⟨?_⟩
   refine zAssign ⟨?_⟩
   refine k13 _ ?_
   refine n11 _ ?_
   refine n10 _ _ (weak_keep [0, 5, 8, 9, 10] _) ?_
   refine zk ⟨?_⟩
   refine v_region ?_; intro K14 k14
   refine zBinOpW ⟨?_⟩
   refine zMove ⟨?_⟩
   refine k14 _ ?_
   refine n6 _ (i + 1, acc ++ [numB x.toNat]) ?_ ?_ ?_
   ·refine weak_bothS [0, 5, 8, 9, 10] [2] ⟨?_⟩
    rw [snoc_str]; rfl
   ·exact ⟨hlt, by show acc ++ _ = numS (l.take (i + 1)); rw [hR, List.take_add_one, hx]; simp [numS]⟩
   ·show _ < _; show l.length - (i + 1) < l.length - i; omega
  ·intro hc0
   have hend : acc = numS l := by rw [hR, List.take_of_length_le (by omega)]
   refine v_exit ?_
   refine e8 _ _ ?_
   refine e6 _ _ ?_
   refine x5 _ ?_
   refine n3 _ _ (weak_keep [0, 5] _) ?_
   refine zk ⟨?_⟩
   refine v_seqR [4] ?_; intro K15 k15
   refine zMove ⟨?_⟩
   refine zMove ⟨?_⟩
   refine zc (join_con acc sep hal haw hs) ⟨?_⟩
   refine zAssign ⟨?_⟩
   refine k15 _ ?_
   refine zk ⟨?_⟩
   refine v_ret ?_
   refine r0 _ ?_
   refine zf ⟨?_⟩
   exact ret_pure rfl (by rw [hend]) (.inl rfl)
def kindB (k : Int) : ByteArray := if k = 0 then (⟨#[115]⟩ : ByteArray) else if k = 1 then (⟨#[104]⟩ : ByteArray) else (⟨#[109]⟩ : ByteArray)
def dBase (x : (Int × Int × Int × Bool)) : ByteArray := numB x.1.toNat ++ (⟨#[47]⟩ : ByteArray) ++ numB x.2.1.toNat ++ kindB x.2.2.1
def dStep (s : ByteArray) (x : (Int × Int × Int × Bool)) : ByteArray := if x.2.2.2 = true then s ++ dBase x ++ (⟨#[33]⟩ : ByteArray) ++ (⟨#[59]⟩ : ByteArray) else s ++ dBase x ++ (⟨#[59]⟩ : ByteArray)
def dTexts (l : List (Int × Int × Int × Bool)) : ByteArray := l.foldl dStep .empty
def dTextR (l : List (Int × Int × Int × Bool)) : ByteArray := if dsB l = true then dTexts l else .empty
theorem dTexts_step {l : List (Int × Int × Int × Bool)} {i : Nat} {x : (Int × Int × Int × Bool)} (h : l[i]? = some x) : dTexts (l.take (i + 1)) = dStep (dTexts (l.take i)) x := by
  rw [dTexts, List.take_add_one, h, List.foldl_append]; rfl
theorem kind_cases {k : Int} (h : 0 ≤ k ∧ k ≤ 2) : (⟨#[115, 104, 109]⟩ : ByteArray).extract k.toNat (k + 1).toNat = kindB k ∧ [V.str (⟨#[115]⟩ : ByteArray), V.str (⟨#[104]⟩ : ByteArray), V.str (⟨#[109]⟩ : ByteArray)].getD k.toNat .any = .str (kindB k) ∧ (kindB k).size = 1 := by
  have : k = 0 ∨ k = 1 ∨ k = 2 := by omega
  rcases this with rfl | rfl | rfl <;> exact ⟨rfl, rfl, rfl⟩
theorem dText_facts {l : List (Int × Int × Int × Bool)} (h : dsB l = true) {x : (Int × Int × Int × Bool)} (hx : x ∈ l) : (0 ≤ x.1 ∧ x.1 < 1000) ∧ (0 ≤ x.2.1 ∧ x.2.1 < 10) ∧ (0 ≤ x.2.2.1 ∧ x.2.2.1 ≤ 2) := by
  rw [dsB, Bool.and_eq_true] at h
  have ho := chain_ok h.1 x hx
  simp only [dOne, Bool.and_eq_true, decide_eq_true_eq] at ho
  omega
theorem dText_size {x : (Int × Int × Int × Bool)} (h : (0 ≤ x.1 ∧ x.1 < 1000) ∧ (0 ≤ x.2.1 ∧ x.2.1 < 10) ∧ (0 ≤ x.2.2.1 ∧ x.2.2.1 ≤ 2)) : (numB x.1.toNat).size ≤ 3 ∧ (numB x.2.1.toNat).size ≤ 1 ∧ (dBase x).size ≤ 6 := by
  have h1 := numB_size 3 x.1.toNat (by omega) (by omega)
  have h2 := numB_size 1 x.2.1.toNat (by omega) (by omega)
  have h3 := (kind_cases h.2.2).2.2
  have e : ∀ b : UInt8, (ByteArray.mk #[b]).size = 1 := fun _ => rfl
  refine ⟨h1, h2, ?_⟩
  simp only [dBase, ByteArray.size_append, e]
  omega

set_option maxHeartbeats 1000000 in
theorem specDetectorsText_con (l : List (Int × Int × Int × Bool)) (hl : l.length ≤ 1048576) : Con Tryd.prog 16 [.sl (l.map (fun t : Int × Int × Int × Bool => V.agg [V.int .i64 t.1, V.int .i64 t.2.1, V.int .i64 t.2.2.1, V.bool t.2.2.2]))] [] (.tup [.str (dTextR l), .bool (dsB l)]) [] := by
 refine v_con [.tmp 2, .tmp 3] [] Tryd.func16 rfl rfl rfl (by simp [Tryd.ntmps16]) ?_
 intro Q0 n0 r0
 simp only [Tryd.ntmps16, envFrom, Nat.reduceAdd]
 have T := Tys.mk (And.intro Ty.t3 (And.intro Ty.t4 (And.intro Ty.t9 (And.intro Ty.t33 Ty.t61))))
 have F := Fc.mk True.intro
 refine v_seqR [0] ?_; intro K1 k1
 refine zAssign ⟨?_⟩
 refine zAssign ⟨?_⟩
 refine k1 _ ?_
 refine zk ⟨?_⟩
 refine v_seq ?_; intro Q2 n2 e2 r2
 refine v_seqR [0,9] ?_; intro K3 k3
 refine zMove ⟨?_⟩
 refine zc (alGood_con l hl) ⟨?_⟩
 refine zUnOp ⟨?_⟩
 refine k3 _ ?_
 refine zk ⟨?_⟩
 refine v_condS _ rfl ?_ ?_
 ·intro hc0
  refine v_seqR [2,3] ?_; intro K5 k5
  refine zAssign ⟨?_⟩
  refine zAssign ⟨?_⟩
  refine k5 _ ?_
  refine zk ⟨?_⟩
  refine v_ret ?_
  refine r2 _ ?_
  refine r0 _ ?_
  refine zf ⟨?_⟩
  exact ret_pure rfl (by rw [dTextR, hc0]; rfl) (.inl rfl)
 ·intro hc0
  have hg : dsB l = true := hc0
  have hll : l.length ≤ 20 := by rw [dsB, Bool.and_eq_true, decide_eq_true_eq] at hg; omega
  refine v_skip ?_
  refine n2 _ _ (weak_keep [0] _) ?_
  refine zk ⟨?_⟩
  refine v_seqR [0,4] ?_; intro K6 k6
  refine zAssign ⟨?_⟩
  refine k6 _ ?_
  refine zk ⟨?_⟩
  refine v_seq ?_; intro Q7 n7 e7 r7
  refine v_seqR [4,10,11,12] ?_; intro K8 k8
  refine zMove ⟨?_⟩
  refine zLen ⟨?_⟩
  refine zMove ⟨?_⟩
  refine k8 _ ?_
  refine zk ⟨?_⟩
  refine v_block ?_; intro Q9 n9 x9 e9 r9
  refine v_loop (fun p => ⟨[(4, .str p.2), (10, .sl (l.map (fun t : Int × Int × Int × Bool => V.agg [V.int .i64 t.1, V.int .i64 t.2.1, V.int .i64 t.2.2.1, V.bool t.2.2.2]))), (11, .int .i64 l.length), (12, .int .i64 (Nat.cast p.1))], [], false, 41, 0⟩) (fun p => p.1 ≤ l.length ∧ p.2.size ≤ 8 * p.1 ∧ p.2 = dTexts (l.take p.1)) (fun p => l.length - p.1) ((0, .empty) : Nat × ByteArray) ?_ ?_ ?_
  ·refine weak_of [4, 10, 11, 12] ?_
   simp only [keep_mk, keepE_nil, keepE_cons, look_cons, look_nil, Nat.reduceEqDiff, reduceIte]
   rfl
  ·exact ⟨Nat.zero_le _, Nat.le_refl _, rfl⟩
  ·rintro ⟨i, st⟩ hok10 Q10 n10 e10 r10
   obtain ⟨hi1, hsz, hR⟩ := hok10
   simp only [] at hi1 hsz hR ⊢
   refine v_seqR [4,10,11,12,13] ?_; intro K11 k11
   refine zBinOp ⟨?_⟩
   refine k11 _ ?_
   refine zk ⟨?_⟩
   refine v_seq ?_; intro Q12 n12 e12 r12
   refine v_condS _ rfl ?_ ?_
   ·intro hc1
    have hlt : i < l.length := by omega
    obtain ⟨⟨x0, x1, x2, x3⟩, hx⟩ : ∃ x : Int × Int × Int × Bool, l[i]? = some x := ⟨l[i]'(by omega), List.getElem?_eq_getElem (by omega)⟩
    have hf := dText_facts hg (List.mem_of_getElem? hx)
    have hp := dText_size hf
    have hst := dTexts_step hx
    have hk := kind_cases hf.2.2
    simp only [] at hf hp hk
    obtain ⟨hk1, hk2, hk3⟩ := hk
    have hz1 : (⟨#[47]⟩ : ByteArray).size = 1 := rfl
    have hz2 : (⟨#[33]⟩ : ByteArray).size = 1 := rfl
    have hz3 : (⟨#[59]⟩ : ByteArray).size = 1 := rfl
    have hz4 : (⟨#[115, 104, 109]⟩ : ByteArray).size = 3 := rfl
    refine v_skip ?_
    refine n12 _ _ (weak_keep [4, 10, 11, 12] _) ?_
    refine zk ⟨?_⟩
    refine v_seq ?_; intro Q14 n14 e14 r14
    refine v_block ?_; intro Q15 n15 x15 e15 r15
    refine v_seqR [4,6,10,11,12] ?_; intro K16 k16
    have F := Fc.mk (And.intro (fun f => getD_map (f := f) hx) (And.intro @ByteArray.size_append (And.intro hz1 (And.intro hz2 (And.intro hz3 (And.intro hz4 (And.intro hk3 hk1)))))))
    refine zIndexAddr ⟨?_⟩
    refine zLoad ⟨?_⟩
    refine zAlloc ⟨?_⟩
    refine zStore ⟨?_⟩
    refine k16 _ ?_
    refine zk ⟨?_⟩
    refine v_seq ?_; intro Q17 n17 e17 r17
    refine v_draw (by kernel_rfl) ?_; intro K18 q18 k18
    show aAny _ _ _ _ 18 (Array.replicate 18 false) _
    refine zdMove q18 true 0 16 ?_
    refine zdFieldAddr q18 true 1 17 ?_
    refine zdLoad q18 true 2 18 ?_
    refine zdFieldAddr q18 true 5 21 ?_
    refine zdLoad q18 true 6 22 ?_
    refine zdFieldAddr q18 true 9 25 ?_
    refine zdLoad q18 true 10 26 ?_
    refine zdFieldAddr q18 true 11 27 ?_
    refine zdLoad q18 true 12 28 ?_
    refine zdBinOpW q18 true 13 29 ?_
    refine zdSlice q18 true 14 30 ?_
    refine zoc 3 (l1Num_con x0 (by omega)) ⟨?_⟩
    refine zdBinOpW q18 true 4 20 ?_
    refine zoc 7 (l1Num_con x1 (by omega)) ⟨?_⟩
    refine zdBinOpW q18 true 8 24 ?_
    refine zdBinOpW q18 true 15 31 ?_
    refine zdBinOpW q18 true 16 32 ?_
    refine zoAssign 17 ⟨?_⟩
    refine aAny_done (by kernel_rfl) ?_
    refine k18 _ ?_
    refine n17 _ _ (weak_keep [4, 6, 10, 11, 12] _) ?_
    refine zk ⟨?_⟩
    refine v_seq ?_; intro Q19 n19 e19 r19
    refine v_seqR [4,10,11,12,34] ?_; intro K20 k20
    refine zFieldAddr ⟨?_⟩
    refine zLoad ⟨?_⟩
    refine k20 _ ?_
    refine zk ⟨?_⟩
    refine v_condS _ rfl ?_ ?_
    ·intro hc2
     refine v_region ?_; intro K22 k22
     refine zMove ⟨?_⟩
     refine zBinOpW ⟨?_⟩
     refine zAssign ⟨?_⟩
     refine k22 _ ?_
     refine n19 _ _ (weak_keep [4, 10, 11, 12] _) ?_
     refine zk ⟨?_⟩
     refine v_region ?_; intro K23 k23
     refine zMove ⟨?_⟩
     refine zBinOpW ⟨?_⟩
     refine zAssign ⟨?_⟩
     refine k23 _ ?_
     refine n15 _ ?_
     refine n14 _ _ (weak_keep [4, 10, 11, 12] _) ?_
     refine zk ⟨?_⟩
     refine v_region ?_; intro K24 k24
     refine zBinOpW ⟨?_⟩
     refine zMove ⟨?_⟩
     refine k24 _ ?_
     refine n10 _ (i + 1, st ++ dBase (x0, x1, x2, x3) ++ (⟨#[33]⟩ : ByteArray) ++ (⟨#[59]⟩ : ByteArray)) ?_ ?_ ?_
     ·refine weak_bothS [4, 10, 11, 12] [] ⟨?_⟩
      rfl
     ·exact ⟨hlt, by show ByteArray.size (_ ++ _) ≤ 8 * (i + 1); simp only [ByteArray.size_append, hz2, hz3]; omega, by show _ ++ _ = _; rw [hst, ← hR, dStep, if_pos hc2]⟩
     ·show _ < _; show l.length - (i + 1) < l.length - i; omega
    ·intro hc2
     refine v_skip ?_
     refine n19 _ _ (weak_keep [4, 10, 11, 12] _) ?_
     refine zk ⟨?_⟩
     refine v_region ?_; intro K25 k25
     refine zMove ⟨?_⟩
     refine zBinOpW ⟨?_⟩
     refine zAssign ⟨?_⟩
     refine k25 _ ?_
     refine n15 _ ?_
     refine n14 _ _ (weak_keep [4, 10, 11, 12] _) ?_
     refine zk ⟨?_⟩
     refine v_region ?_; intro K26 k26
     refine zBinOpW ⟨?_⟩
     refine zMove ⟨?_⟩
     refine k26 _ ?_
     refine n10 _ (i + 1, st ++ dBase (x0, x1, x2, x3) ++ (⟨#[59]⟩ : ByteArray)) ?_ ?_ ?_
     ·refine weak_bothS [4, 10, 11, 12] [] ⟨?_⟩
      rfl
     ·exact ⟨hlt, by show ByteArray.size (_ ++ _) ≤ 8 * (i + 1); simp only [ByteArray.size_append, hz2, hz3]; omega, by show _ ++ _ = _; rw [hst, ← hR, dStep, if_neg (by simp [hc2])]⟩
     ·show _ < _; show l.length - (i + 1) < l.length - i; omega
   ·intro hc1
    refine v_exit ?_
    refine e12 _ _ ?_
    refine e10 _ _ ?_
    refine x9 _ ?_
    refine n7 _ _ (weak_keep [4] _) ?_
    refine zk ⟨?_⟩
    refine v_seqR [2,3] ?_; intro K27 k27
    refine zMove ⟨?_⟩
    refine zAssign ⟨?_⟩
    refine zAssign ⟨?_⟩
    refine k27 _ ?_
    refine zk ⟨?_⟩
    refine v_ret ?_
    refine r0 _ ?_
    refine zf ⟨?_⟩
    have hend : st = dTexts l := by rw [hR, List.take_of_length_le (by omega)]
    exact ret_pure rfl (by rw [dTextR, hg, hend]; rfl) (.inl rfl)
set_option maxHeartbeats 1000000 in
theorem implDetectorsText_con (l : List (Int × Int × Int × Bool)) (hl : l.length ≤ 1048576) : Con Tryd.prog 18 [.sl (l.map (fun t : Int × Int × Int × Bool => V.agg [V.int .i64 t.1, V.int .i64 t.2.1, V.int .i64 t.2.2.1, V.bool t.2.2.2]))] [] (.tup [.str (dTextR l), .bool (dsB l)]) [] := by
 refine v_con [.tmp 2, .tmp 3] [] Tryd.func18 rfl rfl rfl (by simp [Tryd.ntmps18]) ?_
 intro Q0 n0 r0
 simp only [Tryd.ntmps18, envFrom, Nat.reduceAdd]
 have T := Tys.mk (And.intro Ty.t3 (And.intro Ty.t4 (And.intro Ty.t9 (And.intro Ty.t33 (And.intro Ty.t48 (And.intro Ty.t61 Ty.t137))))))
 have F := Fc.mk True.intro
 refine v_seqR [0] ?_; intro K1 k1
 refine zAssign ⟨?_⟩
 refine zAssign ⟨?_⟩
 refine k1 _ ?_
 refine zk ⟨?_⟩
 refine v_seq ?_; intro Q2 n2 e2 r2
 refine v_seqR [0,9] ?_; intro K3 k3
 refine zMove ⟨?_⟩
 refine zc (areDetectors_con l hl) ⟨?_⟩
 refine zUnOp ⟨?_⟩
 refine k3 _ ?_
 refine zk ⟨?_⟩
 refine v_condS _ rfl ?_ ?_
 ·intro hc0
  refine v_seqR [2,3] ?_; intro K5 k5
  refine zAssign ⟨?_⟩
  refine zAssign ⟨?_⟩
  refine k5 _ ?_
  refine zk ⟨?_⟩
  refine v_ret ?_
  refine r2 _ ?_
  refine r0 _ ?_
  refine zf ⟨?_⟩
  exact ret_pure rfl (by rw [dTextR, hc0]; rfl) (.inl rfl)
 ·intro hc0
  have hg : dsB l = true := hc0
  have hll : l.length ≤ 20 := by rw [dsB, Bool.and_eq_true, decide_eq_true_eq] at hg; omega
  refine v_skip ?_
  refine n2 _ _ (weak_keep [0] _) ?_
  refine zk ⟨?_⟩
  refine v_seqR [0,4] ?_; intro K6 k6
  refine zAssign ⟨?_⟩
  refine k6 _ ?_
  refine zk ⟨?_⟩
  refine v_seq ?_; intro Q7 n7 e7 r7
  refine v_seqR [4,10,11,12] ?_; intro K8 k8
  refine zMove ⟨?_⟩
  refine zLen ⟨?_⟩
  refine zMove ⟨?_⟩
  refine k8 _ ?_
  refine zk ⟨?_⟩
  refine v_block ?_; intro Q9 n9 x9 e9 r9
  refine v_loop (fun p => ⟨[(4, .str p.2), (10, .sl (l.map (fun t : Int × Int × Int × Bool => V.agg [V.int .i64 t.1, V.int .i64 t.2.1, V.int .i64 t.2.2.1, V.bool t.2.2.2]))), (11, .int .i64 l.length), (12, .int .i64 (Nat.cast p.1))], [], false, 37, 0⟩) (fun p => p.1 ≤ l.length ∧ p.2.size ≤ 8 * p.1 ∧ p.2 = dTexts (l.take p.1)) (fun p => l.length - p.1) ((0, .empty) : Nat × ByteArray) ?_ ?_ ?_
  ·refine weak_of [4, 10, 11, 12] ?_
   simp only [keep_mk, keepE_nil, keepE_cons, look_cons, look_nil, Nat.reduceEqDiff, reduceIte]
   rfl
  ·exact ⟨Nat.zero_le _, Nat.le_refl _, rfl⟩
  ·rintro ⟨i, st⟩ hok10 Q10 n10 e10 r10
   obtain ⟨hi1, hsz, hR⟩ := hok10
   simp only [] at hi1 hsz hR ⊢
   refine v_seqR [4,10,11,12,13] ?_; intro K11 k11
   refine zBinOp ⟨?_⟩
   refine k11 _ ?_
   refine zk ⟨?_⟩
   refine v_seq ?_; intro Q12 n12 e12 r12
   refine v_condS _ rfl ?_ ?_
   ·intro hc1
    have hlt : i < l.length := by omega
    obtain ⟨⟨x0, x1, x2, x3⟩, hx⟩ : ∃ x : Int × Int × Int × Bool, l[i]? = some x := ⟨l[i]'(by omega), List.getElem?_eq_getElem (by omega)⟩
    have hf := dText_facts hg (List.mem_of_getElem? hx)
    have hp := dText_size hf
    have hst := dTexts_step hx
    have hk := kind_cases hf.2.2
    simp only [] at hf hp hk
    obtain ⟨hk1, hk2, hk3⟩ := hk
    have hz1 : (⟨#[47]⟩ : ByteArray).size = 1 := rfl
    have hz2 : (⟨#[33]⟩ : ByteArray).size = 1 := rfl
    have hz3 : (⟨#[59]⟩ : ByteArray).size = 1 := rfl
    have hz4 : (⟨#[115, 104, 109]⟩ : ByteArray).size = 3 := rfl
    refine v_skip ?_
    refine n12 _ _ (weak_keep [4, 10, 11, 12] _) ?_
    refine zk ⟨?_⟩
    refine v_seq ?_; intro Q14 n14 e14 r14
    refine v_block ?_; intro Q15 n15 x15 e15 r15
    refine v_seqR [4,6,10,11,12] ?_; intro K16 k16
    have F := Fc.mk (And.intro (fun f => getD_map (f := f) hx) (And.intro @ByteArray.size_append (And.intro hz1 (And.intro hz2 (And.intro hz3 (And.intro hz4 (And.intro hk3 hk2)))))))
    refine zIndexAddr ⟨?_⟩
    refine zLoad ⟨?_⟩
    refine zAlloc ⟨?_⟩
    refine zStore ⟨?_⟩
    refine k16 _ ?_
    refine zk ⟨?_⟩
    refine v_seq ?_; intro Q17 n17 e17 r17
    refine v_draw (by kernel_rfl) ?_; intro K18 q18 k18
    show aAny _ _ _ _ 14 (Array.replicate 14 false) _
    refine zdMove q18 true 0 16 ?_
    refine zdFieldAddr q18 true 1 17 ?_
    refine zdLoad q18 true 2 18 ?_
    refine zdFieldAddr q18 true 3 19 ?_
    refine zdLoad q18 true 4 20 ?_
    refine zdBuild q18 true 7 23 ?_
    refine zdFieldAddr q18 true 8 24 ?_
    refine zdLoad q18 true 9 25 ?_
    refine zdIndex q18 true 10 26 ?_
    refine zoBuildSlice 5 ⟨?_⟩
    refine zoc 6 ((by have q := joinNumbers_con [x0, x1] (⟨#[47]⟩ : ByteArray) (by simp) (by simp; omega) (by decide); rw [show numS [x0, x1] = [numB x0.toNat, numB x1.toNat] from rfl, joinB_two] at q; exact q)) ⟨?_⟩
    refine zdBinOpW q18 true 11 27 ?_
    refine zdBinOpW q18 true 12 28 ?_
    refine zoAssign 13 ⟨?_⟩
    refine aAny_done (by kernel_rfl) ?_
    refine k18 _ ?_
    refine n17 _ _ (weak_keep [4, 6, 10, 11, 12] _) ?_
    refine zk ⟨?_⟩
    refine v_seq ?_; intro Q19 n19 e19 r19
    refine v_seqR [4,10,11,12,30] ?_; intro K20 k20
    refine zFieldAddr ⟨?_⟩
    refine zLoad ⟨?_⟩
    refine k20 _ ?_
    refine zk ⟨?_⟩
    refine v_condS _ rfl ?_ ?_
    ·intro hc2
     refine v_region ?_; intro K22 k22
     refine zMove ⟨?_⟩
     refine zBinOpW ⟨?_⟩
     refine zAssign ⟨?_⟩
     refine k22 _ ?_
     refine n19 _ _ (weak_keep [4, 10, 11, 12] _) ?_
     refine zk ⟨?_⟩
     refine v_region ?_; intro K23 k23
     refine zMove ⟨?_⟩
     refine zBinOpW ⟨?_⟩
     refine zAssign ⟨?_⟩
     refine k23 _ ?_
     refine n15 _ ?_
     refine n14 _ _ (weak_keep [4, 10, 11, 12] _) ?_
     refine zk ⟨?_⟩
     refine v_region ?_; intro K24 k24
     refine zBinOpW ⟨?_⟩
     refine zMove ⟨?_⟩
     refine k24 _ ?_
     refine n10 _ (i + 1, st ++ dBase (x0, x1, x2, x3) ++ (⟨#[33]⟩ : ByteArray) ++ (⟨#[59]⟩ : ByteArray)) ?_ ?_ ?_
     ·refine weak_bothS [4, 10, 11, 12] [] ⟨?_⟩
      rfl
     ·exact ⟨hlt, by show ByteArray.size (_ ++ _) ≤ 8 * (i + 1); simp only [ByteArray.size_append, hz2, hz3]; omega, by show _ ++ _ = _; rw [hst, ← hR, dStep, if_pos hc2]⟩
     ·show _ < _; show l.length - (i + 1) < l.length - i; omega
    ·intro hc2
     refine v_skip ?_
     refine n19 _ _ (weak_keep [4, 10, 11, 12] _) ?_
     refine zk ⟨?_⟩
     refine v_region ?_; intro K25 k25
     refine zMove ⟨?_⟩
     refine zBinOpW ⟨?_⟩
     refine zAssign ⟨?_⟩
     refine k25 _ ?_
     refine n15 _ ?_
     refine n14 _ _ (weak_keep [4, 10, 11, 12] _) ?_
     refine zk ⟨?_⟩
     refine v_region ?_; intro K26 k26
     refine zBinOpW ⟨?_⟩
     refine zMove ⟨?_⟩
     refine k26 _ ?_
     refine n10 _ (i + 1, st ++ dBase (x0, x1, x2, x3) ++ (⟨#[59]⟩ : ByteArray)) ?_ ?_ ?_
     ·refine weak_bothS [4, 10, 11, 12] [] ⟨?_⟩
      rfl
     ·exact ⟨hlt, by show ByteArray.size (_ ++ _) ≤ 8 * (i + 1); simp only [ByteArray.size_append, hz2, hz3]; omega, by show _ ++ _ = _; rw [hst, ← hR, dStep, if_neg (by simp [hc2])]⟩
     ·show _ < _; show l.length - (i + 1) < l.length - i; omega
   ·intro hc1
    refine v_exit ?_
    refine e12 _ _ ?_
    refine e10 _ _ ?_
    refine x9 _ ?_
    refine n7 _ _ (weak_keep [4] _) ?_
    refine zk ⟨?_⟩
    refine v_seqR [2,3] ?_; intro K27 k27
    refine zMove ⟨?_⟩
    refine zAssign ⟨?_⟩
    refine zAssign ⟨?_⟩
    refine k27 _ ?_
    refine zk ⟨?_⟩
    refine v_ret ?_
    refine r0 _ ?_
    refine zf ⟨?_⟩
    have hend : st = dTexts l := by rw [hR, List.take_of_length_le (by omega)]
    exact ret_pure rfl (by rw [dTextR, hg, hend]; rfl) (.inl rfl)
end Go.Proofs.YtmlicajgbgjphaaDoor
