/- What functions compute. No condition. -/
import Derived.Test.YtbameklegpgkfaaDoorUty
import Derived.Test.YtbameklegpgkfaaDoorUmG
import Derived.Test.YtbameklegpgkfaaDoorX1
import Derived.Test.YtbameklegpgkfaaDoorX2
set_option linter.unusedSimpArgs false
set_option linter.unusedVariables false
set_option linter.defProp false
namespace Go.Proofs.YtbameklegpgkfaaDoor
open Go Go.Vm

set_option maxHeartbeats 1000000 in
theorem duPeople_con (n : Int) : Con Tryd.prog 151 [.int .i64 n] [] (.bool (decide (1 ≤ n) && decide (n ≤ 9))) [] := by
 refine v_con [.tmp 2] [] Tryd.func151 rfl rfl rfl (by simp [Tryd.ntmps151]) ?_
 intro Q0 n0 r0
 simp only [Tryd.ntmps151, envFrom, Nat.reduceAdd]
 have T := Tys.mk (And.intro Ty.t3 Ty.t4)
 have F := Fc.mk True.intro
 refine v_seqR [0] ?_; intro K1 k1
 refine zAssign ⟨?_⟩
 refine k1 _ ?_
 refine zk ⟨?_⟩
 refine v_seqR [2] ?_; intro K2 k2
 refine zMove ⟨?_⟩
 refine zc (l1In_con _ _ _) ⟨?_⟩
 refine zAssign ⟨?_⟩
 refine k2 _ ?_
 refine zk ⟨?_⟩
 refine v_ret ?_
 refine r0 _ ?_
 refine zf ⟨?_⟩
 exact ret_pure rfl (by first | rfl | simp) (.inl rfl)
def dutyB (a b c : Int) : Bool := (decide (1 ≤ a) && decide (a ≤ 9)) && (decide (1 ≤ b) && decide (b ≤ 21)) && (decide (0 ≤ c) && decide (c ≤ 5))

set_option maxHeartbeats 1000000 in
theorem duGood_con (a b c : Int) : Con Tryd.prog 85 [.agg [.int .i64 a, .int .i64 b, .int .i64 c]] [] (.bool (dutyB a b c)) [] := by
 refine v_con [.tmp 2] [] Tryd.func85 rfl rfl rfl (by simp [Tryd.ntmps85]) ?_
 intro Q0 n0 r0
 simp only [Tryd.ntmps85, envFrom, Nat.reduceAdd]
 have T := Tys.mk (And.intro Ty.t3 (And.intro Ty.t4 Ty.t25))
 have F := Fc.mk True.intro
 refine v_seqR [1] ?_; intro K1 k1
 refine zBox ⟨?_⟩
 refine zAssign ⟨?_⟩
 refine k1 _ ?_
 refine zk ⟨?_⟩
 refine v_seqR [2] ?_; intro K2 k2
 refine zFieldAddr ⟨?_⟩
 refine zLoad ⟨?_⟩
 refine zc (duPeople_con _) ⟨?_⟩
 refine zMove ⟨?_⟩
 refine zgFieldAddr ⟨?_⟩
 refine zgLoad ⟨?_⟩
 refine zgc (l1In_con _ _ _) ⟨?_⟩
 refine zPick ⟨?_⟩
 refine zMove ⟨?_⟩
 refine zgFieldAddr ⟨?_⟩
 refine zgLoad ⟨?_⟩
 refine zgc (l1In_con _ _ _) ⟨?_⟩
 refine zPick ⟨?_⟩
 refine zAssign ⟨?_⟩
 refine k2 _ ?_
 refine zk ⟨?_⟩
 refine v_ret ?_
 refine r0 _ ?_
 refine zf ⟨?_⟩
 exact ret_pure rfl (by first | rfl | simp [dutyB, Bool.and_assoc]) (.inl rfl)
set_option maxHeartbeats 1000000 in
theorem isDuty_con (a b c : Int) : Con Tryd.prog 77 [.agg [.int .i64 a, .int .i64 b, .int .i64 c]] [] (.bool (dutyB a b c)) [] := by
 refine v_con [.tmp 2] [] Tryd.func77 rfl rfl rfl (by simp [Tryd.ntmps77]) ?_
 intro Q0 n0 r0
 simp only [Tryd.ntmps77, envFrom, Nat.reduceAdd]
 have T := Tys.mk (And.intro Ty.t3 (And.intro Ty.t4 Ty.t25))
 have F := Fc.mk True.intro
 refine v_seqR [1] ?_; intro K1 k1
 refine zBox ⟨?_⟩
 refine zAssign ⟨?_⟩
 refine k1 _ ?_
 refine zk ⟨?_⟩
 refine v_seqR [2] ?_; intro K2 k2
 refine zFieldAddr ⟨?_⟩
 refine zLoad ⟨?_⟩
 refine zc (inside_con _ _ _) ⟨?_⟩
 refine zMove ⟨?_⟩
 refine zgFieldAddr ⟨?_⟩
 refine zgLoad ⟨?_⟩
 refine zgc (inside_con _ _ _) ⟨?_⟩
 refine zPick ⟨?_⟩
 refine zMove ⟨?_⟩
 refine zgFieldAddr ⟨?_⟩
 refine zgLoad ⟨?_⟩
 refine zgc (inside_con _ _ _) ⟨?_⟩
 refine zPick ⟨?_⟩
 refine zAssign ⟨?_⟩
 refine k2 _ ?_
 refine zk ⟨?_⟩
 refine v_ret ?_
 refine r0 _ ?_
 refine zf ⟨?_⟩
 exact ret_pure rfl (by first | rfl | simp [dutyB, Bool.and_assoc]) (.inl rfl)
def rosterB (d : List (List Int)) (n : Int) : Bool := d.all (fun l => risingAt 0 (IntKind.i64.wrap (n - 1)) l 0) && (decide (1 ≤ n) && decide (n ≤ 9)) && decide ((d.length : Int) ≤ 21)
theorem roster_in {d : List (List Int)} {n : Int} (h : rosterB d n = true) : 1 ≤ n ∧ n ≤ 9 ∧ ∀ l ∈ d, ∀ x ∈ l, 0 ≤ x ∧ x < n := by
  simp only [rosterB, Bool.and_eq_true, decide_eq_true_eq, List.all_eq_true] at h
  obtain ⟨⟨h1, h2, h3⟩, _⟩ := h
  refine ⟨h2, h3, fun l hl x hx => ?_⟩
  have := h1 l hl
  rw [wrap64 (by omega) (by omega)] at this
  have := rising_in (by simpa [risingAt] using this) x hx
  omega
theorem roster_len {d : List (List Int)} {n : Int} (h : rosterB d n = true) : d.length ≤ 21 := by
  simp only [rosterB, Bool.and_eq_true, decide_eq_true_eq] at h
  omega

set_option maxHeartbeats 1000000 in
theorem duRoster_con (d : List (List Int)) (n : Int) (hd : d.length ≤ 1048576) (hds : ∀ l ∈ d, l.length ≤ 1048576) : Con Tryd.prog 86 [.sl (d.map fun l => V.sl (l.map (V.int .i64))), .int .i64 n] [] (.bool (rosterB d n)) [] := by
 refine v_con [.tmp 4] [] Tryd.func86 rfl rfl rfl (by simp [Tryd.ntmps86]) ?_
 intro Q0 n0 r0
 simp only [Tryd.ntmps86, envFrom, Nat.reduceAdd]
 have T := Tys.mk (And.intro Ty.t3 (And.intro Ty.t4 (And.intro Ty.t23 Ty.t36)))
 have F := Fc.mk True.intro
 refine v_seqR [0,1] ?_; intro K1 k1
 refine zAssign ⟨?_⟩
 refine k1 _ ?_
 refine zk ⟨?_⟩
 refine v_seq ?_; intro Q2 n2 e2 r2
 refine v_seqR [0,1,7,8,9] ?_; intro K3 k3
 refine zMove ⟨?_⟩
 refine zLen ⟨?_⟩
 refine zMove ⟨?_⟩
 refine k3 _ ?_
 refine zk ⟨?_⟩
 refine v_block ?_; intro Q4 n4 x4 e4 r4
 refine v_loop (fun i => ⟨[(0, .sl (d.map fun l => V.sl (l.map (V.int .i64)))), (1, .int .i64 n), (7, .sl (d.map fun l => V.sl (l.map (V.int .i64)))), (8, .int .i64 d.length), (9, .int .i64 (Nat.cast i))], [], false, 26, 0⟩) (fun i => i ≤ d.length ∧ d.all (fun l => risingAt 0 (IntKind.i64.wrap (n - 1)) l 0) = (d.drop i).all (fun l => risingAt 0 (IntKind.i64.wrap (n - 1)) l 0)) (fun i => d.length - i) 0 ?_ ?_ ?_
 ·refine weak_of [0, 1, 7, 8, 9] ?_
  simp only [keep_mk, keepE_nil, keepE_cons, look_cons, look_nil, Nat.reduceEqDiff, reduceIte]
  rfl
 ·exact ⟨Nat.zero_le _, by simp⟩
 ·rintro i hok5 Q5 n5 e5 r5
  obtain ⟨hi1, hR⟩ := hok5
  refine v_seqR [0,1,7,8,9,10] ?_; intro K6 k6
  refine zBinOp ⟨?_⟩
  refine k6 _ ?_
  refine zk ⟨?_⟩
  refine v_seq ?_; intro Q7 n7 e7 r7
  refine v_condS _ rfl ?_ ?_
  ·intro hc0
   have hlt : i < d.length := by omega
   obtain ⟨x, hx⟩ : ∃ x, d[i]? = some x := ⟨d[i], List.getElem?_eq_getElem hlt⟩
   have hlx : x.length ≤ 1048576 := hds x (List.mem_of_getElem? hx)
   have hstep := all_drop (f := (fun l => risingAt 0 (IntKind.i64.wrap (n - 1)) l 0)) hx
   refine v_skip ?_
   refine n7 _ _ (weak_keep [0, 1, 7, 8, 9] _) ?_
   refine zk ⟨?_⟩
   refine v_seq ?_; intro Q9 n9 e9 r9
   refine v_block ?_; intro Q10 n10 x10 e10 r10
   refine v_seqR [0,1,6,7,8,9] ?_; intro K11 k11
   have F := Fc.mk (fun f => getD_map (f := f) hx)
   refine zIndexAddr ⟨?_⟩
   refine zLoad ⟨?_⟩
   refine zAssign ⟨?_⟩
   refine k11 _ ?_
   refine zk ⟨?_⟩
   refine v_seqR [0,1,7,8,9,17] ?_; intro K12 k12
   refine zMove ⟨?_⟩
   refine zMove ⟨?_⟩
   refine zBinOpW ⟨?_⟩
   refine zc (l1Rising_con x 0 _ hlx) ⟨?_⟩
   refine zUnOp ⟨?_⟩
   refine k12 _ ?_
   refine zk ⟨?_⟩
   refine v_condS _ rfl ?_ ?_
   ·intro hc1
    refine v_seqR [4] ?_; intro K14 k14
    refine zAssign ⟨?_⟩
    refine k14 _ ?_
    refine zk ⟨?_⟩
    refine v_ret ?_
    refine r10 _ ?_
    refine r9 _ ?_
    refine r5 _ ?_
    refine r4 _ ?_
    refine r2 _ ?_
    refine r0 _ ?_
    refine zf ⟨?_⟩
    exact ret_pure rfl (by rw [rosterB, hR, hstep, hc1]; simp) (.inl rfl)
   ·intro hc1
    refine v_skip ?_
    refine n10 _ ?_
    refine n9 _ _ (weak_keep [0, 1, 7, 8, 9] _) ?_
    refine zk ⟨?_⟩
    refine v_region ?_; intro K15 k15
    refine zBinOpW ⟨?_⟩
    refine zMove ⟨?_⟩
    refine k15 _ ?_
    refine n5 _ (i + 1) ?_ ?_ ?_
    ·refine weak_of [0, 1, 7, 8, 9] ?_
     simp only [keep_mk, keepE_nil, keepE_cons, look_cons, look_nil, Nat.reduceEqDiff, reduceIte]
     rfl
    ·exact ⟨by omega, by rw [hR, hstep, hc1]; simp⟩
    ·show _ < _; omega
  ·intro hc0
   refine v_exit ?_
   refine e7 _ _ ?_
   refine e5 _ _ ?_
   refine x4 _ ?_
   refine n2 _ _ (weak_keep [0, 1] _) ?_
   refine zk ⟨?_⟩
   refine v_seqR [4] ?_; intro K16 k16
   refine zMove ⟨?_⟩
   refine zc (duPeople_con _) ⟨?_⟩
   refine zMove ⟨?_⟩
   refine zgMove ⟨?_⟩
   refine zgLen ⟨?_⟩
   refine zgBinOp ⟨?_⟩
   refine zPick ⟨?_⟩
   refine zAssign ⟨?_⟩
   refine k16 _ ?_
   refine zk ⟨?_⟩
   refine v_ret ?_
   refine r0 _ ?_
   refine zf ⟨?_⟩
   exact ret_pure rfl (by rw [List.drop_of_length_le (by omega), List.all_nil] at hR; simp only [rosterB, hR]; simp [Bool.and_comm, Bool.and_left_comm, Bool.and_assoc]) (.inl rfl)
set_option maxHeartbeats 1000000 in
theorem isRoster_con (d : List (List Int)) (n : Int) (hd : d.length ≤ 1048576) (hds : ∀ l ∈ d, l.length ≤ 1048576) : Con Tryd.prog 78 [.sl (d.map fun l => V.sl (l.map (V.int .i64))), .int .i64 n] [] (.bool (rosterB d n)) [] := by
 refine v_con [.tmp 4] [] Tryd.func78 rfl rfl rfl (by simp [Tryd.ntmps78]) ?_
 intro Q0 n0 r0
 simp only [Tryd.ntmps78, envFrom, Nat.reduceAdd]
 have T := Tys.mk (And.intro Ty.t3 (And.intro Ty.t4 (And.intro Ty.t23 Ty.t36)))
 have F := Fc.mk True.intro
 refine v_seqR [0,1] ?_; intro K1 k1
 refine zAssign ⟨?_⟩
 refine k1 _ ?_
 refine zk ⟨?_⟩
 refine v_seq ?_; intro Q2 n2 e2 r2
 refine v_seqR [0,1,9,10,11] ?_; intro K3 k3
 refine zMove ⟨?_⟩
 refine zLen ⟨?_⟩
 refine zMove ⟨?_⟩
 refine k3 _ ?_
 refine zk ⟨?_⟩
 refine v_block ?_; intro Q4 n4 x4 e4 r4
 refine v_loop (fun i => ⟨[(0, .sl (d.map fun l => V.sl (l.map (V.int .i64)))), (1, .int .i64 n), (9, .sl (d.map fun l => V.sl (l.map (V.int .i64)))), (10, .int .i64 d.length), (11, .int .i64 (Nat.cast i))], [], false, 49, 0⟩) (fun i => i ≤ d.length ∧ d.all (fun l => risingAt 0 (IntKind.i64.wrap (n - 1)) l 0) = (d.drop i).all (fun l => risingAt 0 (IntKind.i64.wrap (n - 1)) l 0)) (fun i => d.length - i) 0 ?_ ?_ ?_
 ·refine weak_of [0, 1, 9, 10, 11] ?_
  simp only [keep_mk, keepE_nil, keepE_cons, look_cons, look_nil, Nat.reduceEqDiff, reduceIte]
  rfl
 ·exact ⟨Nat.zero_le _, by simp⟩
 ·rintro i hok5 Q5 n5 e5 r5
  obtain ⟨hi1, hR⟩ := hok5
  refine v_seqR [0,1,9,10,11,12] ?_; intro K6 k6
  refine zBinOp ⟨?_⟩
  refine k6 _ ?_
  refine zk ⟨?_⟩
  refine v_seq ?_; intro Q7 n7 e7 r7
  refine v_condS _ rfl ?_ ?_
  ·intro hc0
   have hlt : i < d.length := by omega
   obtain ⟨x, hx⟩ : ∃ x, d[i]? = some x := ⟨d[i], List.getElem?_eq_getElem hlt⟩
   have hlx : x.length ≤ 1048576 := hds x (List.mem_of_getElem? hx)
   have hstep := all_drop (f := (fun l => risingAt 0 (IntKind.i64.wrap (n - 1)) l 0)) hx
   refine v_skip ?_
   refine n7 _ _ (weak_keep [0, 1, 9, 10, 11] _) ?_
   refine zk ⟨?_⟩
   refine v_seq ?_; intro Q9 n9 e9 r9
   refine v_block ?_; intro Q10 n10 x10 e10 r10
   refine v_seqR [0,1,6,9,10,11] ?_; intro K11 k11
   have F := Fc.mk (fun f => getD_map (f := f) hx)
   refine zIndexAddr ⟨?_⟩
   refine zLoad ⟨?_⟩
   refine zAssign ⟨?_⟩
   refine k11 _ ?_
   refine zk ⟨?_⟩
   refine v_seqR [0,1,6,9,10,11,15,16,17] ?_; intro K12 k12
   refine zMove ⟨?_⟩
   refine zLen ⟨?_⟩
   refine zMove ⟨?_⟩
   refine k12 _ ?_
   refine zk ⟨?_⟩
   refine v_block ?_; intro Q13 n13 x13 e13 r13
   refine v_loop (fun j => ⟨[(0, .sl (d.map fun l => V.sl (l.map (V.int .i64)))), (1, .int .i64 n), (6, .sl (x.map (V.int .i64))), (9, .sl (d.map fun l => V.sl (l.map (V.int .i64)))), (10, .int .i64 d.length), (11, .int .i64 (Nat.cast i)), (15, .sl (x.map (V.int .i64))), (16, .int .i64 x.length), (17, .int .i64 (Nat.cast j))], [], false, 49, 0⟩) (fun j => j ≤ x.length ∧ risingAt 0 (IntKind.i64.wrap (n - 1)) x j = risingAt 0 (IntKind.i64.wrap (n - 1)) x 0) (fun j => x.length - j) 0 ?_ ?_ ?_
   ·refine weak_of [0, 1, 6, 9, 10, 11, 15, 16, 17] ?_
    simp only [keep_mk, keepE_nil, keepE_cons, look_cons, look_nil, Nat.reduceEqDiff, reduceIte]
    rfl
   ·exact ⟨Nat.zero_le _, rfl⟩
   ·rintro j hok14 Q14 n14 e14 r14
    obtain ⟨hj1, hR2⟩ := hok14
    refine v_seqR [0,1,6,9,10,11,15,16,17,18] ?_; intro K15 k15
    refine zBinOp ⟨?_⟩
    refine k15 _ ?_
    refine zk ⟨?_⟩
    refine v_seq ?_; intro Q16 n16 e16 r16
    refine v_condS _ rfl ?_ ?_
    ·intro hc1
     have hltj : j < x.length := by omega
     obtain ⟨y, hy⟩ : ∃ y, x[j]? = some y := ⟨x[j], List.getElem?_eq_getElem hltj⟩
     rcases Nat.eq_zero_or_pos j with h0 | h0
     ·skip
      have hj0 : ¬ ((0 : Int) < (j : Int)) := by omega
      have hst : risingAt 0 (IntKind.i64.wrap (n - 1)) x j = (inR y 0 (IntKind.i64.wrap (n - 1)) && risingAt 0 (IntKind.i64.wrap (n - 1)) x (j + 1)) := by subst h0; exact risingAt_zero hy
      refine v_skip ?_
      refine n16 _ _ (weak_keep [0, 1, 6, 9, 10, 11, 15, 16, 17] _) ?_
      refine zk ⟨?_⟩
      refine v_seq ?_; intro Q18 n18 e18 r18
      refine v_block ?_; intro Q19 n19 x19 e19 r19
      refine v_seqR [0,1,6,7,8,9,10,11,15,16,17] ?_; intro K20 k20
      have F := Fc.mk (And.intro (fun f => getD_map (f := f) hx) (And.intro (fun f => getD_map (f := f) hy) (And.intro hj0 (And.intro @decide_false @Bool.and_false))))
      refine zMove ⟨?_⟩
      refine zIndexAddr ⟨?_⟩
      refine zLoad ⟨?_⟩
      refine zAssign ⟨?_⟩
      refine zAssign ⟨?_⟩
      refine k20 _ ?_
      refine zk ⟨?_⟩
      refine v_seqR [0,1,6,9,10,11,15,16,17,39] ?_; intro K21 k21
      refine zMove ⟨?_⟩
      refine zMove ⟨?_⟩
      refine zBinOpW ⟨?_⟩
      refine zc (inside_con _ _ _) ⟨?_⟩
      refine zUnOp ⟨?_⟩
      refine zMove ⟨?_⟩
      refine zgMove ⟨?_⟩
      refine zgBinOp ⟨?_⟩
      refine zgMove ⟨?_⟩
      refine zgMove ⟨?_⟩
      refine zgMove ⟨?_⟩
      refine zgBinOpW ⟨?_⟩
      refine zgIndexAddr ⟨?_⟩
      refine zgLoad ⟨?_⟩
      refine zgMove ⟨?_⟩
      refine zgBinOp ⟨?_⟩
      refine zgPick ⟨?_⟩
      refine zPick ⟨?_⟩
      refine k21 _ ?_
      refine zk ⟨?_⟩
      refine v_condS _ rfl ?_ ?_
      ·intro hc2
       refine v_seqR [4] ?_; intro K23 k23
       refine zAssign ⟨?_⟩
       refine k23 _ ?_
       refine zk ⟨?_⟩
       refine v_ret ?_
       refine r19 _ ?_
       refine r18 _ ?_
       refine r14 _ ?_
       refine r13 _ ?_
       refine r10 _ ?_
       refine r9 _ ?_
       refine r5 _ ?_
       refine r4 _ ?_
       refine r2 _ ?_
       refine r0 _ ?_
       refine zf ⟨?_⟩
       exact ret_pure rfl (by rw [rosterB, hR, hstep, ← hR2, hst]; simp [inR]; intros; omega) (.inl rfl)
      ·intro hc2
       refine v_skip ?_
       refine n19 _ ?_
       refine n18 _ _ (weak_keep [0, 1, 6, 9, 10, 11, 15, 16, 17] _) ?_
       refine zk ⟨?_⟩
       refine v_region ?_; intro K24 k24
       refine zBinOpW ⟨?_⟩
       refine zMove ⟨?_⟩
       refine k24 _ ?_
       refine n14 _ (j + 1) ?_ ?_ ?_
       ·refine weak_of [0, 1, 6, 9, 10, 11, 15, 16, 17] ?_
        simp only [keep_mk, keepE_nil, keepE_cons, look_cons, look_nil, Nat.reduceEqDiff, reduceIte]
        rfl
       ·exact ⟨by omega, by rw [← hR2, hst]; simp [inR]; intros; omega⟩
       ·show _ < _; omega
     ·skip
      obtain ⟨z, hz⟩ : ∃ z, x[j - 1]? = some z := ⟨x[j - 1], List.getElem?_eq_getElem (by omega)⟩
      have hj0 : (0 : Int) < j := by omega
      have hk : ((j : Int) - 1).toNat = j - 1 := by omega
      have hst := risingAt_succ (lo := 0) (hi := IntKind.i64.wrap (n - 1)) h0 hz hy
      refine v_skip ?_
      refine n16 _ _ (weak_keep [0, 1, 6, 9, 10, 11, 15, 16, 17] _) ?_
      refine zk ⟨?_⟩
      refine v_seq ?_; intro Q25 n25 e25 r25
      refine v_block ?_; intro Q26 n26 x26 e26 r26
      refine v_seqR [0,1,6,7,8,9,10,11,15,16,17] ?_; intro K27 k27
      have F := Fc.mk (And.intro (fun f => getD_map (f := f) hx) (And.intro (fun f => getD_map (f := f) hy) (And.intro hj0 (And.intro hk (And.intro (fun f => getD_map (f := f) hz) (And.intro @decide_true @Bool.and_true))))))
      refine zMove ⟨?_⟩
      refine zIndexAddr ⟨?_⟩
      refine zLoad ⟨?_⟩
      refine zAssign ⟨?_⟩
      refine zAssign ⟨?_⟩
      refine k27 _ ?_
      refine zk ⟨?_⟩
      refine v_seqR [0,1,6,9,10,11,15,16,17,39] ?_; intro K28 k28
      refine zMove ⟨?_⟩
      refine zMove ⟨?_⟩
      refine zBinOpW ⟨?_⟩
      refine zc (inside_con _ _ _) ⟨?_⟩
      refine zUnOp ⟨?_⟩
      refine zMove ⟨?_⟩
      refine zgMove ⟨?_⟩
      refine zgBinOp ⟨?_⟩
      refine zgMove ⟨?_⟩
      refine zgMove ⟨?_⟩
      refine zgMove ⟨?_⟩
      refine zgBinOpW ⟨?_⟩
      refine zgIndexAddr ⟨?_⟩
      refine zgLoad ⟨?_⟩
      refine zgMove ⟨?_⟩
      refine zgBinOp ⟨?_⟩
      refine zgPick ⟨?_⟩
      refine zPick ⟨?_⟩
      refine k28 _ ?_
      refine zk ⟨?_⟩
      refine v_condS _ rfl ?_ ?_
      ·intro hc2
       refine v_seqR [4] ?_; intro K30 k30
       refine zAssign ⟨?_⟩
       refine k30 _ ?_
       refine zk ⟨?_⟩
       refine v_ret ?_
       refine r26 _ ?_
       refine r25 _ ?_
       refine r14 _ ?_
       refine r13 _ ?_
       refine r10 _ ?_
       refine r9 _ ?_
       refine r5 _ ?_
       refine r4 _ ?_
       refine r2 _ ?_
       refine r0 _ ?_
       refine zf ⟨?_⟩
       exact ret_pure rfl (by rw [rosterB, hR, hstep, ← hR2, hst]; simp [inR]; intros; omega) (.inl rfl)
      ·intro hc2
       refine v_skip ?_
       refine n26 _ ?_
       refine n25 _ _ (weak_keep [0, 1, 6, 9, 10, 11, 15, 16, 17] _) ?_
       refine zk ⟨?_⟩
       refine v_region ?_; intro K31 k31
       refine zBinOpW ⟨?_⟩
       refine zMove ⟨?_⟩
       refine k31 _ ?_
       refine n14 _ (j + 1) ?_ ?_ ?_
       ·refine weak_of [0, 1, 6, 9, 10, 11, 15, 16, 17] ?_
        simp only [keep_mk, keepE_nil, keepE_cons, look_cons, look_nil, Nat.reduceEqDiff, reduceIte]
        rfl
       ·exact ⟨by omega, by rw [← hR2, hst]; simp [inR]; intros; omega⟩
       ·show _ < _; omega
    ·intro hc1
     refine v_exit ?_
     refine e16 _ _ ?_
     refine e14 _ _ ?_
     refine x13 _ ?_
     refine n10 _ ?_
     refine n9 _ _ (weak_keep [0, 1, 9, 10, 11] _) ?_
     refine zk ⟨?_⟩
     refine v_region ?_; intro K32 k32
     refine zBinOpW ⟨?_⟩
     refine zMove ⟨?_⟩
     refine k32 _ ?_
     refine n5 _ (i + 1) ?_ ?_ ?_
     ·refine weak_of [0, 1, 9, 10, 11] ?_
      simp only [keep_mk, keepE_nil, keepE_cons, look_cons, look_nil, Nat.reduceEqDiff, reduceIte]
      rfl
     ·exact ⟨by omega, by rw [hR, hstep, ← hR2, risingAt_end (by omega)]; simp⟩
     ·show _ < _; omega
  ·intro hc0
   refine v_exit ?_
   refine e7 _ _ ?_
   refine e5 _ _ ?_
   refine x4 _ ?_
   refine n2 _ _ (weak_keep [0, 1] _) ?_
   refine zk ⟨?_⟩
   refine v_seqR [4] ?_; intro K33 k33
   refine zMove ⟨?_⟩
   refine zLen ⟨?_⟩
   refine zBinOp ⟨?_⟩
   refine zMove ⟨?_⟩
   refine zgMove ⟨?_⟩
   refine zgc (inside_con _ _ _) ⟨?_⟩
   refine zPick ⟨?_⟩
   refine zAssign ⟨?_⟩
   refine k33 _ ?_
   refine zk ⟨?_⟩
   refine v_ret ?_
   refine r0 _ ?_
   refine zf ⟨?_⟩
   exact ret_pure rfl (by rw [List.drop_of_length_le (by omega), List.all_nil] at hR; simp only [rosterB, hR]; simp [Bool.and_comm, Bool.and_left_comm, Bool.and_assoc]) (.inl rfl)
set_option maxHeartbeats 1000000 in
theorem implIsRoster_con (d : List (List Int)) (n : Int) (hd : d.length ≤ 1048576) (hds : ∀ l ∈ d, l.length ≤ 1048576) : Con Tryd.prog 22 [.sl (d.map fun l => V.sl (l.map (V.int .i64))), .int .i64 n] [] (.bool (rosterB d n)) [] := by
 refine v_con [.tmp 4] [] Tryd.func22 rfl rfl rfl (by simp [Tryd.ntmps22]) ?_
 intro Q0 n0 r0
 simp only [Tryd.ntmps22, envFrom, Nat.reduceAdd]
 have T := Tys.mk (And.intro Ty.t3 (And.intro Ty.t4 (And.intro Ty.t23 Ty.t36)))
 have F := Fc.mk True.intro
 refine v_seqR [0,1] ?_; intro K1 k1
 refine zAssign ⟨?_⟩
 refine k1 _ ?_
 refine zk ⟨?_⟩
 refine v_seqR [4] ?_; intro K2 k2
 refine zMove ⟨?_⟩
 refine zMove ⟨?_⟩
 refine zc (isRoster_con d n hd hds) ⟨?_⟩
 refine zAssign ⟨?_⟩
 refine k2 _ ?_
 refine zk ⟨?_⟩
 refine v_ret ?_
 refine r0 _ ?_
 refine zf ⟨?_⟩
 exact ret_pure rfl rfl (.inl rfl)
def bump (c : List Int) (x : Int) : List Int := c.set x.toNat (IntKind.i64.wrap (c.getD x.toNat 0 + 1))
def shiftsL (d : List (List Int)) (c : List Int) : List Int := d.foldl (fun c l => l.foldl bump c) c
theorem bump_len (c : List Int) (x : Int) : (bump c x).length = c.length := by simp [bump]
theorem bumps_len (l c : List Int) : (l.foldl bump c).length = c.length := by
  induction l generalizing c with
  | nil => rfl
  | cons x l ih => rw [List.foldl_cons, ih, bump_len]
theorem shiftsL_len (d : List (List Int)) (c : List Int) : (shiftsL d c).length = c.length := by
  induction d generalizing c with
  | nil => rfl
  | cons x l ih =>
    have := ih (x.foldl bump c)
    rw [bumps_len] at this
    exact this
def shiftsOf (d : List (List Int)) (n : Int) : List Int := shiftsL d (List.replicate n.toNat 0)
theorem shiftsOf_len (d : List (List Int)) (n : Int) : (shiftsOf d n).length = n.toNat := by rw [shiftsOf, shiftsL_len, List.length_replicate]

set_option maxHeartbeats 1000000 in
theorem duShifts_con (d : List (List Int)) (n : Int) (hd : d.length ≤ 1048576) (hds : ∀ l ∈ d, l.length ≤ 1048576) (hn1 : 1 ≤ n) (hn9 : n ≤ 9) (hroster : ∀ l ∈ d, ∀ x ∈ l, 0 ≤ x ∧ x < n) : Con Tryd.prog 95 [.sl (d.map fun l => V.sl (l.map (V.int .i64))), .int .i64 n] [] (.ref 0) [.arr ((shiftsOf d n).map (V.int .i64)) .flat] := by
 refine v_con [.tmp 4] [] Tryd.func95 rfl rfl rfl (by simp [Tryd.ntmps95]) ?_
 intro Q0 n0 r0
 simp only [Tryd.ntmps95, envFrom, Nat.reduceAdd]
 have T := Tys.mk (And.intro Ty.t3 (And.intro Ty.t23 Ty.t36))
 have F := Fc.mk True.intro
 refine v_seqR [0,1] ?_; intro K1 k1
 refine zAssign ⟨?_⟩
 refine k1 _ ?_
 refine zk ⟨?_⟩
 refine v_seqR [0,5] ?_; intro K2 k2
 refine zMove ⟨?_⟩
 refine zMakeSlice ⟨?_⟩
 refine zAssign ⟨?_⟩
 refine k2 _ ?_
 refine zk ⟨?_⟩
 refine v_seq ?_; intro Q3 n3 e3 r3
 refine v_seqR [5,12,13,14] ?_; intro K4 k4
 refine zMove ⟨?_⟩
 refine zLen ⟨?_⟩
 refine zMove ⟨?_⟩
 refine k4 _ ?_
 refine zk ⟨?_⟩
 refine v_block ?_; intro Q5 n5 x5 e5 r5
 refine v_loop (fun p => ⟨[(5, .ref 0), (12, .sl (d.map fun l => V.sl (l.map (V.int .i64)))), (13, .int .i64 d.length), (14, .int .i64 (Nat.cast p.1))], [.arr (p.2.map (V.int .i64)) .flat], false, 33, 0⟩) (fun p => p.1 ≤ d.length ∧ p.2.length = n.toNat ∧ shiftsL (d.drop p.1) p.2 = shiftsL d (List.replicate n.toNat 0)) (fun p => d.length - p.1) ((0, List.replicate n.toNat 0) : Nat × List Int) ?_ ?_ ?_
 ·refine weak_bothS [5, 12, 13, 14] [1] ⟨?_⟩
  simp only [List.map_replicate]; rfl
 ·exact ⟨Nat.zero_le _, by simp, by simp⟩
 ·rintro p hok6 Q6 n6 e6 r6
  obtain ⟨hi1, hlen, hR⟩ := hok6
  refine v_seqR [5,12,13,14,15] ?_; intro K7 k7
  refine zBinOp ⟨?_⟩
  refine k7 _ ?_
  refine zk ⟨?_⟩
  refine v_seq ?_; intro Q8 n8 e8 r8
  refine v_condS _ rfl ?_ ?_
  ·intro hc0
   have hlt : p.1 < d.length := by omega
   obtain ⟨l, hx⟩ : ∃ l, d[p.1]? = some l := ⟨d[p.1], List.getElem?_eq_getElem hlt⟩
   have hlx : l.length ≤ 1048576 := hds l (List.mem_of_getElem? hx)
   have hin := hroster l (List.mem_of_getElem? hx)
   refine v_skip ?_
   refine n8 _ _ (weak_keep [5, 12, 13, 14] _) ?_
   refine zk ⟨?_⟩
   refine v_seq ?_; intro Q10 n10 e10 r10
   refine v_block ?_; intro Q11 n11 x11 e11 r11
   refine v_seqR [5,7,12,13,14] ?_; intro K12 k12
   have F := Fc.mk (fun f => getD_map (f := f) hx)
   refine zIndexAddr ⟨?_⟩
   refine zLoad ⟨?_⟩
   refine zAssign ⟨?_⟩
   refine k12 _ ?_
   refine zk ⟨?_⟩
   refine v_seqR [5,12,13,14,18,19,20] ?_; intro K13 k13
   refine zMove ⟨?_⟩
   refine zLen ⟨?_⟩
   refine zMove ⟨?_⟩
   refine k13 _ ?_
   refine zk ⟨?_⟩
   refine v_block ?_; intro Q14 n14 x14 e14 r14
   refine v_loop (fun q => ⟨[(5, .ref 0), (12, .sl (d.map fun l => V.sl (l.map (V.int .i64)))), (13, .int .i64 d.length), (14, .int .i64 (Nat.cast p.1)), (18, .sl (l.map (V.int .i64))), (19, .int .i64 l.length), (20, .int .i64 (Nat.cast q.1))], [.arr (q.2.map (V.int .i64)) .flat], false, 33, 0⟩) (fun q => q.1 ≤ l.length ∧ q.2.length = n.toNat ∧ (l.drop q.1).foldl bump q.2 = l.foldl bump p.2) (fun q => l.length - q.1) ((0, p.2) : Nat × List Int) ?_ ?_ ?_
   ·refine weak_bothS [5, 12, 13, 14, 18, 19, 20] [0] ⟨?_⟩
    rfl
   ·exact ⟨Nat.zero_le _, hlen, rfl⟩
   ·rintro q hok15 Q15 n15 e15 r15
    obtain ⟨hj1, hlen2, hR2⟩ := hok15
    refine v_seqR [5,12,13,14,18,19,20,21] ?_; intro K16 k16
    refine zBinOp ⟨?_⟩
    refine k16 _ ?_
    refine zk ⟨?_⟩
    refine v_seq ?_; intro Q17 n17 e17 r17
    refine v_condS _ rfl ?_ ?_
    ·intro hc1
     have hltj : q.1 < l.length := by omega
     obtain ⟨y, hy⟩ : ∃ y, l[q.1]? = some y := ⟨l[q.1], List.getElem?_eq_getElem hltj⟩
     have hyin := hin y (List.mem_of_getElem? hy)
     obtain ⟨z, hz⟩ : ∃ z, q.2[y.toNat]? = some z := ⟨q.2[y.toNat]'(by omega), List.getElem?_eq_getElem (by omega)⟩
     have hzd : q.2.getD y.toNat 0 = z := by rw [List.getD_eq_getElem?_getD, hz]; rfl
     have hb : q.2.set y.toNat (IntKind.i64.wrap (z + 1)) = bump q.2 y := by rw [bump, hzd]
     refine v_skip ?_
     refine n17 _ _ (weak_keep [5, 12, 13, 14, 18, 19, 20] _) ?_
     refine zk ⟨?_⟩
     refine v_seq ?_; intro Q19 n19 e19 r19
     refine v_block ?_; intro Q20 n20 x20 e20 r20
     refine v_seqR [5,9,12,13,14,18,19,20] ?_; intro K21 k21
     have F := Fc.mk (And.intro (fun f => getD_map (f := f) hx) (And.intro (fun f => getD_map (f := f) hy) (And.intro (fun f => getD_map (f := f) hz) (And.intro @set_map hb))))
     refine zIndexAddr ⟨?_⟩
     refine zLoad ⟨?_⟩
     refine zAssign ⟨?_⟩
     refine k21 _ ?_
     refine zk ⟨?_⟩
     refine v_region ?_; intro K22 k22
     refine zMove ⟨?_⟩
     refine zMove ⟨?_⟩
     refine zIndexAddr ⟨?_⟩
     refine zLoad ⟨?_⟩
     refine zBinOpW ⟨?_⟩
     refine zIndexAddr ⟨?_⟩
     refine zStore ⟨?_⟩
     refine k22 _ ?_
     refine n20 _ ?_
     refine n19 _ _ (weak_keep [5, 12, 13, 14, 18, 19, 20] _) ?_
     refine zk ⟨?_⟩
     refine v_region ?_; intro K23 k23
     refine zBinOpW ⟨?_⟩
     refine zMove ⟨?_⟩
     refine k23 _ ?_
     refine n15 _ (q.1 + 1, bump q.2 y) ?_ ?_ ?_
     ·refine weak_bothS [5, 12, 13, 14, 18, 19, 20] [0] ⟨?_⟩
      rfl
     ·exact ⟨by show q.1 + 1 ≤ _; omega, by show (bump _ _).length = _; rw [bump_len]; exact hlen2, by show (l.drop (q.1 + 1)).foldl bump (bump q.2 y) = _; rw [← hR2, getElem_drop_cons hy]; rfl⟩
     ·show _ < _; show l.length - (q.1 + 1) < _; omega
    ·intro hc1
     refine v_exit ?_
     refine e17 _ _ ?_
     refine e15 _ _ ?_
     refine x14 _ ?_
     refine n11 _ ?_
     refine n10 _ _ (weak_keep [5, 12, 13, 14] _) ?_
     refine zk ⟨?_⟩
     refine v_region ?_; intro K24 k24
     refine zBinOpW ⟨?_⟩
     refine zMove ⟨?_⟩
     refine k24 _ ?_
     refine n6 _ (p.1 + 1, q.2) ?_ ?_ ?_
     ·refine weak_bothS [5, 12, 13, 14] [0] ⟨?_⟩
      rfl
     ·exact ⟨by show p.1 + 1 ≤ _; omega, hlen2, by show shiftsL (d.drop (p.1 + 1)) q.2 = _; rw [← hR, getElem_drop_cons hx]; show _ = shiftsL (d.drop (p.1 + 1)) (l.foldl bump p.2); rw [← hR2, show l.drop q.1 = [] from List.drop_of_length_le (by omega)]; rfl⟩
     ·show _ < _; show d.length - (p.1 + 1) < _; omega
  ·intro hc0
   refine v_exit ?_
   refine e8 _ _ ?_
   refine e6 _ _ ?_
   refine x5 _ ?_
   refine n3 _ _ (weak_keep [5] _) ?_
   refine zk ⟨?_⟩
   refine v_seqR [4] ?_; intro K25 k25
   refine zMove ⟨?_⟩
   refine zAssign ⟨?_⟩
   refine k25 _ ?_
   refine zk ⟨?_⟩
   refine v_ret ?_
   refine r0 _ ?_
   refine zf ⟨?_⟩
   have hfin : p.2 = shiftsOf d n := by rw [shiftsOf, ← hR, show d.drop p.1 = [] from List.drop_of_length_le (by omega)]; rfl
   rw [← hfin]
   exact ret_ref rfl (.inl rfl)
set_option maxHeartbeats 1000000 in
theorem shiftsOf_con (d : List (List Int)) (n : Int) (hd : d.length ≤ 1048576) (hds : ∀ l ∈ d, l.length ≤ 1048576) (hn1 : 1 ≤ n) (hn9 : n ≤ 9) (hroster : ∀ l ∈ d, ∀ x ∈ l, 0 ≤ x ∧ x < n) : Con Tryd.prog 94 [.sl (d.map fun l => V.sl (l.map (V.int .i64))), .int .i64 n] [] (.ref 0) [.arr ((shiftsOf d n).map (V.int .i64)) .flat] := by
 refine v_con [.tmp 4] [] Tryd.func94 rfl rfl rfl (by simp [Tryd.ntmps94]) ?_
 intro Q0 n0 r0
 simp only [Tryd.ntmps94, envFrom, Nat.reduceAdd]
 have T := Tys.mk (And.intro Ty.t3 (And.intro Ty.t23 Ty.t36))
 have F := Fc.mk True.intro
 refine v_seqR [0,1] ?_; intro K1 k1
 refine zAssign ⟨?_⟩
 refine k1 _ ?_
 refine zk ⟨?_⟩
 refine v_seqR [0,5] ?_; intro K2 k2
 refine zMove ⟨?_⟩
 refine zMakeSlice ⟨?_⟩
 refine zAssign ⟨?_⟩
 refine k2 _ ?_
 refine zk ⟨?_⟩
 refine v_seq ?_; intro Q3 n3 e3 r3
 refine v_seqR [5,12,13,14] ?_; intro K4 k4
 refine zMove ⟨?_⟩
 refine zLen ⟨?_⟩
 refine zMove ⟨?_⟩
 refine k4 _ ?_
 refine zk ⟨?_⟩
 refine v_block ?_; intro Q5 n5 x5 e5 r5
 refine v_loop (fun p => ⟨[(5, .ref 0), (12, .sl (d.map fun l => V.sl (l.map (V.int .i64)))), (13, .int .i64 d.length), (14, .int .i64 (Nat.cast p.1))], [.arr (p.2.map (V.int .i64)) .flat], false, 33, 0⟩) (fun p => p.1 ≤ d.length ∧ p.2.length = n.toNat ∧ shiftsL (d.drop p.1) p.2 = shiftsL d (List.replicate n.toNat 0)) (fun p => d.length - p.1) ((0, List.replicate n.toNat 0) : Nat × List Int) ?_ ?_ ?_
 ·refine weak_bothS [5, 12, 13, 14] [1] ⟨?_⟩
  simp only [List.map_replicate]; rfl
 ·exact ⟨Nat.zero_le _, by simp, by simp⟩
 ·rintro p hok6 Q6 n6 e6 r6
  obtain ⟨hi1, hlen, hR⟩ := hok6
  refine v_seqR [5,12,13,14,15] ?_; intro K7 k7
  refine zBinOp ⟨?_⟩
  refine k7 _ ?_
  refine zk ⟨?_⟩
  refine v_seq ?_; intro Q8 n8 e8 r8
  refine v_condS _ rfl ?_ ?_
  ·intro hc0
   have hlt : p.1 < d.length := by omega
   obtain ⟨l, hx⟩ : ∃ l, d[p.1]? = some l := ⟨d[p.1], List.getElem?_eq_getElem hlt⟩
   have hlx : l.length ≤ 1048576 := hds l (List.mem_of_getElem? hx)
   have hin := hroster l (List.mem_of_getElem? hx)
   refine v_skip ?_
   refine n8 _ _ (weak_keep [5, 12, 13, 14] _) ?_
   refine zk ⟨?_⟩
   refine v_seq ?_; intro Q10 n10 e10 r10
   refine v_block ?_; intro Q11 n11 x11 e11 r11
   refine v_seqR [5,7,12,13,14] ?_; intro K12 k12
   have F := Fc.mk (fun f => getD_map (f := f) hx)
   refine zIndexAddr ⟨?_⟩
   refine zLoad ⟨?_⟩
   refine zAssign ⟨?_⟩
   refine k12 _ ?_
   refine zk ⟨?_⟩
   refine v_seqR [5,12,13,14,18,19,20] ?_; intro K13 k13
   refine zMove ⟨?_⟩
   refine zLen ⟨?_⟩
   refine zMove ⟨?_⟩
   refine k13 _ ?_
   refine zk ⟨?_⟩
   refine v_block ?_; intro Q14 n14 x14 e14 r14
   refine v_loop (fun q => ⟨[(5, .ref 0), (12, .sl (d.map fun l => V.sl (l.map (V.int .i64)))), (13, .int .i64 d.length), (14, .int .i64 (Nat.cast p.1)), (18, .sl (l.map (V.int .i64))), (19, .int .i64 l.length), (20, .int .i64 (Nat.cast q.1))], [.arr (q.2.map (V.int .i64)) .flat], false, 33, 0⟩) (fun q => q.1 ≤ l.length ∧ q.2.length = n.toNat ∧ (l.drop q.1).foldl bump q.2 = l.foldl bump p.2) (fun q => l.length - q.1) ((0, p.2) : Nat × List Int) ?_ ?_ ?_
   ·refine weak_bothS [5, 12, 13, 14, 18, 19, 20] [0] ⟨?_⟩
    rfl
   ·exact ⟨Nat.zero_le _, hlen, rfl⟩
   ·rintro q hok15 Q15 n15 e15 r15
    obtain ⟨hj1, hlen2, hR2⟩ := hok15
    refine v_seqR [5,12,13,14,18,19,20,21] ?_; intro K16 k16
    refine zBinOp ⟨?_⟩
    refine k16 _ ?_
    refine zk ⟨?_⟩
    refine v_seq ?_; intro Q17 n17 e17 r17
    refine v_condS _ rfl ?_ ?_
    ·intro hc1
     have hltj : q.1 < l.length := by omega
     obtain ⟨y, hy⟩ : ∃ y, l[q.1]? = some y := ⟨l[q.1], List.getElem?_eq_getElem hltj⟩
     have hyin := hin y (List.mem_of_getElem? hy)
     obtain ⟨z, hz⟩ : ∃ z, q.2[y.toNat]? = some z := ⟨q.2[y.toNat]'(by omega), List.getElem?_eq_getElem (by omega)⟩
     have hzd : q.2.getD y.toNat 0 = z := by rw [List.getD_eq_getElem?_getD, hz]; rfl
     have hb : q.2.set y.toNat (IntKind.i64.wrap (z + 1)) = bump q.2 y := by rw [bump, hzd]
     refine v_skip ?_
     refine n17 _ _ (weak_keep [5, 12, 13, 14, 18, 19, 20] _) ?_
     refine zk ⟨?_⟩
     refine v_seq ?_; intro Q19 n19 e19 r19
     refine v_block ?_; intro Q20 n20 x20 e20 r20
     refine v_seqR [5,9,12,13,14,18,19,20] ?_; intro K21 k21
     have F := Fc.mk (And.intro (fun f => getD_map (f := f) hx) (And.intro (fun f => getD_map (f := f) hy) (And.intro (fun f => getD_map (f := f) hz) (And.intro @set_map hb))))
     refine zIndexAddr ⟨?_⟩
     refine zLoad ⟨?_⟩
     refine zAssign ⟨?_⟩
     refine k21 _ ?_
     refine zk ⟨?_⟩
     refine v_region ?_; intro K22 k22
     refine zMove ⟨?_⟩
     refine zMove ⟨?_⟩
     refine zIndexAddr ⟨?_⟩
     refine zLoad ⟨?_⟩
     refine zBinOpW ⟨?_⟩
     refine zIndexAddr ⟨?_⟩
     refine zStore ⟨?_⟩
     refine k22 _ ?_
     refine n20 _ ?_
     refine n19 _ _ (weak_keep [5, 12, 13, 14, 18, 19, 20] _) ?_
     refine zk ⟨?_⟩
     refine v_region ?_; intro K23 k23
     refine zBinOpW ⟨?_⟩
     refine zMove ⟨?_⟩
     refine k23 _ ?_
     refine n15 _ (q.1 + 1, bump q.2 y) ?_ ?_ ?_
     ·refine weak_bothS [5, 12, 13, 14, 18, 19, 20] [0] ⟨?_⟩
      rfl
     ·exact ⟨by show q.1 + 1 ≤ _; omega, by show (bump _ _).length = _; rw [bump_len]; exact hlen2, by show (l.drop (q.1 + 1)).foldl bump (bump q.2 y) = _; rw [← hR2, getElem_drop_cons hy]; rfl⟩
     ·show _ < _; show l.length - (q.1 + 1) < _; omega
    ·intro hc1
     refine v_exit ?_
     refine e17 _ _ ?_
     refine e15 _ _ ?_
     refine x14 _ ?_
     refine n11 _ ?_
     refine n10 _ _ (weak_keep [5, 12, 13, 14] _) ?_
     refine zk ⟨?_⟩
     refine v_region ?_; intro K24 k24
     refine zBinOpW ⟨?_⟩
     refine zMove ⟨?_⟩
     refine k24 _ ?_
     refine n6 _ (p.1 + 1, q.2) ?_ ?_ ?_
     ·refine weak_bothS [5, 12, 13, 14] [0] ⟨?_⟩
      rfl
     ·exact ⟨by show p.1 + 1 ≤ _; omega, hlen2, by show shiftsL (d.drop (p.1 + 1)) q.2 = _; rw [← hR, getElem_drop_cons hx]; show _ = shiftsL (d.drop (p.1 + 1)) (l.foldl bump p.2); rw [← hR2, show l.drop q.1 = [] from List.drop_of_length_le (by omega)]; rfl⟩
     ·show _ < _; show d.length - (p.1 + 1) < _; omega
  ·intro hc0
   refine v_exit ?_
   refine e8 _ _ ?_
   refine e6 _ _ ?_
   refine x5 _ ?_
   refine n3 _ _ (weak_keep [5] _) ?_
   refine zk ⟨?_⟩
   refine v_seqR [4] ?_; intro K25 k25
   refine zMove ⟨?_⟩
   refine zAssign ⟨?_⟩
   refine k25 _ ?_
   refine zk ⟨?_⟩
   refine v_ret ?_
   refine r0 _ ?_
   refine zf ⟨?_⟩
   have hfin : p.2 = shiftsOf d n := by rw [shiftsOf, ← hR, show d.drop p.1 = [] from List.drop_of_length_le (by omega)]; rfl
   rw [← hfin]
   exact ret_ref rfl (.inl rfl)
set_option maxHeartbeats 1000000 in
theorem specShiftsOf_con (d : List (List Int)) (n : Int) (hd : d.length ≤ 1048576) (hds : ∀ l ∈ d, l.length ≤ 1048576) : Con Tryd.prog 15 [.sl (d.map fun l => V.sl (l.map (V.int .i64))), .int .i64 n] [] (.tup [.ref 0, .bool (rosterB d n)]) [.arr ((if rosterB d n then shiftsOf d n else []).map (V.int .i64)) .flat] := by
 refine v_con [.tmp 4, .tmp 5] [] Tryd.func15 rfl rfl rfl (by simp [Tryd.ntmps15]) ?_
 intro Q0 n0 r0
 simp only [Tryd.ntmps15, envFrom, Nat.reduceAdd]
 have T := Tys.mk (And.intro Ty.t3 (And.intro Ty.t4 (And.intro Ty.t23 Ty.t36)))
 have F := Fc.mk True.intro
 refine v_seqR [0,1] ?_; intro K1 k1
 refine zAssign ⟨?_⟩
 refine zAssign ⟨?_⟩
 refine k1 _ ?_
 refine zk ⟨?_⟩
 refine v_seq ?_; intro Q2 n2 e2 r2
 refine v_seqR [0,1,9] ?_; intro K3 k3
 refine zMove ⟨?_⟩
 refine zMove ⟨?_⟩
 refine zc (duRoster_con d n hd hds) ⟨?_⟩
 refine zUnOp ⟨?_⟩
 refine k3 _ ?_
 refine zk ⟨?_⟩
 refine v_condS _ rfl ?_ ?_
 ·intro hc0
  refine v_seqR [4,5] ?_; intro K5 k5
  refine zAssign ⟨?_⟩
  refine zAssign ⟨?_⟩
  refine k5 _ ?_
  refine zk ⟨?_⟩
  refine v_ret ?_
  refine r2 _ ?_
  refine r0 _ ?_
  refine zf ⟨?_⟩
  rw [if_neg (by rw [hc0]; simp), hc0]
  exact ret_ref_tup rfl rfl rfl (.inl rfl)
 ·intro hc0
  have hro := roster_in hc0
  refine v_skip ?_
  refine n2 _ _ (weak_keep [0, 1] _) ?_
  refine zk ⟨?_⟩
  refine v_seqR [4,5] ?_; intro K6 k6
  refine zMove ⟨?_⟩
  refine zMove ⟨?_⟩
  refine zc (duShifts_con d n hd hds hro.1 hro.2.1 hro.2.2) ⟨?_⟩
  refine zAssign ⟨?_⟩
  refine zAssign ⟨?_⟩
  refine k6 _ ?_
  refine zk ⟨?_⟩
  refine v_ret ?_
  refine r0 _ ?_
  refine zf ⟨?_⟩
  rw [if_pos hc0, hc0]
  exact ret_ref_tup rfl rfl rfl (.inl rfl)
set_option maxHeartbeats 1000000 in
theorem implShiftsOf_con (d : List (List Int)) (n : Int) (hd : d.length ≤ 1048576) (hds : ∀ l ∈ d, l.length ≤ 1048576) : Con Tryd.prog 14 [.sl (d.map fun l => V.sl (l.map (V.int .i64))), .int .i64 n] [] (.tup [.ref 0, .bool (rosterB d n)]) [.arr ((if rosterB d n then shiftsOf d n else []).map (V.int .i64)) .flat] := by
 refine v_con [.tmp 4, .tmp 5] [] Tryd.func14 rfl rfl rfl (by simp [Tryd.ntmps14]) ?_
 intro Q0 n0 r0
 simp only [Tryd.ntmps14, envFrom, Nat.reduceAdd]
 have T := Tys.mk (And.intro Ty.t3 (And.intro Ty.t4 (And.intro Ty.t23 Ty.t36)))
 have F := Fc.mk True.intro
 refine v_seqR [0,1] ?_; intro K1 k1
 refine zAssign ⟨?_⟩
 refine zAssign ⟨?_⟩
 refine k1 _ ?_
 refine zk ⟨?_⟩
 refine v_seq ?_; intro Q2 n2 e2 r2
 refine v_seqR [0,1,9] ?_; intro K3 k3
 refine zMove ⟨?_⟩
 refine zMove ⟨?_⟩
 refine zc (isRoster_con d n hd hds) ⟨?_⟩
 refine zUnOp ⟨?_⟩
 refine k3 _ ?_
 refine zk ⟨?_⟩
 refine v_condS _ rfl ?_ ?_
 ·intro hc0
  refine v_seqR [4,5] ?_; intro K5 k5
  refine zAssign ⟨?_⟩
  refine zAssign ⟨?_⟩
  refine k5 _ ?_
  refine zk ⟨?_⟩
  refine v_ret ?_
  refine r2 _ ?_
  refine r0 _ ?_
  refine zf ⟨?_⟩
  rw [if_neg (by rw [hc0]; simp), hc0]
  exact ret_ref_tup rfl rfl rfl (.inl rfl)
 ·intro hc0
  have hro := roster_in hc0
  refine v_skip ?_
  refine n2 _ _ (weak_keep [0, 1] _) ?_
  refine zk ⟨?_⟩
  refine v_seqR [4,5] ?_; intro K6 k6
  refine zMove ⟨?_⟩
  refine zMove ⟨?_⟩
  refine zc (shiftsOf_con d n hd hds hro.1 hro.2.1 hro.2.2) ⟨?_⟩
  refine zAssign ⟨?_⟩
  refine zAssign ⟨?_⟩
  refine k6 _ ?_
  refine zk ⟨?_⟩
  refine v_ret ?_
  refine r0 _ ?_
  refine zf ⟨?_⟩
  rw [if_pos hc0, hc0]
  exact ret_ref_tup rfl rfl rfl (.inl rfl)
end Go.Proofs.YtbameklegpgkfaaDoor
