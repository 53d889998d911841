/- What functions compute. No condition. -/
import Derived.Test.YtmlicajgbgjphaaUty
import Derived.Test.YtmlicajgbgjphaaUmG
set_option linter.unusedSimpArgs false
set_option linter.unusedVariables false
set_option linter.defProp false
namespace Go.Proofs.Ytmlicajgbgjphaa
open Go Go.Vm

set_option maxHeartbeats 1000000 in
theorem inside_con (n lo hi : Int) : Con Try.prog 89 [.int .i64 n, .int .i64 lo, .int .i64 hi] [] (.bool (decide (lo ≤ n) && decide (n ≤ hi))) [] := by
 refine v_con [.tmp 6] [] Try.func89 rfl rfl rfl (by simp [Try.ntmps89]) ?_
 intro Q0 n0 r0
 simp only [Try.ntmps89, envFrom, Nat.reduceAdd]
 have T := Tys.mk Ty.t3
 have F := Fc.mk True.intro
 refine v_seqR [0,1,2] ?_; intro K1 k1
 refine zAssign ⟨?_⟩
 refine k1 _ ?_
 refine zk ⟨?_⟩
 refine v_seqR [6] ?_; intro K2 k2
 refine zMove ⟨?_⟩
 refine zMove ⟨?_⟩
 refine zBinOp ⟨?_⟩
 refine zMove ⟨?_⟩
 refine zgMove ⟨?_⟩
 refine zgMove ⟨?_⟩
 refine zgBinOp ⟨?_⟩
 refine zPick ⟨?_⟩
 refine zAssign ⟨?_⟩
 refine k2 _ ?_
 refine zk ⟨?_⟩
 refine v_ret ?_
 refine r0 _ ?_
 refine zf ⟨?_⟩
 exact ret_pure rfl (by first | rfl | simp) (.inl rfl)
set_option maxHeartbeats 1000000 in
theorem l1In_con (n lo hi : Int) : Con Try.prog 171 [.int .i64 n, .int .i64 lo, .int .i64 hi] [] (.bool (decide (lo ≤ n) && decide (n ≤ hi))) [] := by
 refine v_con [.tmp 6] [] Try.func171 rfl rfl rfl (by simp [Try.ntmps171]) ?_
 intro Q0 n0 r0
 simp only [Try.ntmps171, envFrom, Nat.reduceAdd]
 have T := Tys.mk Ty.t3
 have F := Fc.mk True.intro
 refine v_seqR [0,1,2] ?_; intro K1 k1
 refine zAssign ⟨?_⟩
 refine k1 _ ?_
 refine zk ⟨?_⟩
 refine v_seqR [6] ?_; intro K2 k2
 refine zMove ⟨?_⟩
 refine zMove ⟨?_⟩
 refine zBinOp ⟨?_⟩
 refine zMove ⟨?_⟩
 refine zgMove ⟨?_⟩
 refine zgMove ⟨?_⟩
 refine zgBinOp ⟨?_⟩
 refine zPick ⟨?_⟩
 refine zAssign ⟨?_⟩
 refine k2 _ ?_
 refine zk ⟨?_⟩
 refine v_ret ?_
 refine r0 _ ?_
 refine zf ⟨?_⟩
 exact ret_pure rfl (by first | rfl | simp) (.inl rfl)
theorem getElem_drop_cons {α : Type} {l : List α} {i : Nat} {x : α} (h : l[i]? = some x) : l.drop i = x :: l.drop (i + 1) := by
  obtain ⟨hi, rfl⟩ := List.getElem?_eq_some_iff.1 h
  exact List.drop_eq_getElem_cons hi
theorem eq_drop {α : Type} [DecidableEq α] {a b : List α} {i : Nat} (h : a.length = b.length) {x y : α} (hx : a[i]? = some x) (hy : b[i]? = some y) : (a.drop i = b.drop i) ↔ (x = y ∧ a.drop (i + 1) = b.drop (i + 1)) := by
  rw [getElem_drop_cons hx, getElem_drop_cons hy, List.cons.injEq]
theorem all_drop {α : Type} {f : α → Bool} {l : List α} {i : Nat} {x : α} (h : l[i]? = some x) : (l.drop i).all f = (f x && (l.drop (i + 1)).all f) := by
  rw [getElem_drop_cons h, List.all_cons]
theorem foldl_drop {α β : Type} {f : β → α → β} {l : List α} {i : Nat} {x : α} (h : l[i]? = some x) (b : β) : (l.drop i).foldl f b = (l.drop (i + 1)).foldl f (f b x) := by
  rw [getElem_drop_cons h, List.foldl_cons]
theorem foldl_end {α β : Type} {f : β → α → β} {l : List α} {i : Nat} (h : l.length ≤ i) (b : β) : (l.drop i).foldl f b = b := by
  rw [List.drop_of_length_le h]; rfl
theorem set_map {α : Type} {f : α → V} {l : List α} {i : Nat} {x : α} : (l.map f).set i (f x) = (l.set i x).map f := (List.map_set).symm

def inR (n lo hi : Int) : Bool := decide (lo ≤ n) && decide (n ≤ hi)
def risingFrom (lo hi : Int) : Option Int → List Int → Bool
  | _, [] => true
  | none, x :: xs => inR x lo hi && risingFrom lo hi (some x) xs
  | some p, x :: xs => inR x lo hi && decide (p < x) && risingFrom lo hi (some x) xs
def risingAt (lo hi : Int) (l : List Int) (i : Nat) : Bool := risingFrom lo hi (if i = 0 then none else l[i - 1]?) (l.drop i)
theorem risingAt_zero {lo hi : Int} {l : List Int} {x : Int} (h : l[0]? = some x) : risingAt lo hi l 0 = (inR x lo hi && risingAt lo hi l 1) := by
  simp only [risingAt, getElem_drop_cons h, if_true, risingFrom]
  simp [h]
theorem risingAt_succ {lo hi : Int} {l : List Int} {x y : Int} {i : Nat} (h0 : 0 < i) (hy : l[i - 1]? = some y) (h : l[i]? = some x) : risingAt lo hi l i = (inR x lo hi && decide (y < x) && risingAt lo hi l (i + 1)) := by
  simp only [risingAt, getElem_drop_cons h, hy, show ¬ i = 0 by omega, if_false, risingFrom]
  simp [h]
theorem risingAt_end {lo hi : Int} {l : List Int} {i : Nat} (h : l.length ≤ i) : risingAt lo hi l i = true := by
  simp only [risingAt, List.drop_of_length_le h]
  split <;> rfl
theorem rising_in {lo hi : Int} : ∀ {l : List Int} {p : Option Int}, risingFrom lo hi p l = true → ∀ x ∈ l, lo ≤ x ∧ x ≤ hi
  | [], _, _, x, hx => by cases hx
  | y :: l, p, h, x, hx => by
    have h2 : inR y lo hi = true ∧ risingFrom lo hi (some y) l = true := by
      cases p <;> simp [risingFrom] at h <;> simp [h]
    rcases List.mem_cons.1 hx with rfl | h3
    · simpa [inR] using h2.1
    · exact rising_in h2.2 x h3

set_option maxHeartbeats 1000000 in
theorem l1Rising_con (l : List Int) (lo hi : Int) (hl : l.length ≤ 1048576) : Con Try.prog 211 [.sl (l.map (V.int .i64)), .int .i64 lo, .int .i64 hi] [] (.bool (risingAt lo hi l 0)) [] := by
 refine v_con [.tmp 6] [] Try.func211 rfl rfl rfl (by simp [Try.ntmps211]) ?_
 intro Q0 n0 r0
 simp only [Try.ntmps211, envFrom, Nat.reduceAdd]
 have T := Tys.mk (And.intro Ty.t3 (And.intro Ty.t4 Ty.t31))
 have F := Fc.mk True.intro
 refine v_seqR [0,1,2] ?_; intro K1 k1
 refine zAssign ⟨?_⟩
 refine k1 _ ?_
 refine zk ⟨?_⟩
 refine v_seq ?_; intro Q2 n2 e2 r2
 refine v_seqR [0,1,2,9,10,11] ?_; intro K3 k3
 refine zMove ⟨?_⟩
 refine zLen ⟨?_⟩
 refine zMove ⟨?_⟩
 refine k3 _ ?_
 refine zk ⟨?_⟩
 refine v_block ?_; intro Q4 n4 x4 e4 r4
 refine v_loop (fun i => ⟨[(0, .sl (l.map (V.int .i64))), (1, .int .i64 lo), (2, .int .i64 hi), (9, .sl (l.map (V.int .i64))), (10, .int .i64 l.length), (11, .int .i64 (Nat.cast i))], [], false, 35, 0⟩) (fun i => i ≤ l.length ∧ risingAt lo hi l i = risingAt lo hi l 0) (fun i => l.length - i) 0 ?_ ?_ ?_
 ·refine weak_of [0, 1, 2, 9, 10, 11] ?_
  simp only [keep_mk, keepE_nil, keepE_cons, look_cons, look_nil, Nat.reduceEqDiff, reduceIte]
  rfl
 ·exact ⟨Nat.zero_le _, rfl⟩
 ·rintro i hok5 Q5 n5 e5 r5
  obtain ⟨hi1, hR⟩ := hok5
  refine v_seqR [0,1,2,9,10,11,12] ?_; intro K6 k6
  refine zBinOp ⟨?_⟩
  refine k6 _ ?_
  refine zk ⟨?_⟩
  refine v_seq ?_; intro Q7 n7 e7 r7
  refine v_condS _ rfl ?_ ?_
  ·intro hc0
   have hlt : i < l.length := by omega
   obtain ⟨x, hx⟩ : ∃ x, l[i]? = some x := ⟨l[i], List.getElem?_eq_getElem hlt⟩
   rcases Nat.eq_zero_or_pos i with h0 | h0
   ·skip
    have hi0 : ¬ ((0 : Int) < (i : Int)) := by omega
    have hstep : risingAt lo hi l i = (inR x lo hi && risingAt lo hi l (i + 1)) := by subst h0; exact risingAt_zero hx
    refine v_skip ?_
    refine n7 _ _ (weak_keep [0, 1, 2, 9, 10, 11] _) ?_
    refine zk ⟨?_⟩
    refine v_seq ?_; intro Q9 n9 e9 r9
    refine v_block ?_; intro Q10 n10 x10 e10 r10
    refine v_seqR [0,1,2,7,8,9,10,11] ?_; intro K11 k11
    have F := Fc.mk (And.intro (fun f => getD_map (f := f) hx) (And.intro hi0 (And.intro @decide_false @Bool.and_false)))
    refine zMove ⟨?_⟩
    refine zIndexAddr ⟨?_⟩
    refine zLoad ⟨?_⟩
    refine zAssign ⟨?_⟩
    refine zAssign ⟨?_⟩
    refine k11 _ ?_
    refine zk ⟨?_⟩
    refine v_seqR [0,1,2,9,10,11,33] ?_; intro K12 k12
    refine zMove ⟨?_⟩
    refine zMove ⟨?_⟩
    refine zMove ⟨?_⟩
    refine zc (l1In_con _ _ _) ⟨?_⟩
    refine zUnOp ⟨?_⟩
    refine zMove ⟨?_⟩
    refine zgMove ⟨?_⟩
    refine zgBinOp ⟨?_⟩
    refine zgMove ⟨?_⟩
    refine zgMove ⟨?_⟩
    refine zgMove ⟨?_⟩
    refine zgBinOpW ⟨?_⟩
    refine zgIndexAddr ⟨?_⟩
    refine zgLoad ⟨?_⟩
    refine zgMove ⟨?_⟩
    refine zgBinOp ⟨?_⟩
    refine zgPick ⟨?_⟩
    refine zPick ⟨?_⟩
    refine k12 _ ?_
    refine zk ⟨?_⟩
    refine v_condS _ rfl ?_ ?_
    ·intro hc1
     refine v_seqR [6] ?_; intro K14 k14
     refine zAssign ⟨?_⟩
     refine k14 _ ?_
     refine zk ⟨?_⟩
     refine v_ret ?_
     refine r10 _ ?_
     refine r9 _ ?_
     refine r5 _ ?_
     refine r4 _ ?_
     refine r2 _ ?_
     refine r0 _ ?_
     refine zf ⟨?_⟩
     exact ret_pure rfl (by rw [← hR, hstep]; congr 1; simp [inR]; intros; omega) (.inl rfl)
    ·intro hc1
     refine v_skip ?_
     refine n10 _ ?_
     refine n9 _ _ (weak_keep [0, 1, 2, 9, 10, 11] _) ?_
     refine zk ⟨?_⟩
     refine v_region ?_; intro K15 k15
     refine zBinOpW ⟨?_⟩
     refine zMove ⟨?_⟩
     refine k15 _ ?_
     refine n5 _ (i + 1) ?_ ?_ ?_
     ·refine weak_of [0, 1, 2, 9, 10, 11] ?_
      simp only [keep_mk, keepE_nil, keepE_cons, look_cons, look_nil, Nat.reduceEqDiff, reduceIte]
      rfl
     ·exact ⟨by omega, by rw [← hR, hstep]; simp [inR]; intros; omega⟩
     ·show _ < _; omega
   ·skip
    obtain ⟨y, hy⟩ : ∃ y, l[i - 1]? = some y := ⟨l[i - 1], List.getElem?_eq_getElem (by omega)⟩
    have hi0 : (0 : Int) < i := by omega
    have hk : ((i : Int) - 1).toNat = i - 1 := by omega
    have hstep := risingAt_succ (lo := lo) (hi := hi) h0 hy hx
    refine v_skip ?_
    refine n7 _ _ (weak_keep [0, 1, 2, 9, 10, 11] _) ?_
    refine zk ⟨?_⟩
    refine v_seq ?_; intro Q16 n16 e16 r16
    refine v_block ?_; intro Q17 n17 x17 e17 r17
    refine v_seqR [0,1,2,7,8,9,10,11] ?_; intro K18 k18
    have F := Fc.mk (And.intro (fun f => getD_map (f := f) hx) (And.intro hi0 (And.intro hk (And.intro (fun f => getD_map (f := f) hy) (And.intro @decide_true @Bool.and_true)))))
    refine zMove ⟨?_⟩
    refine zIndexAddr ⟨?_⟩
    refine zLoad ⟨?_⟩
    refine zAssign ⟨?_⟩
    refine zAssign ⟨?_⟩
    refine k18 _ ?_
    refine zk ⟨?_⟩
    refine v_seqR [0,1,2,9,10,11,33] ?_; intro K19 k19
    refine zMove ⟨?_⟩
    refine zMove ⟨?_⟩
    refine zMove ⟨?_⟩
    refine zc (l1In_con _ _ _) ⟨?_⟩
    refine zUnOp ⟨?_⟩
    refine zMove ⟨?_⟩
    refine zgMove ⟨?_⟩
    refine zgBinOp ⟨?_⟩
    refine zgMove ⟨?_⟩
    refine zgMove ⟨?_⟩
    refine zgMove ⟨?_⟩
    refine zgBinOpW ⟨?_⟩
    refine zgIndexAddr ⟨?_⟩
    refine zgLoad ⟨?_⟩
    refine zgMove ⟨?_⟩
    refine zgBinOp ⟨?_⟩
    refine zgPick ⟨?_⟩
    refine zPick ⟨?_⟩
    refine k19 _ ?_
    refine zk ⟨?_⟩
    refine v_condS _ rfl ?_ ?_
    ·intro hc1
     refine v_seqR [6] ?_; intro K21 k21
     refine zAssign ⟨?_⟩
     refine k21 _ ?_
     refine zk ⟨?_⟩
     refine v_ret ?_
     refine r17 _ ?_
     refine r16 _ ?_
     refine r5 _ ?_
     refine r4 _ ?_
     refine r2 _ ?_
     refine r0 _ ?_
     refine zf ⟨?_⟩
     exact ret_pure rfl (by rw [← hR, hstep]; congr 1; simp [inR]; intros; omega) (.inl rfl)
    ·intro hc1
     refine v_skip ?_
     refine n17 _ ?_
     refine n16 _ _ (weak_keep [0, 1, 2, 9, 10, 11] _) ?_
     refine zk ⟨?_⟩
     refine v_region ?_; intro K22 k22
     refine zBinOpW ⟨?_⟩
     refine zMove ⟨?_⟩
     refine k22 _ ?_
     refine n5 _ (i + 1) ?_ ?_ ?_
     ·refine weak_of [0, 1, 2, 9, 10, 11] ?_
      simp only [keep_mk, keepE_nil, keepE_cons, look_cons, look_nil, Nat.reduceEqDiff, reduceIte]
      rfl
     ·exact ⟨by omega, by rw [← hR, hstep]; simp [inR]; intros; omega⟩
     ·show _ < _; omega
  ·intro hc0
   refine v_exit ?_
   refine e7 _ _ ?_
   refine e5 _ _ ?_
   refine x4 _ ?_
   refine n2 _ _ (weak_keep [] _) ?_
   refine zk ⟨?_⟩
   refine v_seqR [6] ?_; intro K23 k23
   refine zAssign ⟨?_⟩
   refine k23 _ ?_
   refine zk ⟨?_⟩
   refine v_ret ?_
   refine r0 _ ?_
   refine zf ⟨?_⟩
   exact ret_pure rfl (by rw [← hR, risingAt_end (by omega)]) (.inl rfl)
def szS (n : Int) (l : List Int) : Int := if n - l.length < 0 then -1 else n - l.length
def szSS : Int → List (List Int) → Int
  | n, [] => n
  | n, l :: ll => if szS n l < 0 then -1 else szSS (szS n l) ll
theorem szSS_le : ∀ {ll : List (List Int)} {n : Int}, 0 ≤ szSS n ll → ∀ l ∈ ll, (l.length : Int) ≤ n
  | [], _, _, l, hl => by cases hl
  | x :: ll, n, h, l, hl => by
    rw [szSS] at h
    split at h
    · omega
    · rename_i hs
      have hx : (x.length : Int) ≤ n ∧ szS n x ≤ n := by
        unfold szS at hs ⊢
        split at hs
        · omega
        · rename_i h2; rw [if_neg h2]; omega
      rcases List.mem_cons.1 hl with rfl | h3
      · exact hx.1
      · have := szSS_le h l h3; omega

def markRow (k : Int) (n : Nat) : List Int := (List.range n).map fun j : Nat => k + j
theorem mark_succ (k : Int) (n : Nat) : markRow k (n + 1) = markRow k n ++ [k + n] := by simp [markRow, List.range_succ]
theorem mark_len (k : Int) (n : Nat) : (markRow k n).length = n := by simp [markRow]
theorem mark_step {l : List Int} {k : Int} {i : Nat} {x : Int} (h : l[i]? = some x) : (markRow k i ++ l.drop i).set i (k + i) = markRow k (i + 1) ++ l.drop (i + 1) := by
  rw [getElem_drop_cons h, mark_succ, List.set_append_right _ _ (by rw [mark_len]; omega), mark_len, Nat.sub_self, List.set_cons_zero, List.append_assoc]
  rfl
theorem mark_get {l : List Int} {k : Int} {i : Nat} {x : Int} (h : l[i]? = some x) : (markRow k i ++ l.drop i)[i]? = some x := by
  rw [List.getElem?_append_right (by rw [mark_len]; omega), mark_len, Nat.sub_self, getElem_drop_cons h]
  rfl
theorem mark_all {l : List Int} {k : Int} {i : Nat} (h : i ≤ l.length) : (markRow k i ++ l.drop i).length = l.length := by simp [mark_len]; omega
theorem mark_at {k : Int} {n i : Nat} (h : i < n) : (markRow k n)[i]? = some (k + i) := by
  simp [markRow, List.getElem?_map, List.getElem?_range h]

set_option maxHeartbeats 1000000 in
theorem duPeople_con (n : Int) : Con Try.prog 227 [.int .i64 n] [] (.bool (decide (1 ≤ n) && decide (n ≤ 9))) [] := by
 refine v_con [.tmp 2] [] Try.func227 rfl rfl rfl (by simp [Try.ntmps227]) ?_
 intro Q0 n0 r0
 simp only [Try.ntmps227, envFrom, Nat.reduceAdd]
 have T := Tys.mk (And.intro Ty.t3 Ty.t4)
 have F := Fc.mk True.intro
 refine v_seqR [0] ?_; intro K1 k1
 refine zAssign ⟨?_⟩
 refine k1 _ ?_
 refine zk ⟨?_⟩
 refine v_seqR [2] ?_; intro K2 k2
 refine zMove ⟨?_⟩
 refine zc (l1In_con _ _ _) ⟨?_⟩
 refine zAssign ⟨?_⟩
 refine k2 _ ?_
 refine zk ⟨?_⟩
 refine v_ret ?_
 refine r0 _ ?_
 refine zf ⟨?_⟩
 exact ret_pure rfl (by first | rfl | simp) (.inl rfl)
def dutyB (a b c : Int) : Bool := (decide (1 ≤ a) && decide (a ≤ 9)) && (decide (1 ≤ b) && decide (b ≤ 21)) && (decide (0 ≤ c) && decide (c ≤ 5))

set_option maxHeartbeats 1000000 in
theorem duGood_con (a b c : Int) : Con Try.prog 160 [.agg [.int .i64 a, .int .i64 b, .int .i64 c]] [] (.bool (dutyB a b c)) [] := by
 refine v_con [.tmp 2] [] Try.func160 rfl rfl rfl (by simp [Try.ntmps160]) ?_
 intro Q0 n0 r0
 simp only [Try.ntmps160, envFrom, Nat.reduceAdd]
 have T := Tys.mk (And.intro Ty.t3 (And.intro Ty.t4 Ty.t104))
 have F := Fc.mk True.intro
 refine v_seqR [1] ?_; intro K1 k1
 refine zBox ⟨?_⟩
 refine zAssign ⟨?_⟩
 refine k1 _ ?_
 refine zk ⟨?_⟩
 refine v_seqR [2] ?_; intro K2 k2
 refine zFieldAddr ⟨?_⟩
 refine zLoad ⟨?_⟩
 refine zc (duPeople_con _) ⟨?_⟩
 refine zMove ⟨?_⟩
 refine zgFieldAddr ⟨?_⟩
 refine zgLoad ⟨?_⟩
 refine zgc (l1In_con _ _ _) ⟨?_⟩
 refine zPick ⟨?_⟩
 refine zMove ⟨?_⟩
 refine zgFieldAddr ⟨?_⟩
 refine zgLoad ⟨?_⟩
 refine zgc (l1In_con _ _ _) ⟨?_⟩
 refine zPick ⟨?_⟩
 refine zAssign ⟨?_⟩
 refine k2 _ ?_
 refine zk ⟨?_⟩
 refine v_ret ?_
 refine r0 _ ?_
 refine zf ⟨?_⟩
 exact ret_pure rfl (by first | rfl | simp [dutyB, Bool.and_assoc]) (.inl rfl)
set_option maxHeartbeats 1000000 in
theorem isDuty_con (a b c : Int) : Con Try.prog 157 [.agg [.int .i64 a, .int .i64 b, .int .i64 c]] [] (.bool (dutyB a b c)) [] := by
 refine v_con [.tmp 2] [] Try.func157 rfl rfl rfl (by simp [Try.ntmps157]) ?_
 intro Q0 n0 r0
 simp only [Try.ntmps157, envFrom, Nat.reduceAdd]
 have T := Tys.mk (And.intro Ty.t3 (And.intro Ty.t4 Ty.t104))
 have F := Fc.mk True.intro
 refine v_seqR [1] ?_; intro K1 k1
 refine zBox ⟨?_⟩
 refine zAssign ⟨?_⟩
 refine k1 _ ?_
 refine zk ⟨?_⟩
 refine v_seqR [2] ?_; intro K2 k2
 refine zFieldAddr ⟨?_⟩
 refine zLoad ⟨?_⟩
 refine zc (inside_con _ _ _) ⟨?_⟩
 refine zMove ⟨?_⟩
 refine zgFieldAddr ⟨?_⟩
 refine zgLoad ⟨?_⟩
 refine zgc (inside_con _ _ _) ⟨?_⟩
 refine zPick ⟨?_⟩
 refine zMove ⟨?_⟩
 refine zgFieldAddr ⟨?_⟩
 refine zgLoad ⟨?_⟩
 refine zgc (inside_con _ _ _) ⟨?_⟩
 refine zPick ⟨?_⟩
 refine zAssign ⟨?_⟩
 refine k2 _ ?_
 refine zk ⟨?_⟩
 refine v_ret ?_
 refine r0 _ ?_
 refine zf ⟨?_⟩
 exact ret_pure rfl (by first | rfl | simp [dutyB, Bool.and_assoc]) (.inl rfl)
set_option maxHeartbeats 1000000 in
theorem specIsDuty_con (a b c : Int) : Con Try.prog 75 [.agg [.int .i64 a, .int .i64 b, .int .i64 c]] [] (.bool (dutyB a b c)) [] := by
 refine v_con [.tmp 2] [] Try.func75 rfl rfl rfl (by simp [Try.ntmps75]) ?_
 intro Q0 n0 r0
 simp only [Try.ntmps75, envFrom, Nat.reduceAdd]
 have T := Tys.mk (And.intro Ty.t3 (And.intro Ty.t4 Ty.t104))
 have F := Fc.mk True.intro
 refine v_seqR [1] ?_; intro K1 k1
 refine zBox ⟨?_⟩
 refine zAssign ⟨?_⟩
 refine k1 _ ?_
 refine zk ⟨?_⟩
 refine v_seqR [2] ?_; intro K2 k2
 refine zLoad ⟨?_⟩
 refine zc (duGood_con _ _ _) ⟨?_⟩
 refine zAssign ⟨?_⟩
 refine k2 _ ?_
 refine zk ⟨?_⟩
 refine v_ret ?_
 refine r0 _ ?_
 refine zf ⟨?_⟩
 exact ret_pure rfl (by first | rfl | simp [dutyB, Bool.and_assoc]) (.inl rfl)
set_option maxHeartbeats 1000000 in
theorem implIsDuty_con (a b c : Int) : Con Try.prog 74 [.agg [.int .i64 a, .int .i64 b, .int .i64 c]] [] (.bool (dutyB a b c)) [] := by
 refine v_con [.tmp 2] [] Try.func74 rfl rfl rfl (by simp [Try.ntmps74]) ?_
 intro Q0 n0 r0
 simp only [Try.ntmps74, envFrom, Nat.reduceAdd]
 have T := Tys.mk (And.intro Ty.t3 (And.intro Ty.t4 Ty.t104))
 have F := Fc.mk True.intro
 refine v_seqR [1] ?_; intro K1 k1
 refine zBox ⟨?_⟩
 refine zAssign ⟨?_⟩
 refine k1 _ ?_
 refine zk ⟨?_⟩
 refine v_seqR [2] ?_; intro K2 k2
 refine zLoad ⟨?_⟩
 refine zc (isDuty_con _ _ _) ⟨?_⟩
 refine zAssign ⟨?_⟩
 refine k2 _ ?_
 refine zk ⟨?_⟩
 refine v_ret ?_
 refine r0 _ ?_
 refine zf ⟨?_⟩
 exact ret_pure rfl (by first | rfl | simp [dutyB, Bool.and_assoc]) (.inl rfl)
def rosterB (d : List (List Int)) (n : Int) : Bool := d.all (fun l => risingAt 0 (IntKind.i64.wrap (n - 1)) l 0) && (decide (1 ≤ n) && decide (n ≤ 9)) && decide ((d.length : Int) ≤ 21)
theorem roster_in {d : List (List Int)} {n : Int} (h : rosterB d n = true) : 1 ≤ n ∧ n ≤ 9 ∧ ∀ l ∈ d, ∀ x ∈ l, 0 ≤ x ∧ x < n := by
  simp only [rosterB, Bool.and_eq_true, decide_eq_true_eq, List.all_eq_true] at h
  obtain ⟨⟨h1, h2, h3⟩, _⟩ := h
  refine ⟨h2, h3, fun l hl x hx => ?_⟩
  have := h1 l hl
  rw [wrap64 (by omega) (by omega)] at this
  have := rising_in (by simpa [risingAt] using this) x hx
  omega
theorem roster_len {d : List (List Int)} {n : Int} (h : rosterB d n = true) : d.length ≤ 21 := by
  simp only [rosterB, Bool.and_eq_true, decide_eq_true_eq] at h
  omega

set_option maxHeartbeats 1000000 in
theorem duRoster_con (d : List (List Int)) (n : Int) (hd : d.length ≤ 1048576) (hds : ∀ l ∈ d, l.length ≤ 1048576) : Con Try.prog 164 [.sl (d.map fun l => V.sl (l.map (V.int .i64))), .int .i64 n] [] (.bool (rosterB d n)) [] := by
 refine v_con [.tmp 4] [] Try.func164 rfl rfl rfl (by simp [Try.ntmps164]) ?_
 intro Q0 n0 r0
 simp only [Try.ntmps164, envFrom, Nat.reduceAdd]
 have T := Tys.mk (And.intro Ty.t3 (And.intro Ty.t4 (And.intro Ty.t31 Ty.t87)))
 have F := Fc.mk True.intro
 refine v_seqR [0,1] ?_; intro K1 k1
 refine zAssign ⟨?_⟩
 refine k1 _ ?_
 refine zk ⟨?_⟩
 refine v_seq ?_; intro Q2 n2 e2 r2
 refine v_seqR [0,1,7,8,9] ?_; intro K3 k3
 refine zMove ⟨?_⟩
 refine zLen ⟨?_⟩
 refine zMove ⟨?_⟩
 refine k3 _ ?_
 refine zk ⟨?_⟩
 refine v_block ?_; intro Q4 n4 x4 e4 r4
 refine v_loop (fun i => ⟨[(0, .sl (d.map fun l => V.sl (l.map (V.int .i64)))), (1, .int .i64 n), (7, .sl (d.map fun l => V.sl (l.map (V.int .i64)))), (8, .int .i64 d.length), (9, .int .i64 (Nat.cast i))], [], false, 26, 0⟩) (fun i => i ≤ d.length ∧ d.all (fun l => risingAt 0 (IntKind.i64.wrap (n - 1)) l 0) = (d.drop i).all (fun l => risingAt 0 (IntKind.i64.wrap (n - 1)) l 0)) (fun i => d.length - i) 0 ?_ ?_ ?_
 ·refine weak_of [0, 1, 7, 8, 9] ?_
  simp only [keep_mk, keepE_nil, keepE_cons, look_cons, look_nil, Nat.reduceEqDiff, reduceIte]
  rfl
 ·exact ⟨Nat.zero_le _, by simp⟩
 ·rintro i hok5 Q5 n5 e5 r5
  obtain ⟨hi1, hR⟩ := hok5
  refine v_seqR [0,1,7,8,9,10] ?_; intro K6 k6
  refine zBinOp ⟨?_⟩
  refine k6 _ ?_
  refine zk ⟨?_⟩
  refine v_seq ?_; intro Q7 n7 e7 r7
  refine v_condS _ rfl ?_ ?_
  ·intro hc0
   have hlt : i < d.length := by omega
   obtain ⟨x, hx⟩ : ∃ x, d[i]? = some x := ⟨d[i], List.getElem?_eq_getElem hlt⟩
   have hlx : x.length ≤ 1048576 := hds x (List.mem_of_getElem? hx)
   have hstep := all_drop (f := (fun l => risingAt 0 (IntKind.i64.wrap (n - 1)) l 0)) hx
   refine v_skip ?_
   refine n7 _ _ (weak_keep [0, 1, 7, 8, 9] _) ?_
   refine zk ⟨?_⟩
   refine v_seq ?_; intro Q9 n9 e9 r9
   refine v_block ?_; intro Q10 n10 x10 e10 r10
   refine v_seqR [0,1,6,7,8,9] ?_; intro K11 k11
   have F := Fc.mk (fun f => getD_map (f := f) hx)
   refine zIndexAddr ⟨?_⟩
   refine zLoad ⟨?_⟩
   refine zAssign ⟨?_⟩
   refine k11 _ ?_
   refine zk ⟨?_⟩
   refine v_seqR [0,1,7,8,9,17] ?_; intro K12 k12
   refine zMove ⟨?_⟩
   refine zMove ⟨?_⟩
   refine zBinOpW ⟨?_⟩
   refine zc (l1Rising_con x 0 _ hlx) ⟨?_⟩
   refine zUnOp ⟨?_⟩
   refine k12 _ ?_
   refine zk ⟨?_⟩
   refine v_condS _ rfl ?_ ?_
   ·intro hc1
    refine v_seqR [4] ?_; intro K14 k14
    refine zAssign ⟨?_⟩
    refine k14 _ ?_
    refine zk ⟨?_⟩
    refine v_ret ?_
    refine r10 _ ?_
    refine r9 _ ?_
    refine r5 _ ?_
    refine r4 _ ?_
    refine r2 _ ?_
    refine r0 _ ?_
    refine zf ⟨?_⟩
    exact ret_pure rfl (by rw [rosterB, hR, hstep, hc1]; simp) (.inl rfl)
   ·intro hc1
    refine v_skip ?_
    refine n10 _ ?_
    refine n9 _ _ (weak_keep [0, 1, 7, 8, 9] _) ?_
    refine zk ⟨?_⟩
    refine v_region ?_; intro K15 k15
    refine zBinOpW ⟨?_⟩
    refine zMove ⟨?_⟩
    refine k15 _ ?_
    refine n5 _ (i + 1) ?_ ?_ ?_
    ·refine weak_of [0, 1, 7, 8, 9] ?_
     simp only [keep_mk, keepE_nil, keepE_cons, look_cons, look_nil, Nat.reduceEqDiff, reduceIte]
     rfl
    ·exact ⟨by omega, by rw [hR, hstep, hc1]; simp⟩
    ·show _ < _; omega
  ·intro hc0
   refine v_exit ?_
   refine e7 _ _ ?_
   refine e5 _ _ ?_
   refine x4 _ ?_
   refine n2 _ _ (weak_keep [0, 1] _) ?_
   refine zk ⟨?_⟩
   refine v_seqR [4] ?_; intro K16 k16
   refine zMove ⟨?_⟩
   refine zc (duPeople_con _) ⟨?_⟩
   refine zMove ⟨?_⟩
   refine zgMove ⟨?_⟩
   refine zgLen ⟨?_⟩
   refine zgBinOp ⟨?_⟩
   refine zPick ⟨?_⟩
   refine zAssign ⟨?_⟩
   refine k16 _ ?_
   refine zk ⟨?_⟩
   refine v_ret ?_
   refine r0 _ ?_
   refine zf ⟨?_⟩
   exact ret_pure rfl (by rw [List.drop_of_length_le (by omega), List.all_nil] at hR; simp only [rosterB, hR]; simp [Bool.and_comm, Bool.and_left_comm, Bool.and_assoc]) (.inl rfl)
set_option maxHeartbeats 1000000 in
theorem isRoster_con (d : List (List Int)) (n : Int) (hd : d.length ≤ 1048576) (hds : ∀ l ∈ d, l.length ≤ 1048576) : Con Try.prog 163 [.sl (d.map fun l => V.sl (l.map (V.int .i64))), .int .i64 n] [] (.bool (rosterB d n)) [] := by
 refine v_con [.tmp 4] [] Try.func163 rfl rfl rfl (by simp [Try.ntmps163]) ?_
 intro Q0 n0 r0
 simp only [Try.ntmps163, envFrom, Nat.reduceAdd]
 have T := Tys.mk (And.intro Ty.t3 (And.intro Ty.t4 (And.intro Ty.t31 Ty.t87)))
 have F := Fc.mk True.intro
 refine v_seqR [0,1] ?_; intro K1 k1
 refine zAssign ⟨?_⟩
 refine k1 _ ?_
 refine zk ⟨?_⟩
 refine v_seq ?_; intro Q2 n2 e2 r2
 refine v_seqR [0,1,9,10,11] ?_; intro K3 k3
 refine zMove ⟨?_⟩
 refine zLen ⟨?_⟩
 refine zMove ⟨?_⟩
 refine k3 _ ?_
 refine zk ⟨?_⟩
 refine v_block ?_; intro Q4 n4 x4 e4 r4
 refine v_loop (fun i => ⟨[(0, .sl (d.map fun l => V.sl (l.map (V.int .i64)))), (1, .int .i64 n), (9, .sl (d.map fun l => V.sl (l.map (V.int .i64)))), (10, .int .i64 d.length), (11, .int .i64 (Nat.cast i))], [], false, 49, 0⟩) (fun i => i ≤ d.length ∧ d.all (fun l => risingAt 0 (IntKind.i64.wrap (n - 1)) l 0) = (d.drop i).all (fun l => risingAt 0 (IntKind.i64.wrap (n - 1)) l 0)) (fun i => d.length - i) 0 ?_ ?_ ?_
 ·refine weak_of [0, 1, 9, 10, 11] ?_
  simp only [keep_mk, keepE_nil, keepE_cons, look_cons, look_nil, Nat.reduceEqDiff, reduceIte]
  rfl
 ·exact ⟨Nat.zero_le _, by simp⟩
 ·rintro i hok5 Q5 n5 e5 r5
  obtain ⟨hi1, hR⟩ := hok5
  refine v_seqR [0,1,9,10,11,12] ?_; intro K6 k6
  refine zBinOp ⟨?_⟩
  refine k6 _ ?_
  refine zk ⟨?_⟩
  refine v_seq ?_; intro Q7 n7 e7 r7
  refine v_condS _ rfl ?_ ?_
  ·intro hc0
   have hlt : i < d.length := by omega
   obtain ⟨x, hx⟩ : ∃ x, d[i]? = some x := ⟨d[i], List.getElem?_eq_getElem hlt⟩
   have hlx : x.length ≤ 1048576 := hds x (List.mem_of_getElem? hx)
   have hstep := all_drop (f := (fun l => risingAt 0 (IntKind.i64.wrap (n - 1)) l 0)) hx
   refine v_skip ?_
   refine n7 _ _ (weak_keep [0, 1, 9, 10, 11] _) ?_
   refine zk ⟨?_⟩
   refine v_seq ?_; intro Q9 n9 e9 r9
   refine v_block ?_; intro Q10 n10 x10 e10 r10
   refine v_seqR [0,1,6,9,10,11] ?_; intro K11 k11
   have F := Fc.mk (fun f => getD_map (f := f) hx)
   refine zIndexAddr ⟨?_⟩
   refine zLoad ⟨?_⟩
   refine zAssign ⟨?_⟩
   refine k11 _ ?_
   refine zk ⟨?_⟩
   refine v_seqR [0,1,6,9,10,11,15,16,17] ?_; intro K12 k12
   refine zMove ⟨?_⟩
   refine zLen ⟨?_⟩
   refine zMove ⟨?_⟩
   refine k12 _ ?_
   refine zk ⟨?_⟩
   refine v_block ?_; intro Q13 n13 x13 e13 r13
   refine v_loop (fun j => ⟨[(0, .sl (d.map fun l => V.sl (l.map (V.int .i64)))), (1, .int .i64 n), (6, .sl (x.map (V.int .i64))), (9, .sl (d.map fun l => V.sl (l.map (V.int .i64)))), (10, .int .i64 d.length), (11, .int .i64 (Nat.cast i)), (15, .sl (x.map (V.int .i64))), (16, .int .i64 x.length), (17, .int .i64 (Nat.cast j))], [], false, 49, 0⟩) (fun j => j ≤ x.length ∧ risingAt 0 (IntKind.i64.wrap (n - 1)) x j = risingAt 0 (IntKind.i64.wrap (n - 1)) x 0) (fun j => x.length - j) 0 ?_ ?_ ?_
   ·refine weak_of [0, 1, 6, 9, 10, 11, 15, 16, 17] ?_
    simp only [keep_mk, keepE_nil, keepE_cons, look_cons, look_nil, Nat.reduceEqDiff, reduceIte]
    rfl
   ·exact ⟨Nat.zero_le _, rfl⟩
   ·rintro j hok14 Q14 n14 e14 r14
    obtain ⟨hj1, hR2⟩ := hok14
    refine v_seqR [0,1,6,9,10,11,15,16,17,18] ?_; intro K15 k15
    refine zBinOp ⟨?_⟩
    refine k15 _ ?_
    refine zk ⟨?_⟩
    refine v_seq ?_; intro Q16 n16 e16 r16
    refine v_condS _ rfl ?_ ?_
    ·intro hc1
     have hltj : j < x.length := by omega
     obtain ⟨y, hy⟩ : ∃ y, x[j]? = some y := ⟨x[j], List.getElem?_eq_getElem hltj⟩
     rcases Nat.eq_zero_or_pos j with h0 | h0
     ·skip
      have hj0 : ¬ ((0 : Int) < (j : Int)) := by omega
      have hst : risingAt 0 (IntKind.i64.wrap (n - 1)) x j = (inR y 0 (IntKind.i64.wrap (n - 1)) && risingAt 0 (IntKind.i64.wrap (n - 1)) x (j + 1)) := by subst h0; exact risingAt_zero hy
      refine v_skip ?_
      refine n16 _ _ (weak_keep [0, 1, 6, 9, 10, 11, 15, 16, 17] _) ?_
      refine zk ⟨?_⟩
      refine v_seq ?_; intro Q18 n18 e18 r18
      refine v_block ?_; intro Q19 n19 x19 e19 r19
      refine v_seqR [0,1,6,7,8,9,10,11,15,16,17] ?_; intro K20 k20
      have F := Fc.mk (And.intro (fun f => getD_map (f := f) hx) (And.intro (fun f => getD_map (f := f) hy) (And.intro hj0 (And.intro @decide_false @Bool.and_false))))
      refine zMove ⟨?_⟩
      refine zIndexAddr ⟨?_⟩
      refine zLoad ⟨?_⟩
      refine zAssign ⟨?_⟩
      refine zAssign ⟨?_⟩
      refine k20 _ ?_
      refine zk ⟨?_⟩
      refine v_seqR [0,1,6,9,10,11,15,16,17,39] ?_; intro K21 k21
      refine zMove ⟨?_⟩
      refine zMove ⟨?_⟩
      refine zBinOpW ⟨?_⟩
      refine zc (inside_con _ _ _) ⟨?_⟩
      refine zUnOp ⟨?_⟩
      refine zMove ⟨?_⟩
      refine zgMove ⟨?_⟩
      refine zgBinOp ⟨?_⟩
      refine zgMove ⟨?_⟩
      refine zgMove ⟨?_⟩
      refine zgMove ⟨?_⟩
      refine zgBinOpW ⟨?_⟩
      refine zgIndexAddr ⟨?_⟩
      refine zgLoad ⟨?_⟩
      refine zgMove ⟨?_⟩
      refine zgBinOp ⟨?_⟩
      refine zgPick ⟨?_⟩
      refine zPick ⟨?_⟩
      refine k21 _ ?_
      refine zk ⟨?_⟩
      refine v_condS _ rfl ?_ ?_
      ·intro hc2
       refine v_seqR [4] ?_; intro K23 k23
       refine zAssign ⟨?_⟩
       refine k23 _ ?_
       refine zk ⟨?_⟩
       refine v_ret ?_
       refine r19 _ ?_
       refine r18 _ ?_
       refine r14 _ ?_
       refine r13 _ ?_
       refine r10 _ ?_
       refine r9 _ ?_
       refine r5 _ ?_
       refine r4 _ ?_
       refine r2 _ ?_
       refine r0 _ ?_
       refine zf ⟨?_⟩
       exact ret_pure rfl (by rw [rosterB, hR, hstep, ← hR2, hst]; simp [inR]; intros; omega) (.inl rfl)
      ·intro hc2
       refine v_skip ?_
       refine n19 _ ?_
       refine n18 _ _ (weak_keep [0, 1, 6, 9, 10, 11, 15, 16, 17] _) ?_
       refine zk ⟨?_⟩
       refine v_region ?_; intro K24 k24
       refine zBinOpW ⟨?_⟩
       refine zMove ⟨?_⟩
       refine k24 _ ?_
       refine n14 _ (j + 1) ?_ ?_ ?_
       ·refine weak_of [0, 1, 6, 9, 10, 11, 15, 16, 17] ?_
        simp only [keep_mk, keepE_nil, keepE_cons, look_cons, look_nil, Nat.reduceEqDiff, reduceIte]
        rfl
       ·exact ⟨by omega, by rw [← hR2, hst]; simp [inR]; intros; omega⟩
       ·show _ < _; omega
     ·skip
      obtain ⟨z, hz⟩ : ∃ z, x[j - 1]? = some z := ⟨x[j - 1], List.getElem?_eq_getElem (by omega)⟩
      have hj0 : (0 : Int) < j := by omega
      have hk : ((j : Int) - 1).toNat = j - 1 := by omega
      have hst := risingAt_succ (lo := 0) (hi := IntKind.i64.wrap (n - 1)) h0 hz hy
      refine v_skip ?_
      refine n16 _ _ (weak_keep [0, 1, 6, 9, 10, 11, 15, 16, 17] _) ?_
      refine zk ⟨?_⟩
      refine v_seq ?_; intro Q25 n25 e25 r25
      refine v_block ?_; intro Q26 n26 x26 e26 r26
      refine v_seqR [0,1,6,7,8,9,10,11,15,16,17] ?_; intro K27 k27
      have F := Fc.mk (And.intro (fun f => getD_map (f := f) hx) (And.intro (fun f => getD_map (f := f) hy) (And.intro hj0 (And.intro hk (And.intro (fun f => getD_map (f := f) hz) (And.intro @decide_true @Bool.and_true))))))
      refine zMove ⟨?_⟩
      refine zIndexAddr ⟨?_⟩
      refine zLoad ⟨?_⟩
      refine zAssign ⟨?_⟩
      refine zAssign ⟨?_⟩
      refine k27 _ ?_
      refine zk ⟨?_⟩
      refine v_seqR [0,1,6,9,10,11,15,16,17,39] ?_; intro K28 k28
      refine zMove ⟨?_⟩
      refine zMove ⟨?_⟩
      refine zBinOpW ⟨?_⟩
      refine zc (inside_con _ _ _) ⟨?_⟩
      refine zUnOp ⟨?_⟩
      refine zMove ⟨?_⟩
      refine zgMove ⟨?_⟩
      refine zgBinOp ⟨?_⟩
      refine zgMove ⟨?_⟩
      refine zgMove ⟨?_⟩
      refine zgMove ⟨?_⟩
      refine zgBinOpW ⟨?_⟩
      refine zgIndexAddr ⟨?_⟩
      refine zgLoad ⟨?_⟩
      refine zgMove ⟨?_⟩
      refine zgBinOp ⟨?_⟩
      refine zgPick ⟨?_⟩
      refine zPick ⟨?_⟩
      refine k28 _ ?_
      refine zk ⟨?_⟩
      refine v_condS _ rfl ?_ ?_
      ·intro hc2
       refine v_seqR [4] ?_; intro K30 k30
       refine zAssign ⟨?_⟩
       refine k30 _ ?_
       refine zk ⟨?_⟩
       refine v_ret ?_
       refine r26 _ ?_
       refine r25 _ ?_
       refine r14 _ ?_
       refine r13 _ ?_
       refine r10 _ ?_
       refine r9 _ ?_
       refine r5 _ ?_
       refine r4 _ ?_
       refine r2 _ ?_
       refine r0 _ ?_
       refine zf ⟨?_⟩
       exact ret_pure rfl (by rw [rosterB, hR, hstep, ← hR2, hst]; simp [inR]; intros; omega) (.inl rfl)
      ·intro hc2
       refine v_skip ?_
       refine n26 _ ?_
       refine n25 _ _ (weak_keep [0, 1, 6, 9, 10, 11, 15, 16, 17] _) ?_
       refine zk ⟨?_⟩
       refine v_region ?_; intro K31 k31
       refine zBinOpW ⟨?_⟩
       refine zMove ⟨?_⟩
       refine k31 _ ?_
       refine n14 _ (j + 1) ?_ ?_ ?_
       ·refine weak_of [0, 1, 6, 9, 10, 11, 15, 16, 17] ?_
        simp only [keep_mk, keepE_nil, keepE_cons, look_cons, look_nil, Nat.reduceEqDiff, reduceIte]
        rfl
       ·exact ⟨by omega, by rw [← hR2, hst]; simp [inR]; intros; omega⟩
       ·show _ < _; omega
    ·intro hc1
     refine v_exit ?_
     refine e16 _ _ ?_
     refine e14 _ _ ?_
     refine x13 _ ?_
     refine n10 _ ?_
     refine n9 _ _ (weak_keep [0, 1, 9, 10, 11] _) ?_
     refine zk ⟨?_⟩
     refine v_region ?_; intro K32 k32
     refine zBinOpW ⟨?_⟩
     refine zMove ⟨?_⟩
     refine k32 _ ?_
     refine n5 _ (i + 1) ?_ ?_ ?_
     ·refine weak_of [0, 1, 9, 10, 11] ?_
      simp only [keep_mk, keepE_nil, keepE_cons, look_cons, look_nil, Nat.reduceEqDiff, reduceIte]
      rfl
     ·exact ⟨by omega, by rw [hR, hstep, ← hR2, risingAt_end (by omega)]; simp⟩
     ·show _ < _; omega
  ·intro hc0
   refine v_exit ?_
   refine e7 _ _ ?_
   refine e5 _ _ ?_
   refine x4 _ ?_
   refine n2 _ _ (weak_keep [0, 1] _) ?_
   refine zk ⟨?_⟩
   refine v_seqR [4] ?_; intro K33 k33
   refine zMove ⟨?_⟩
   refine zLen ⟨?_⟩
   refine zBinOp ⟨?_⟩
   refine zMove ⟨?_⟩
   refine zgMove ⟨?_⟩
   refine zgc (inside_con _ _ _) ⟨?_⟩
   refine zPick ⟨?_⟩
   refine zAssign ⟨?_⟩
   refine k33 _ ?_
   refine zk ⟨?_⟩
   refine v_ret ?_
   refine r0 _ ?_
   refine zf ⟨?_⟩
   exact ret_pure rfl (by rw [List.drop_of_length_le (by omega), List.all_nil] at hR; simp only [rosterB, hR]; simp [Bool.and_comm, Bool.and_left_comm, Bool.and_assoc]) (.inl rfl)
set_option maxHeartbeats 1000000 in
theorem implIsRoster_con (d : List (List Int)) (n : Int) (hd : d.length ≤ 1048576) (hds : ∀ l ∈ d, l.length ≤ 1048576) : Con Try.prog 77 [.sl (d.map fun l => V.sl (l.map (V.int .i64))), .int .i64 n] [] (.bool (rosterB d n)) [] := by
 refine v_con [.tmp 4] [] Try.func77 rfl rfl rfl (by simp [Try.ntmps77]) ?_
 intro Q0 n0 r0
 simp only [Try.ntmps77, envFrom, Nat.reduceAdd]
 have T := Tys.mk (And.intro Ty.t3 (And.intro Ty.t4 (And.intro Ty.t31 Ty.t87)))
 have F := Fc.mk True.intro
 refine v_seqR [0,1] ?_; intro K1 k1
 refine zAssign ⟨?_⟩
 refine k1 _ ?_
 refine zk ⟨?_⟩
 refine v_seqR [4] ?_; intro K2 k2
 refine zMove ⟨?_⟩
 refine zMove ⟨?_⟩
 refine zc (isRoster_con d n hd hds) ⟨?_⟩
 refine zAssign ⟨?_⟩
 refine k2 _ ?_
 refine zk ⟨?_⟩
 refine v_ret ?_
 refine r0 _ ?_
 refine zf ⟨?_⟩
 exact ret_pure rfl rfl (.inl rfl)
def bump (c : List Int) (x : Int) : List Int := c.set x.toNat (IntKind.i64.wrap (c.getD x.toNat 0 + 1))
def shiftsL (d : List (List Int)) (c : List Int) : List Int := d.foldl (fun c l => l.foldl bump c) c
theorem bump_len (c : List Int) (x : Int) : (bump c x).length = c.length := by simp [bump]
theorem bumps_len (l c : List Int) : (l.foldl bump c).length = c.length := by
  induction l generalizing c with
  | nil => rfl
  | cons x l ih => rw [List.foldl_cons, ih, bump_len]
theorem shiftsL_len (d : List (List Int)) (c : List Int) : (shiftsL d c).length = c.length := by
  induction d generalizing c with
  | nil => rfl
  | cons x l ih =>
    have := ih (x.foldl bump c)
    rw [bumps_len] at this
    exact this
def shiftsOf (d : List (List Int)) (n : Int) : List Int := shiftsL d (List.replicate n.toNat 0)
theorem shiftsOf_len (d : List (List Int)) (n : Int) : (shiftsOf d n).length = n.toNat := by rw [shiftsOf, shiftsL_len, List.length_replicate]

set_option maxHeartbeats 1000000 in
theorem duShifts_con (d : List (List Int)) (n : Int) (hd : d.length ≤ 1048576) (hds : ∀ l ∈ d, l.length ≤ 1048576) (hn1 : 1 ≤ n) (hn9 : n ≤ 9) (hroster : ∀ l ∈ d, ∀ x ∈ l, 0 ≤ x ∧ x < n) : Con Try.prog 228 [.sl (d.map fun l => V.sl (l.map (V.int .i64))), .int .i64 n] [] (.ref 0) [.arr ((shiftsOf d n).map (V.int .i64)) .flat] := by
 refine v_con [.tmp 4] [] Try.func228 rfl rfl rfl (by simp [Try.ntmps228]) ?_
 intro Q0 n0 r0
 simp only [Try.ntmps228, envFrom, Nat.reduceAdd]
 have T := Tys.mk (And.intro Ty.t3 (And.intro Ty.t31 Ty.t87))
 have F := Fc.mk True.intro
 refine v_seqR [0,1] ?_; intro K1 k1
 refine zAssign ⟨?_⟩
 refine k1 _ ?_
 refine zk ⟨?_⟩
 refine v_seqR [0,5] ?_; intro K2 k2
 refine zMove ⟨?_⟩
 refine zMakeSlice ⟨?_⟩
 refine zAssign ⟨?_⟩
 refine k2 _ ?_
 refine zk ⟨?_⟩
 refine v_seq ?_; intro Q3 n3 e3 r3
 refine v_seqR [5,12,13,14] ?_; intro K4 k4
 refine zMove ⟨?_⟩
 refine zLen ⟨?_⟩
 refine zMove ⟨?_⟩
 refine k4 _ ?_
 refine zk ⟨?_⟩
 refine v_block ?_; intro Q5 n5 x5 e5 r5
 refine v_loop (fun p => ⟨[(5, .ref 0), (12, .sl (d.map fun l => V.sl (l.map (V.int .i64)))), (13, .int .i64 d.length), (14, .int .i64 (Nat.cast p.1))], [.arr (p.2.map (V.int .i64)) .flat], false, 33, 0⟩) (fun p => p.1 ≤ d.length ∧ p.2.length = n.toNat ∧ shiftsL (d.drop p.1) p.2 = shiftsL d (List.replicate n.toNat 0)) (fun p => d.length - p.1) ((0, List.replicate n.toNat 0) : Nat × List Int) ?_ ?_ ?_
 ·refine weak_bothS [5, 12, 13, 14] [1] ⟨?_⟩
  simp only [List.map_replicate]; rfl
 ·exact ⟨Nat.zero_le _, by simp, by simp⟩
 ·rintro p hok6 Q6 n6 e6 r6
  obtain ⟨hi1, hlen, hR⟩ := hok6
  refine v_seqR [5,12,13,14,15] ?_; intro K7 k7
  refine zBinOp ⟨?_⟩
  refine k7 _ ?_
  refine zk ⟨?_⟩
  refine v_seq ?_; intro Q8 n8 e8 r8
  refine v_condS _ rfl ?_ ?_
  ·intro hc0
   have hlt : p.1 < d.length := by omega
   obtain ⟨l, hx⟩ : ∃ l, d[p.1]? = some l := ⟨d[p.1], List.getElem?_eq_getElem hlt⟩
   have hlx : l.length ≤ 1048576 := hds l (List.mem_of_getElem? hx)
   have hin := hroster l (List.mem_of_getElem? hx)
   refine v_skip ?_
   refine n8 _ _ (weak_keep [5, 12, 13, 14] _) ?_
   refine zk ⟨?_⟩
   refine v_seq ?_; intro Q10 n10 e10 r10
   refine v_block ?_; intro Q11 n11 x11 e11 r11
   refine v_seqR [5,7,12,13,14] ?_; intro K12 k12
   have F := Fc.mk (fun f => getD_map (f := f) hx)
   refine zIndexAddr ⟨?_⟩
   refine zLoad ⟨?_⟩
   refine zAssign ⟨?_⟩
   refine k12 _ ?_
   refine zk ⟨?_⟩
   refine v_seqR [5,12,13,14,18,19,20] ?_; intro K13 k13
   refine zMove ⟨?_⟩
   refine zLen ⟨?_⟩
   refine zMove ⟨?_⟩
   refine k13 _ ?_
   refine zk ⟨?_⟩
   refine v_block ?_; intro Q14 n14 x14 e14 r14
   refine v_loop (fun q => ⟨[(5, .ref 0), (12, .sl (d.map fun l => V.sl (l.map (V.int .i64)))), (13, .int .i64 d.length), (14, .int .i64 (Nat.cast p.1)), (18, .sl (l.map (V.int .i64))), (19, .int .i64 l.length), (20, .int .i64 (Nat.cast q.1))], [.arr (q.2.map (V.int .i64)) .flat], false, 33, 0⟩) (fun q => q.1 ≤ l.length ∧ q.2.length = n.toNat ∧ (l.drop q.1).foldl bump q.2 = l.foldl bump p.2) (fun q => l.length - q.1) ((0, p.2) : Nat × List Int) ?_ ?_ ?_
   ·refine weak_bothS [5, 12, 13, 14, 18, 19, 20] [0] ⟨?_⟩
    rfl
   ·exact ⟨Nat.zero_le _, hlen, rfl⟩
   ·rintro q hok15 Q15 n15 e15 r15
    obtain ⟨hj1, hlen2, hR2⟩ := hok15
    refine v_seqR [5,12,13,14,18,19,20,21] ?_; intro K16 k16
    refine zBinOp ⟨?_⟩
    refine k16 _ ?_
    refine zk ⟨?_⟩
    refine v_seq ?_; intro Q17 n17 e17 r17
    refine v_condS _ rfl ?_ ?_
    ·intro hc1
     have hltj : q.1 < l.length := by omega
     obtain ⟨y, hy⟩ : ∃ y, l[q.1]? = some y := ⟨l[q.1], List.getElem?_eq_getElem hltj⟩
     have hyin := hin y (List.mem_of_getElem? hy)
     obtain ⟨z, hz⟩ : ∃ z, q.2[y.toNat]? = some z := ⟨q.2[y.toNat]'(by omega), List.getElem?_eq_getElem (by omega)⟩
     have hzd : q.2.getD y.toNat 0 = z := by rw [List.getD_eq_getElem?_getD, hz]; rfl
     have hb : q.2.set y.toNat (IntKind.i64.wrap (z + 1)) = bump q.2 y := by rw [bump, hzd]
     refine v_skip ?_
     refine n17 _ _ (weak_keep [5, 12, 13, 14, 18, 19, 20] _) ?_
     refine zk ⟨?_⟩
     refine v_seq ?_; intro Q19 n19 e19 r19
     refine v_block ?_; intro Q20 n20 x20 e20 r20
     refine v_seqR [5,9,12,13,14,18,19,20] ?_; intro K21 k21
     have F := Fc.mk (And.intro (fun f => getD_map (f := f) hx) (And.intro (fun f => getD_map (f := f) hy) (And.intro (fun f => getD_map (f := f) hz) (And.intro @set_map hb))))
     refine zIndexAddr ⟨?_⟩
     refine zLoad ⟨?_⟩
     refine zAssign ⟨?_⟩
     refine k21 _ ?_
     refine zk ⟨?_⟩
     refine v_region ?_; intro K22 k22
     refine zMove ⟨?_⟩
     refine zMove ⟨?_⟩
     refine zIndexAddr ⟨?_⟩
     refine zLoad ⟨?_⟩
     refine zBinOpW ⟨?_⟩
     refine zIndexAddr ⟨?_⟩
     refine zStore ⟨?_⟩
     refine k22 _ ?_
     refine n20 _ ?_
     refine n19 _ _ (weak_keep [5, 12, 13, 14, 18, 19, 20] _) ?_
     refine zk ⟨?_⟩
     refine v_region ?_; intro K23 k23
     refine zBinOpW ⟨?_⟩
     refine zMove ⟨?_⟩
     refine k23 _ ?_
     refine n15 _ (q.1 + 1, bump q.2 y) ?_ ?_ ?_
     ·refine weak_bothS [5, 12, 13, 14, 18, 19, 20] [0] ⟨?_⟩
      rfl
     ·exact ⟨by show q.1 + 1 ≤ _; omega, by show (bump _ _).length = _; rw [bump_len]; exact hlen2, by show (l.drop (q.1 + 1)).foldl bump (bump q.2 y) = _; rw [← hR2, getElem_drop_cons hy]; rfl⟩
     ·show _ < _; show l.length - (q.1 + 1) < _; omega
    ·intro hc1
     refine v_exit ?_
     refine e17 _ _ ?_
     refine e15 _ _ ?_
     refine x14 _ ?_
     refine n11 _ ?_
     refine n10 _ _ (weak_keep [5, 12, 13, 14] _) ?_
     refine zk ⟨?_⟩
     refine v_region ?_; intro K24 k24
     refine zBinOpW ⟨?_⟩
     refine zMove ⟨?_⟩
     refine k24 _ ?_
     refine n6 _ (p.1 + 1, q.2) ?_ ?_ ?_
     ·refine weak_bothS [5, 12, 13, 14] [0] ⟨?_⟩
      rfl
     ·exact ⟨by show p.1 + 1 ≤ _; omega, hlen2, by show shiftsL (d.drop (p.1 + 1)) q.2 = _; rw [← hR, getElem_drop_cons hx]; show _ = shiftsL (d.drop (p.1 + 1)) (l.foldl bump p.2); rw [← hR2, show l.drop q.1 = [] from List.drop_of_length_le (by omega)]; rfl⟩
     ·show _ < _; show d.length - (p.1 + 1) < _; omega
  ·intro hc0
   refine v_exit ?_
   refine e8 _ _ ?_
   refine e6 _ _ ?_
   refine x5 _ ?_
   refine n3 _ _ (weak_keep [5] _) ?_
   refine zk ⟨?_⟩
   refine v_seqR [4] ?_; intro K25 k25
   refine zMove ⟨?_⟩
   refine zAssign ⟨?_⟩
   refine k25 _ ?_
   refine zk ⟨?_⟩
   refine v_ret ?_
   refine r0 _ ?_
   refine zf ⟨?_⟩
   have hfin : p.2 = shiftsOf d n := by rw [shiftsOf, ← hR, show d.drop p.1 = [] from List.drop_of_length_le (by omega)]; rfl
   rw [← hfin]
   exact ret_ref rfl (.inl rfl)
set_option maxHeartbeats 1000000 in
theorem shiftsOf_con (d : List (List Int)) (n : Int) (hd : d.length ≤ 1048576) (hds : ∀ l ∈ d, l.length ≤ 1048576) (hn1 : 1 ≤ n) (hn9 : n ≤ 9) (hroster : ∀ l ∈ d, ∀ x ∈ l, 0 ≤ x ∧ x < n) : Con Try.prog 220 [.sl (d.map fun l => V.sl (l.map (V.int .i64))), .int .i64 n] [] (.ref 0) [.arr ((shiftsOf d n).map (V.int .i64)) .flat] := by
 refine v_con [.tmp 4] [] Try.func220 rfl rfl rfl (by simp [Try.ntmps220]) ?_
 intro Q0 n0 r0
 simp only [Try.ntmps220, envFrom, Nat.reduceAdd]
 have T := Tys.mk (And.intro Ty.t3 (And.intro Ty.t31 Ty.t87))
 have F := Fc.mk True.intro
 refine v_seqR [0,1] ?_; intro K1 k1
 refine zAssign ⟨?_⟩
 refine k1 _ ?_
 refine zk ⟨?_⟩
 refine v_seqR [0,5] ?_; intro K2 k2
 refine zMove ⟨?_⟩
 refine zMakeSlice ⟨?_⟩
 refine zAssign ⟨?_⟩
 refine k2 _ ?_
 refine zk ⟨?_⟩
 refine v_seq ?_; intro Q3 n3 e3 r3
 refine v_seqR [5,12,13,14] ?_; intro K4 k4
 refine zMove ⟨?_⟩
 refine zLen ⟨?_⟩
 refine zMove ⟨?_⟩
 refine k4 _ ?_
 refine zk ⟨?_⟩
 refine v_block ?_; intro Q5 n5 x5 e5 r5
 refine v_loop (fun p => ⟨[(5, .ref 0), (12, .sl (d.map fun l => V.sl (l.map (V.int .i64)))), (13, .int .i64 d.length), (14, .int .i64 (Nat.cast p.1))], [.arr (p.2.map (V.int .i64)) .flat], false, 33, 0⟩) (fun p => p.1 ≤ d.length ∧ p.2.length = n.toNat ∧ shiftsL (d.drop p.1) p.2 = shiftsL d (List.replicate n.toNat 0)) (fun p => d.length - p.1) ((0, List.replicate n.toNat 0) : Nat × List Int) ?_ ?_ ?_
 ·refine weak_bothS [5, 12, 13, 14] [1] ⟨?_⟩
  simp only [List.map_replicate]; rfl
 ·exact ⟨Nat.zero_le _, by simp, by simp⟩
 ·rintro p hok6 Q6 n6 e6 r6
  obtain ⟨hi1, hlen, hR⟩ := hok6
  refine v_seqR [5,12,13,14,15] ?_; intro K7 k7
  refine zBinOp ⟨?_⟩
  refine k7 _ ?_
  refine zk ⟨?_⟩
  refine v_seq ?_; intro Q8 n8 e8 r8
  refine v_condS _ rfl ?_ ?_
  ·intro hc0
   have hlt : p.1 < d.length := by omega
   obtain ⟨l, hx⟩ : ∃ l, d[p.1]? = some l := ⟨d[p.1], List.getElem?_eq_getElem hlt⟩
   have hlx : l.length ≤ 1048576 := hds l (List.mem_of_getElem? hx)
   have hin := hroster l (List.mem_of_getElem? hx)
   refine v_skip ?_
   refine n8 _ _ (weak_keep [5, 12, 13, 14] _) ?_
   refine zk ⟨?_⟩
   refine v_seq ?_; intro Q10 n10 e10 r10
   refine v_block ?_; intro Q11 n11 x11 e11 r11
   refine v_seqR [5,7,12,13,14] ?_; intro K12 k12
   have F := Fc.mk (fun f => getD_map (f := f) hx)
   refine zIndexAddr ⟨?_⟩
   refine zLoad ⟨?_⟩
   refine zAssign ⟨?_⟩
   refine k12 _ ?_
   refine zk ⟨?_⟩
   refine v_seqR [5,12,13,14,18,19,20] ?_; intro K13 k13
   refine zMove ⟨?_⟩
   refine zLen ⟨?_⟩
   refine zMove ⟨?_⟩
   refine k13 _ ?_
   refine zk ⟨?_⟩
   refine v_block ?_; intro Q14 n14 x14 e14 r14
   refine v_loop (fun q => ⟨[(5, .ref 0), (12, .sl (d.map fun l => V.sl (l.map (V.int .i64)))), (13, .int .i64 d.length), (14, .int .i64 (Nat.cast p.1)), (18, .sl (l.map (V.int .i64))), (19, .int .i64 l.length), (20, .int .i64 (Nat.cast q.1))], [.arr (q.2.map (V.int .i64)) .flat], false, 33, 0⟩) (fun q => q.1 ≤ l.length ∧ q.2.length = n.toNat ∧ (l.drop q.1).foldl bump q.2 = l.foldl bump p.2) (fun q => l.length - q.1) ((0, p.2) : Nat × List Int) ?_ ?_ ?_
   ·refine weak_bothS [5, 12, 13, 14, 18, 19, 20] [0] ⟨?_⟩
    rfl
   ·exact ⟨Nat.zero_le _, hlen, rfl⟩
   ·rintro q hok15 Q15 n15 e15 r15
    obtain ⟨hj1, hlen2, hR2⟩ := hok15
    refine v_seqR [5,12,13,14,18,19,20,21] ?_; intro K16 k16
    refine zBinOp ⟨?_⟩
    refine k16 _ ?_
    refine zk ⟨?_⟩
    refine v_seq ?_; intro Q17 n17 e17 r17
    refine v_condS _ rfl ?_ ?_
    ·intro hc1
     have hltj : q.1 < l.length := by omega
     obtain ⟨y, hy⟩ : ∃ y, l[q.1]? = some y := ⟨l[q.1], List.getElem?_eq_getElem hltj⟩
     have hyin := hin y (List.mem_of_getElem? hy)
     obtain ⟨z, hz⟩ : ∃ z, q.2[y.toNat]? = some z := ⟨q.2[y.toNat]'(by omega), List.getElem?_eq_getElem (by omega)⟩
     have hzd : q.2.getD y.toNat 0 = z := by rw [List.getD_eq_getElem?_getD, hz]; rfl
     have hb : q.2.set y.toNat (IntKind.i64.wrap (z + 1)) = bump q.2 y := by rw [bump, hzd]
     refine v_skip ?_
     refine n17 _ _ (weak_keep [5, 12, 13, 14, 18, 19, 20] _) ?_
     refine zk ⟨?_⟩
     refine v_seq ?_; intro Q19 n19 e19 r19
     refine v_block ?_; intro Q20 n20 x20 e20 r20
     refine v_seqR [5,9,12,13,14,18,19,20] ?_; intro K21 k21
     have F := Fc.mk (And.intro (fun f => getD_map (f := f) hx) (And.intro (fun f => getD_map (f := f) hy) (And.intro (fun f => getD_map (f := f) hz) (And.intro @set_map hb))))
     refine zIndexAddr ⟨?_⟩
     refine zLoad ⟨?_⟩
     refine zAssign ⟨?_⟩
     refine k21 _ ?_
     refine zk ⟨?_⟩
     refine v_region ?_; intro K22 k22
     refine zMove ⟨?_⟩
     refine zMove ⟨?_⟩
     refine zIndexAddr ⟨?_⟩
     refine zLoad ⟨?_⟩
     refine zBinOpW ⟨?_⟩
     refine zIndexAddr ⟨?_⟩
     refine zStore ⟨?_⟩
     refine k22 _ ?_
     refine n20 _ ?_
     refine n19 _ _ (weak_keep [5, 12, 13, 14, 18, 19, 20] _) ?_
     refine zk ⟨?_⟩
     refine v_region ?_; intro K23 k23
     refine zBinOpW ⟨?_⟩
     refine zMove ⟨?_⟩
     refine k23 _ ?_
     refine n15 _ (q.1 + 1, bump q.2 y) ?_ ?_ ?_
     ·refine weak_bothS [5, 12, 13, 14, 18, 19, 20] [0] ⟨?_⟩
      rfl
     ·exact ⟨by show q.1 + 1 ≤ _; omega, by show (bump _ _).length = _; rw [bump_len]; exact hlen2, by show (l.drop (q.1 + 1)).foldl bump (bump q.2 y) = _; rw [← hR2, getElem_drop_cons hy]; rfl⟩
     ·show _ < _; show l.length - (q.1 + 1) < _; omega
    ·intro hc1
     refine v_exit ?_
     refine e17 _ _ ?_
     refine e15 _ _ ?_
     refine x14 _ ?_
     refine n11 _ ?_
     refine n10 _ _ (weak_keep [5, 12, 13, 14] _) ?_
     refine zk ⟨?_⟩
     refine v_region ?_; intro K24 k24
     refine zBinOpW ⟨?_⟩
     refine zMove ⟨?_⟩
     refine k24 _ ?_
     refine n6 _ (p.1 + 1, q.2) ?_ ?_ ?_
     ·refine weak_bothS [5, 12, 13, 14] [0] ⟨?_⟩
      rfl
     ·exact ⟨by show p.1 + 1 ≤ _; omega, hlen2, by show shiftsL (d.drop (p.1 + 1)) q.2 = _; rw [← hR, getElem_drop_cons hx]; show _ = shiftsL (d.drop (p.1 + 1)) (l.foldl bump p.2); rw [← hR2, show l.drop q.1 = [] from List.drop_of_length_le (by omega)]; rfl⟩
     ·show _ < _; show d.length - (p.1 + 1) < _; omega
  ·intro hc0
   refine v_exit ?_
   refine e8 _ _ ?_
   refine e6 _ _ ?_
   refine x5 _ ?_
   refine n3 _ _ (weak_keep [5] _) ?_
   refine zk ⟨?_⟩
   refine v_seqR [4] ?_; intro K25 k25
   refine zMove ⟨?_⟩
   refine zAssign ⟨?_⟩
   refine k25 _ ?_
   refine zk ⟨?_⟩
   refine v_ret ?_
   refine r0 _ ?_
   refine zf ⟨?_⟩
   have hfin : p.2 = shiftsOf d n := by rw [shiftsOf, ← hR, show d.drop p.1 = [] from List.drop_of_length_le (by omega)]; rfl
   rw [← hfin]
   exact ret_ref rfl (.inl rfl)
def mostL (l : List Int) (a : Int) : Int := l.foldl (fun m x => if x > m then x else m) a
def leastL (l : List Int) (a : Int) : Int := l.foldl (fun m x => if x < m then x else m) a
theorem most_step {l : List Int} {i : Nat} {x : Int} (h : l[i]? = some x) (m : Int) : mostL (l.drop i) m = mostL (l.drop (i + 1)) (if x > m then x else m) := foldl_drop h m
theorem least_step {l : List Int} {i : Nat} {x : Int} (h : l[i]? = some x) (m : Int) : leastL (l.drop i) m = leastL (l.drop (i + 1)) (if x < m then x else m) := foldl_drop h m
theorem most_end {l : List Int} {i : Nat} (h : l.length ≤ i) (m : Int) : mostL (l.drop i) m = m := foldl_end h m
theorem least_end {l : List Int} {i : Nat} (h : l.length ≤ i) (m : Int) : leastL (l.drop i) m = m := foldl_end h m
theorem most_cons (x : Int) (l : List Int) : mostL (x :: l) x = mostL l x := by simp [mostL]
theorem least_cons (x : Int) (l : List Int) : leastL (x :: l) x = leastL l x := by simp [leastL]

set_option maxHeartbeats 1000000 in
theorem l1Least_con (a b : Int) : Con Try.prog 210 [.int .i64 a, .int .i64 b] [] (.int .i64 (if b < a then b else a)) [] := by
 refine v_con [.tmp 4] [] Try.func210 rfl rfl rfl (by simp [Try.ntmps210]) ?_
 intro Q0 n0 r0
 simp only [Try.ntmps210, envFrom, Nat.reduceAdd]
 have T := Tys.mk Ty.t3
 have F := Fc.mk True.intro
 refine v_seqR [0,1] ?_; intro K1 k1
 refine zAssign ⟨?_⟩
 refine k1 _ ?_
 refine zk ⟨?_⟩
 refine v_seq ?_; intro Q2 n2 e2 r2
 refine v_seqR [0,1,7] ?_; intro K3 k3
 refine zMove ⟨?_⟩
 refine zMove ⟨?_⟩
 refine zBinOp ⟨?_⟩
 refine k3 _ ?_
 refine zk ⟨?_⟩
 refine v_condS _ rfl ?_ ?_
 ·intro hc0
  refine v_seqR [4] ?_; intro K5 k5
  refine zMove ⟨?_⟩
  refine zAssign ⟨?_⟩
  refine k5 _ ?_
  refine zk ⟨?_⟩
  refine v_ret ?_
  refine r2 _ ?_
  refine r0 _ ?_
  refine zf ⟨?_⟩
  exact ret_pure rfl (by congr 1; split <;> omega) (.inl rfl)
 ·intro hc0
  refine v_skip ?_
  refine n2 _ _ (weak_keep [1] _) ?_
  refine zk ⟨?_⟩
  refine v_seqR [4] ?_; intro K6 k6
  refine zMove ⟨?_⟩
  refine zAssign ⟨?_⟩
  refine k6 _ ?_
  refine zk ⟨?_⟩
  refine v_ret ?_
  refine r0 _ ?_
  refine zf ⟨?_⟩
  exact ret_pure rfl (by congr 1; split <;> omega) (.inl rfl)
set_option maxHeartbeats 1000000 in
theorem l1Most_con (a b : Int) : Con Try.prog 167 [.int .i64 a, .int .i64 b] [] (.int .i64 (if b > a then b else a)) [] := by
 refine v_con [.tmp 4] [] Try.func167 rfl rfl rfl (by simp [Try.ntmps167]) ?_
 intro Q0 n0 r0
 simp only [Try.ntmps167, envFrom, Nat.reduceAdd]
 have T := Tys.mk Ty.t3
 have F := Fc.mk True.intro
 refine v_seqR [0,1] ?_; intro K1 k1
 refine zAssign ⟨?_⟩
 refine k1 _ ?_
 refine zk ⟨?_⟩
 refine v_seq ?_; intro Q2 n2 e2 r2
 refine v_seqR [0,1,7] ?_; intro K3 k3
 refine zMove ⟨?_⟩
 refine zMove ⟨?_⟩
 refine zBinOp ⟨?_⟩
 refine k3 _ ?_
 refine zk ⟨?_⟩
 refine v_condS _ rfl ?_ ?_
 ·intro hc0
  refine v_seqR [4] ?_; intro K5 k5
  refine zMove ⟨?_⟩
  refine zAssign ⟨?_⟩
  refine k5 _ ?_
  refine zk ⟨?_⟩
  refine v_ret ?_
  refine r2 _ ?_
  refine r0 _ ?_
  refine zf ⟨?_⟩
  exact ret_pure rfl (by congr 1; split <;> omega) (.inl rfl)
 ·intro hc0
  refine v_skip ?_
  refine n2 _ _ (weak_keep [1] _) ?_
  refine zk ⟨?_⟩
  refine v_seqR [4] ?_; intro K6 k6
  refine zMove ⟨?_⟩
  refine zAssign ⟨?_⟩
  refine k6 _ ?_
  refine zk ⟨?_⟩
  refine v_ret ?_
  refine r0 _ ?_
  refine zf ⟨?_⟩
  exact ret_pure rfl (by congr 1; split <;> omega) (.inl rfl)
def idxFrom (x : Int) : Nat → List Int → Int
  | _, [] => -1
  | i, y :: l => if x = y then i else idxFrom x (i + 1) l
theorem idx_step {x y : Int} {l : List Int} {i : Nat} (h : l[i]? = some y) : idxFrom x i (l.drop i) = if x = y then (i : Int) else idxFrom x (i + 1) (l.drop (i + 1)) := by
  rw [getElem_drop_cons h, idxFrom]
theorem idx_end {x : Int} {l : List Int} {i k : Nat} (h : l.length ≤ i) : idxFrom x k (l.drop i) = -1 := by
  rw [List.drop_of_length_le h, idxFrom]
theorem idx_mem (x : Int) : ∀ (l : List Int) (i : Nat), (0 ≤ idxFrom x i l) ↔ x ∈ l
  | [], i => by simp [idxFrom]
  | y :: l, i => by
    rw [idxFrom, List.mem_cons]
    split
    · rename_i h; simp [h]
    · rename_i h; rw [idx_mem x l (i + 1)]; simp [h]
theorem any_drop {α : Type} {f : α → Bool} {l : List α} {i : Nat} {x : α} (h : l[i]? = some x) : (l.drop i).any f = (f x || (l.drop (i + 1)).any f) := by
  rw [getElem_drop_cons h, List.any_cons]
theorem any_end {α : Type} {f : α → Bool} {l : List α} {i : Nat} (h : l.length ≤ i) : (l.drop i).any f = false := by
  rw [List.drop_of_length_le h]; rfl
theorem find_step {α : Type} {p : α → Bool} {l : List α} {i : Nat} {x : α} (h : l[i]? = some x) : (l.drop i).find? p = if p x then some x else (l.drop (i + 1)).find? p := by
  rw [getElem_drop_cons h, List.find?_cons]
  cases p x <;> rfl
theorem find_end {α : Type} {p : α → Bool} {l : List α} {i : Nat} (h : l.length ≤ i) : (l.drop i).find? p = none := by
  rw [List.drop_of_length_le h]; rfl

set_option maxHeartbeats 1000000 in
theorem slIndex_con (l : List Int) (x : Int) (hl : l.length ≤ 1048576) : Con Try.prog 238 [.sl (l.map (V.int .i64)), .int .i64 x] [] (.int .i64 (idxFrom x 0 l)) [] := by
 refine v_con [.tmp 4] [] Try.func238 rfl rfl rfl (by simp [Try.ntmps238]) ?_
 intro Q0 n0 r0
 simp only [Try.ntmps238, envFrom, Nat.reduceAdd]
 have T := Tys.mk (And.intro Ty.t3 Ty.t31)
 have F := Fc.mk True.intro
 refine v_seqR [0,1] ?_; intro K1 k1
 refine zAssign ⟨?_⟩
 refine k1 _ ?_
 refine zk ⟨?_⟩
 refine v_seq ?_; intro Q2 n2 e2 r2
 refine v_seqR [0,1,7,8] ?_; intro K3 k3
 refine zMove ⟨?_⟩
 refine zLen ⟨?_⟩
 refine zMove ⟨?_⟩
 refine k3 _ ?_
 refine zk ⟨?_⟩
 refine v_block ?_; intro Q4 n4 x4 e4 r4
 refine v_loop (fun i => ⟨[(0, .sl (l.map (V.int .i64))), (1, .int .i64 x), (7, .int .i64 l.length), (8, .int .i64 (Nat.cast i))], [], false, 19, 0⟩) (fun i => i ≤ l.length ∧ idxFrom x i (l.drop i) = idxFrom x 0 l) (fun i => l.length - i) 0 ?_ ?_ ?_
 ·refine weak_of [0, 1, 7, 8] ?_
  simp only [keep_mk, keepE_nil, keepE_cons, look_cons, look_nil, Nat.reduceEqDiff, reduceIte]
  rfl
 ·exact ⟨Nat.zero_le _, rfl⟩
 ·rintro i hok5 Q5 n5 e5 r5
  obtain ⟨hi1, hR⟩ := hok5
  refine v_seqR [0,1,7,8,9] ?_; intro K6 k6
  refine zBinOp ⟨?_⟩
  refine k6 _ ?_
  refine zk ⟨?_⟩
  refine v_seq ?_; intro Q7 n7 e7 r7
  refine v_condS _ rfl ?_ ?_
  ·intro hc0
   have hlt : i < l.length := by omega
   obtain ⟨y, hy⟩ : ∃ y, l[i]? = some y := ⟨l[i], List.getElem?_eq_getElem hlt⟩
   have hst := idx_step (x := x) hy
   refine v_skip ?_
   refine n7 _ _ (weak_keep [0, 1, 7, 8] _) ?_
   refine zk ⟨?_⟩
   refine v_seq ?_; intro Q9 n9 e9 r9
   refine v_block ?_; intro Q10 n10 x10 e10 r10
   refine v_seqR [0,1,5,7,8] ?_; intro K11 k11
   have F := Fc.mk (fun f => getD_map (f := f) hy)
   refine zMove ⟨?_⟩
   refine zAssign ⟨?_⟩
   refine k11 _ ?_
   refine zk ⟨?_⟩
   refine v_seqR [0,1,5,7,8,16] ?_; intro K12 k12
   refine zMove ⟨?_⟩
   refine zMove ⟨?_⟩
   refine zMove ⟨?_⟩
   refine zIndexAddr ⟨?_⟩
   refine zLoad ⟨?_⟩
   refine zBinOp ⟨?_⟩
   refine k12 _ ?_
   refine zk ⟨?_⟩
   refine v_condS _ rfl ?_ ?_
   ·intro hc1
    refine v_seqR [4] ?_; intro K14 k14
    refine zMove ⟨?_⟩
    refine zAssign ⟨?_⟩
    refine k14 _ ?_
    refine zk ⟨?_⟩
    refine v_ret ?_
    refine r10 _ ?_
    refine r9 _ ?_
    refine r5 _ ?_
    refine r4 _ ?_
    refine r2 _ ?_
    refine r0 _ ?_
    refine zf ⟨?_⟩
    exact ret_pure rfl (by rw [← hR, hst, if_pos hc1]) (.inl rfl)
   ·intro hc1
    refine v_skip ?_
    refine n10 _ ?_
    refine n9 _ _ (weak_keep [0, 1, 7, 8] _) ?_
    refine zk ⟨?_⟩
    refine v_region ?_; intro K15 k15
    refine zBinOpW ⟨?_⟩
    refine zMove ⟨?_⟩
    refine k15 _ ?_
    refine n5 _ (i + 1) ?_ ?_ ?_
    ·refine weak_of [0, 1, 7, 8] ?_
     simp only [keep_mk, keepE_nil, keepE_cons, look_cons, look_nil, Nat.reduceEqDiff, reduceIte]
     rfl
    ·exact ⟨by omega, by rw [← hR, hst, if_neg hc1]⟩
    ·show _ < _; omega
  ·intro hc0
   refine v_exit ?_
   refine e7 _ _ ?_
   refine e5 _ _ ?_
   refine x4 _ ?_
   refine n2 _ _ (weak_keep [] _) ?_
   refine zk ⟨?_⟩
   refine v_seqR [4] ?_; intro K16 k16
   refine zAssign ⟨?_⟩
   refine k16 _ ?_
   refine zk ⟨?_⟩
   refine v_ret ?_
   refine r0 _ ?_
   refine zf ⟨?_⟩
   exact ret_pure rfl (by rw [← hR, idx_end (by omega)]) (.inl rfl)
set_option maxHeartbeats 1000000 in
theorem slContains_con (l : List Int) (x : Int) (hl : l.length ≤ 1048576) : Con Try.prog 189 [.sl (l.map (V.int .i64)), .int .i64 x] [] (.bool (decide (x ∈ l))) [] := by
 refine v_con [.tmp 4] [] Try.func189 rfl rfl rfl (by simp [Try.ntmps189]) ?_
 intro Q0 n0 r0
 simp only [Try.ntmps189, envFrom, Nat.reduceAdd]
 have T := Tys.mk (And.intro Ty.t3 Ty.t31)
 have F := Fc.mk True.intro
 refine v_seqR [0,1] ?_; intro K1 k1
 refine zAssign ⟨?_⟩
 refine k1 _ ?_
 refine zk ⟨?_⟩
 refine v_seqR [4] ?_; intro K2 k2
 refine zMove ⟨?_⟩
 refine zMove ⟨?_⟩
 refine zc (slIndex_con l x hl) ⟨?_⟩
 refine zBinOp ⟨?_⟩
 refine zAssign ⟨?_⟩
 refine k2 _ ?_
 refine zk ⟨?_⟩
 refine v_ret ?_
 refine r0 _ ?_
 refine zf ⟨?_⟩
 exact ret_pure rfl (by congr 1; exact decide_eq_decide.2 (idx_mem x l 0)) (.inl rfl)
set_option maxHeartbeats 1000000 in
theorem l1Has_con (l : List Int) (x : Int) (hl : l.length ≤ 1048576) : Con Try.prog 190 [.sl (l.map (V.int .i64)), .int .i64 x] [] (.bool (decide (x ∈ l))) [] := by
 refine v_con [.tmp 4] [] Try.func190 rfl rfl rfl (by simp [Try.ntmps190]) ?_
 intro Q0 n0 r0
 simp only [Try.ntmps190, envFrom, Nat.reduceAdd]
 have T := Tys.mk (And.intro Ty.t3 Ty.t31)
 have F := Fc.mk True.intro
 refine v_seqR [0,1] ?_; intro K1 k1
 refine zAssign ⟨?_⟩
 refine k1 _ ?_
 refine zk ⟨?_⟩
 refine v_seq ?_; intro Q2 n2 e2 r2
 refine v_seqR [1,7,8,9] ?_; intro K3 k3
 refine zMove ⟨?_⟩
 refine zLen ⟨?_⟩
 refine zMove ⟨?_⟩
 refine k3 _ ?_
 refine zk ⟨?_⟩
 refine v_block ?_; intro Q4 n4 x4 e4 r4
 refine v_loop (fun i => ⟨[(1, .int .i64 x), (7, .sl (l.map (V.int .i64))), (8, .int .i64 l.length), (9, .int .i64 (Nat.cast i))], [], false, 17, 0⟩) (fun i => i ≤ l.length ∧ (x ∈ l.drop i ↔ x ∈ l)) (fun i => l.length - i) 0 ?_ ?_ ?_
 ·refine weak_of [1, 7, 8, 9] ?_
  simp only [keep_mk, keepE_nil, keepE_cons, look_cons, look_nil, Nat.reduceEqDiff, reduceIte]
  rfl
 ·exact ⟨Nat.zero_le _, Iff.rfl⟩
 ·rintro i hok5 Q5 n5 e5 r5
  obtain ⟨hi1, hR⟩ := hok5
  refine v_seqR [1,7,8,9,10] ?_; intro K6 k6
  refine zBinOp ⟨?_⟩
  refine k6 _ ?_
  refine zk ⟨?_⟩
  refine v_seq ?_; intro Q7 n7 e7 r7
  refine v_condS _ rfl ?_ ?_
  ·intro hc0
   have hlt : i < l.length := by omega
   obtain ⟨y, hy⟩ : ∃ y, l[i]? = some y := ⟨l[i], List.getElem?_eq_getElem hlt⟩
   have hst : x ∈ l.drop i ↔ (x = y ∨ x ∈ l.drop (i + 1)) := by rw [getElem_drop_cons hy, List.mem_cons]
   refine v_skip ?_
   refine n7 _ _ (weak_keep [1, 7, 8, 9] _) ?_
   refine zk ⟨?_⟩
   refine v_seq ?_; intro Q9 n9 e9 r9
   refine v_block ?_; intro Q10 n10 x10 e10 r10
   refine v_seqR [1,6,7,8,9] ?_; intro K11 k11
   have F := Fc.mk (fun f => getD_map (f := f) hy)
   refine zIndexAddr ⟨?_⟩
   refine zLoad ⟨?_⟩
   refine zAssign ⟨?_⟩
   refine k11 _ ?_
   refine zk ⟨?_⟩
   refine v_seqR [1,7,8,9,15] ?_; intro K12 k12
   refine zMove ⟨?_⟩
   refine zMove ⟨?_⟩
   refine zBinOp ⟨?_⟩
   refine k12 _ ?_
   refine zk ⟨?_⟩
   refine v_condS _ rfl ?_ ?_
   ·intro hc1
    refine v_seqR [4] ?_; intro K14 k14
    refine zAssign ⟨?_⟩
    refine k14 _ ?_
    refine zk ⟨?_⟩
    refine v_ret ?_
    refine r10 _ ?_
    refine r9 _ ?_
    refine r5 _ ?_
    refine r4 _ ?_
    refine r2 _ ?_
    refine r0 _ ?_
    refine zf ⟨?_⟩
    exact ret_pure rfl (by rw [decide_eq_true (hR.1 (hst.2 (.inl hc1.symm)))]) (.inl rfl)
   ·intro hc1
    refine v_skip ?_
    refine n10 _ ?_
    refine n9 _ _ (weak_keep [1, 7, 8, 9] _) ?_
    refine zk ⟨?_⟩
    refine v_region ?_; intro K15 k15
    refine zBinOpW ⟨?_⟩
    refine zMove ⟨?_⟩
    refine k15 _ ?_
    refine n5 _ (i + 1) ?_ ?_ ?_
    ·refine weak_of [1, 7, 8, 9] ?_
     simp only [keep_mk, keepE_nil, keepE_cons, look_cons, look_nil, Nat.reduceEqDiff, reduceIte]
     rfl
    ·exact ⟨by omega, hR.symm.trans (hst.trans ⟨fun h => h.elim (fun q => absurd q.symm hc1) id, .inr⟩) |>.symm⟩
    ·show _ < _; omega
  ·intro hc0
   refine v_exit ?_
   refine e7 _ _ ?_
   refine e5 _ _ ?_
   refine x4 _ ?_
   refine n2 _ _ (weak_keep [] _) ?_
   refine zk ⟨?_⟩
   refine v_seqR [4] ?_; intro K16 k16
   refine zAssign ⟨?_⟩
   refine k16 _ ?_
   refine zk ⟨?_⟩
   refine v_ret ?_
   refine r0 _ ?_
   refine zf ⟨?_⟩
   exact ret_pure rfl (by rw [decide_eq_false (fun h => by have := hR.2 h; rw [List.drop_of_length_le (by omega)] at this; cases this)]) (.inl rfl)
end Go.Proofs.Ytmlicajgbgjphaa
