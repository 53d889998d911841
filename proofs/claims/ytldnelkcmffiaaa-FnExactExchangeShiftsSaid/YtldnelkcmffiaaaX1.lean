/- What functions compute. No condition. -/
import Derived.Test.YtldnelkcmffiaaaUty
import Derived.Test.YtldnelkcmffiaaaUmG
set_option linter.unusedSimpArgs false
set_option linter.unusedVariables false
set_option linter.defProp false
namespace Go.Proofs.Ytldnelkcmffiaaa
open Go Go.Vm

set_option maxHeartbeats 1000000 in
theorem inside_con (n lo hi : Int) : Con Try.prog 34 [.int .i64 n, .int .i64 lo, .int .i64 hi] [] (.bool (decide (lo ≤ n) && decide (n ≤ hi))) [] := by
 refine v_con [.tmp 6] [] Try.func34 rfl rfl rfl (by simp [Try.ntmps34]) ?_
 intro Q0 n0 r0
 simp only [Try.ntmps34, envFrom, Nat.reduceAdd]
 have T := Tys.mk Ty.t3
 have F := Fc.mk True.intro
 refine v_seqR [0,1,2] ?_; intro K1 k1
 refine zAssign ⟨?_⟩
 refine k1 _ ?_
 refine zk ⟨?_⟩
 refine v_seqR [6] ?_; intro K2 k2
 refine zMove ⟨?_⟩
 refine zMove ⟨?_⟩
 refine zBinOp ⟨?_⟩
 refine zMove ⟨?_⟩
 refine zgMove ⟨?_⟩
 refine zgMove ⟨?_⟩
 refine zgBinOp ⟨?_⟩
 refine zPick ⟨?_⟩
 refine zAssign ⟨?_⟩
 refine k2 _ ?_
 refine zk ⟨?_⟩
 refine v_ret ?_
 refine r0 _ ?_
 refine zf ⟨?_⟩
 exact ret_pure rfl (by first | rfl | simp) (.inl rfl)
set_option maxHeartbeats 1000000 in
theorem l1In_con (n lo hi : Int) : Con Try.prog 29 [.int .i64 n, .int .i64 lo, .int .i64 hi] [] (.bool (decide (lo ≤ n) && decide (n ≤ hi))) [] := by
 refine v_con [.tmp 6] [] Try.func29 rfl rfl rfl (by simp [Try.ntmps29]) ?_
 intro Q0 n0 r0
 simp only [Try.ntmps29, envFrom, Nat.reduceAdd]
 have T := Tys.mk Ty.t3
 have F := Fc.mk True.intro
 refine v_seqR [0,1,2] ?_; intro K1 k1
 refine zAssign ⟨?_⟩
 refine k1 _ ?_
 refine zk ⟨?_⟩
 refine v_seqR [6] ?_; intro K2 k2
 refine zMove ⟨?_⟩
 refine zMove ⟨?_⟩
 refine zBinOp ⟨?_⟩
 refine zMove ⟨?_⟩
 refine zgMove ⟨?_⟩
 refine zgMove ⟨?_⟩
 refine zgBinOp ⟨?_⟩
 refine zPick ⟨?_⟩
 refine zAssign ⟨?_⟩
 refine k2 _ ?_
 refine zk ⟨?_⟩
 refine v_ret ?_
 refine r0 _ ?_
 refine zf ⟨?_⟩
 exact ret_pure rfl (by first | rfl | simp) (.inl rfl)
theorem getElem_drop_cons {α : Type} {l : List α} {i : Nat} {x : α} (h : l[i]? = some x) : l.drop i = x :: l.drop (i + 1) := by
  obtain ⟨hi, rfl⟩ := List.getElem?_eq_some_iff.1 h
  exact List.drop_eq_getElem_cons hi
theorem eq_drop {α : Type} [DecidableEq α] {a b : List α} {i : Nat} (h : a.length = b.length) {x y : α} (hx : a[i]? = some x) (hy : b[i]? = some y) : (a.drop i = b.drop i) ↔ (x = y ∧ a.drop (i + 1) = b.drop (i + 1)) := by
  rw [getElem_drop_cons hx, getElem_drop_cons hy, List.cons.injEq]
theorem all_drop {α : Type} {f : α → Bool} {l : List α} {i : Nat} {x : α} (h : l[i]? = some x) : (l.drop i).all f = (f x && (l.drop (i + 1)).all f) := by
  rw [getElem_drop_cons h, List.all_cons]
theorem foldl_drop {α β : Type} {f : β → α → β} {l : List α} {i : Nat} {x : α} (h : l[i]? = some x) (b : β) : (l.drop i).foldl f b = (l.drop (i + 1)).foldl f (f b x) := by
  rw [getElem_drop_cons h, List.foldl_cons]
theorem foldl_end {α β : Type} {f : β → α → β} {l : List α} {i : Nat} (h : l.length ≤ i) (b : β) : (l.drop i).foldl f b = b := by
  rw [List.drop_of_length_le h]; rfl
theorem set_map {α : Type} {f : α → V} {l : List α} {i : Nat} {x : α} : (l.map f).set i (f x) = (l.set i x).map f := (List.map_set).symm

def inR (n lo hi : Int) : Bool := decide (lo ≤ n) && decide (n ≤ hi)
def risingFrom (lo hi : Int) : Option Int → List Int → Bool
  | _, [] => true
  | none, x :: xs => inR x lo hi && risingFrom lo hi (some x) xs
  | some p, x :: xs => inR x lo hi && decide (p < x) && risingFrom lo hi (some x) xs
def risingAt (lo hi : Int) (l : List Int) (i : Nat) : Bool := risingFrom lo hi (if i = 0 then none else l[i - 1]?) (l.drop i)
theorem risingAt_zero {lo hi : Int} {l : List Int} {x : Int} (h : l[0]? = some x) : risingAt lo hi l 0 = (inR x lo hi && risingAt lo hi l 1) := by
  simp only [risingAt, getElem_drop_cons h, if_true, risingFrom]
  simp [h]
theorem risingAt_succ {lo hi : Int} {l : List Int} {x y : Int} {i : Nat} (h0 : 0 < i) (hy : l[i - 1]? = some y) (h : l[i]? = some x) : risingAt lo hi l i = (inR x lo hi && decide (y < x) && risingAt lo hi l (i + 1)) := by
  simp only [risingAt, getElem_drop_cons h, hy, show ¬ i = 0 by omega, if_false, risingFrom]
  simp [h]
theorem risingAt_end {lo hi : Int} {l : List Int} {i : Nat} (h : l.length ≤ i) : risingAt lo hi l i = true := by
  simp only [risingAt, List.drop_of_length_le h]
  split <;> rfl
theorem rising_in {lo hi : Int} : ∀ {l : List Int} {p : Option Int}, risingFrom lo hi p l = true → ∀ x ∈ l, lo ≤ x ∧ x ≤ hi
  | [], _, _, x, hx => by cases hx
  | y :: l, p, h, x, hx => by
    have h2 : inR y lo hi = true ∧ risingFrom lo hi (some y) l = true := by
      cases p <;> simp [risingFrom] at h <;> simp [h]
    rcases List.mem_cons.1 hx with rfl | h3
    · simpa [inR] using h2.1
    · exact rising_in h2.2 x h3

set_option maxHeartbeats 1000000 in
theorem l1Rising_con (l : List Int) (lo hi : Int) (hl : l.length ≤ 1048576) : Con Try.prog 67 [.sl (l.map (V.int .i64)), .int .i64 lo, .int .i64 hi] [] (.bool (risingAt lo hi l 0)) [] := by
 refine v_con [.tmp 6] [] Try.func67 rfl rfl rfl (by simp [Try.ntmps67]) ?_
 intro Q0 n0 r0
 simp only [Try.ntmps67, envFrom, Nat.reduceAdd]
 have T := Tys.mk (And.intro Ty.t3 (And.intro Ty.t4 Ty.t41))
 have F := Fc.mk True.intro
 refine v_seqR [0,1,2] ?_; intro K1 k1
 refine zAssign ⟨?_⟩
 refine k1 _ ?_
 refine zk ⟨?_⟩
 refine v_seq ?_; intro Q2 n2 e2 r2
 refine v_seqR [0,1,2,9,10,11] ?_; intro K3 k3
 refine zMove ⟨?_⟩
 refine zLen ⟨?_⟩
 refine zMove ⟨?_⟩
 refine k3 _ ?_
 refine zk ⟨?_⟩
 refine v_block ?_; intro Q4 n4 x4 e4 r4
 refine v_loop (fun i => ⟨[(0, .sl (l.map (V.int .i64))), (1, .int .i64 lo), (2, .int .i64 hi), (9, .sl (l.map (V.int .i64))), (10, .int .i64 l.length), (11, .int .i64 (Nat.cast i))], [], false, 35, 0⟩) (fun i => i ≤ l.length ∧ risingAt lo hi l i = risingAt lo hi l 0) (fun i => l.length - i) 0 ?_ ?_ ?_
 ·refine weak_of [0, 1, 2, 9, 10, 11] ?_
  simp only [keep_mk, keepE_nil, keepE_cons, look_cons, look_nil, Nat.reduceEqDiff, reduceIte]
  rfl
 ·exact ⟨Nat.zero_le _, rfl⟩
 ·rintro i hok5 Q5 n5 e5 r5
  obtain ⟨hi1, hR⟩ := hok5
  refine v_seqR [0,1,2,9,10,11,12] ?_; intro K6 k6
  refine zBinOp ⟨?_⟩
  refine k6 _ ?_
  refine zk ⟨?_⟩
  refine v_seq ?_; intro Q7 n7 e7 r7
  refine v_condS _ rfl ?_ ?_
  ·intro hc0
   have hlt : i < l.length := by omega
   obtain ⟨x, hx⟩ : ∃ x, l[i]? = some x := ⟨l[i], List.getElem?_eq_getElem hlt⟩
   rcases Nat.eq_zero_or_pos i with h0 | h0
   ·skip
    have hi0 : ¬ ((0 : Int) < (i : Int)) := by omega
    have hstep : risingAt lo hi l i = (inR x lo hi && risingAt lo hi l (i + 1)) := by subst h0; exact risingAt_zero hx
    refine v_skip ?_
    refine n7 _ _ (weak_keep [0, 1, 2, 9, 10, 11] _) ?_
    refine zk ⟨?_⟩
    refine v_seq ?_; intro Q9 n9 e9 r9
    refine v_block ?_; intro Q10 n10 x10 e10 r10
    refine v_seqR [0,1,2,7,8,9,10,11] ?_; intro K11 k11
    have F := Fc.mk (And.intro (fun f => getD_map (f := f) hx) (And.intro hi0 (And.intro @decide_false @Bool.and_false)))
    refine zMove ⟨?_⟩
    refine zIndexAddr ⟨?_⟩
    refine zLoad ⟨?_⟩
    refine zAssign ⟨?_⟩
    refine zAssign ⟨?_⟩
    refine k11 _ ?_
    refine zk ⟨?_⟩
    refine v_seqR [0,1,2,9,10,11,33] ?_; intro K12 k12
    refine zMove ⟨?_⟩
    refine zMove ⟨?_⟩
    refine zMove ⟨?_⟩
    refine zc (l1In_con _ _ _) ⟨?_⟩
    refine zUnOp ⟨?_⟩
    refine zMove ⟨?_⟩
    refine zgMove ⟨?_⟩
    refine zgBinOp ⟨?_⟩
    refine zgMove ⟨?_⟩
    refine zgMove ⟨?_⟩
    refine zgMove ⟨?_⟩
    refine zgBinOpW ⟨?_⟩
    refine zgIndexAddr ⟨?_⟩
    refine zgLoad ⟨?_⟩
    refine zgMove ⟨?_⟩
    refine zgBinOp ⟨?_⟩
    refine zgPick ⟨?_⟩
    refine zPick ⟨?_⟩
    refine k12 _ ?_
    refine zk ⟨?_⟩
    refine v_condS _ rfl ?_ ?_
    ·intro hc1
     refine v_seqR [6] ?_; intro K14 k14
     refine zAssign ⟨?_⟩
     refine k14 _ ?_
     refine zk ⟨?_⟩
     refine v_ret ?_
     refine r10 _ ?_
     refine r9 _ ?_
     refine r5 _ ?_
     refine r4 _ ?_
     refine r2 _ ?_
     refine r0 _ ?_
     refine zf ⟨?_⟩
     exact ret_pure rfl (by rw [← hR, hstep]; congr 1; simp [inR]; intros; omega) (.inl rfl)
    ·intro hc1
     refine v_skip ?_
     refine n10 _ ?_
     refine n9 _ _ (weak_keep [0, 1, 2, 9, 10, 11] _) ?_
     refine zk ⟨?_⟩
     refine v_region ?_; intro K15 k15
     refine zBinOpW ⟨?_⟩
     refine zMove ⟨?_⟩
     refine k15 _ ?_
     refine n5 _ (i + 1) ?_ ?_ ?_
     ·refine weak_of [0, 1, 2, 9, 10, 11] ?_
      simp only [keep_mk, keepE_nil, keepE_cons, look_cons, look_nil, Nat.reduceEqDiff, reduceIte]
      rfl
     ·exact ⟨by omega, by rw [← hR, hstep]; simp [inR]; intros; omega⟩
     ·show _ < _; omega
   ·skip
    obtain ⟨y, hy⟩ : ∃ y, l[i - 1]? = some y := ⟨l[i - 1], List.getElem?_eq_getElem (by omega)⟩
    have hi0 : (0 : Int) < i := by omega
    have hk : ((i : Int) - 1).toNat = i - 1 := by omega
    have hstep := risingAt_succ (lo := lo) (hi := hi) h0 hy hx
    refine v_skip ?_
    refine n7 _ _ (weak_keep [0, 1, 2, 9, 10, 11] _) ?_
    refine zk ⟨?_⟩
    refine v_seq ?_; intro Q16 n16 e16 r16
    refine v_block ?_; intro Q17 n17 x17 e17 r17
    refine v_seqR [0,1,2,7,8,9,10,11] ?_; intro K18 k18
    have F := Fc.mk (And.intro (fun f => getD_map (f := f) hx) (And.intro hi0 (And.intro hk (And.intro (fun f => getD_map (f := f) hy) (And.intro @decide_true @Bool.and_true)))))
    refine zMove ⟨?_⟩
    refine zIndexAddr ⟨?_⟩
    refine zLoad ⟨?_⟩
    refine zAssign ⟨?_⟩
    refine zAssign ⟨?_⟩
    refine k18 _ ?_
    refine zk ⟨?_⟩
    refine v_seqR [0,1,2,9,10,11,33] ?_; intro K19 k19
    refine zMove ⟨?_⟩
    refine zMove ⟨?_⟩
    refine zMove ⟨?_⟩
    refine zc (l1In_con _ _ _) ⟨?_⟩
    refine zUnOp ⟨?_⟩
    refine zMove ⟨?_⟩
    refine zgMove ⟨?_⟩
    refine zgBinOp ⟨?_⟩
    refine zgMove ⟨?_⟩
    refine zgMove ⟨?_⟩
    refine zgMove ⟨?_⟩
    refine zgBinOpW ⟨?_⟩
    refine zgIndexAddr ⟨?_⟩
    refine zgLoad ⟨?_⟩
    refine zgMove ⟨?_⟩
    refine zgBinOp ⟨?_⟩
    refine zgPick ⟨?_⟩
    refine zPick ⟨?_⟩
    refine k19 _ ?_
    refine zk ⟨?_⟩
    refine v_condS _ rfl ?_ ?_
    ·intro hc1
     refine v_seqR [6] ?_; intro K21 k21
     refine zAssign ⟨?_⟩
     refine k21 _ ?_
     refine zk ⟨?_⟩
     refine v_ret ?_
     refine r17 _ ?_
     refine r16 _ ?_
     refine r5 _ ?_
     refine r4 _ ?_
     refine r2 _ ?_
     refine r0 _ ?_
     refine zf ⟨?_⟩
     exact ret_pure rfl (by rw [← hR, hstep]; congr 1; simp [inR]; intros; omega) (.inl rfl)
    ·intro hc1
     refine v_skip ?_
     refine n17 _ ?_
     refine n16 _ _ (weak_keep [0, 1, 2, 9, 10, 11] _) ?_
     refine zk ⟨?_⟩
     refine v_region ?_; intro K22 k22
     refine zBinOpW ⟨?_⟩
     refine zMove ⟨?_⟩
     refine k22 _ ?_
     refine n5 _ (i + 1) ?_ ?_ ?_
     ·refine weak_of [0, 1, 2, 9, 10, 11] ?_
      simp only [keep_mk, keepE_nil, keepE_cons, look_cons, look_nil, Nat.reduceEqDiff, reduceIte]
      rfl
     ·exact ⟨by omega, by rw [← hR, hstep]; simp [inR]; intros; omega⟩
     ·show _ < _; omega
  ·intro hc0
   refine v_exit ?_
   refine e7 _ _ ?_
   refine e5 _ _ ?_
   refine x4 _ ?_
   refine n2 _ _ (weak_keep [] _) ?_
   refine zk ⟨?_⟩
   refine v_seqR [6] ?_; intro K23 k23
   refine zAssign ⟨?_⟩
   refine k23 _ ?_
   refine zk ⟨?_⟩
   refine v_ret ?_
   refine r0 _ ?_
   refine zf ⟨?_⟩
   exact ret_pure rfl (by rw [← hR, risingAt_end (by omega)]) (.inl rfl)
set_option maxHeartbeats 1000000 in
theorem eqIntS_con (a b : List Int) (ha : a.length ≤ 1048576) : Con Try.prog 23 [.sl (a.map (V.int .i64)), .sl (b.map (V.int .i64))] [] (.bool (decide (a = b))) [] := by
 refine v_con [.tmp 4] [] Try.func23 rfl rfl rfl (by simp [Try.ntmps23]) ?_
 intro Q0 n0 r0
 simp only [Try.ntmps23, envFrom, Nat.reduceAdd]
 have T := Tys.mk (And.intro Ty.t3 Ty.t41)
 have F := Fc.mk True.intro
 refine v_seqR [0,1] ?_; intro K1 k1
 refine zAssign ⟨?_⟩
 refine k1 _ ?_
 refine zk ⟨?_⟩
 refine v_seq ?_; intro Q2 n2 e2 r2
 refine v_seqR [0,1,10] ?_; intro K3 k3
 refine zMove ⟨?_⟩
 refine zLen ⟨?_⟩
 refine zMove ⟨?_⟩
 refine zLen ⟨?_⟩
 refine zBinOp ⟨?_⟩
 refine k3 _ ?_
 refine zk ⟨?_⟩
 refine v_condS _ rfl ?_ ?_
 ·intro hc0
  refine v_seqR [4] ?_; intro K5 k5
  refine zAssign ⟨?_⟩
  refine k5 _ ?_
  refine zk ⟨?_⟩
  refine v_ret ?_
  refine r2 _ ?_
  refine r0 _ ?_
  refine zf ⟨?_⟩
  exact ret_pure rfl (by rw [decide_eq_false (fun h => by subst h; simp at hc0)]) (.inl rfl)
 ·intro hc0
  have hab : a.length = b.length := by omega
  refine v_skip ?_
  refine n2 _ _ (weak_keep [0, 1] _) ?_
  refine zk ⟨?_⟩
  refine v_seq ?_; intro Q6 n6 e6 r6
  refine v_seqR [0,1,5] ?_; intro K7 k7
  refine zAssign ⟨?_⟩
  refine k7 _ ?_
  refine zk ⟨?_⟩
  refine v_block ?_; intro Q8 n8 x8 e8 r8
  refine v_loop (fun i => ⟨[(0, .sl (a.map (V.int .i64))), (1, .sl (b.map (V.int .i64))), (5, .int .i64 (Nat.cast i))], [], false, 26, 0⟩) (fun i => i ≤ a.length ∧ ((a = b) ↔ (a.drop i = b.drop i))) (fun i => a.length - i) 0 ?_ ?_ ?_
  ·refine weak_of [0, 1, 5] ?_
   simp only [keep_mk, keepE_nil, keepE_cons, look_cons, look_nil, Nat.reduceEqDiff, reduceIte]
   rfl
  ·exact ⟨Nat.zero_le _, by simp⟩
  ·rintro i hok9 Q9 n9 e9 r9
   obtain ⟨hi1, hR⟩ := hok9
   refine v_seq ?_; intro Q10 n10 e10 r10
   refine v_seqR [0,1,5,14] ?_; intro K11 k11
   refine zMove ⟨?_⟩
   refine zMove ⟨?_⟩
   refine zLen ⟨?_⟩
   refine zBinOp ⟨?_⟩
   refine k11 _ ?_
   refine zk ⟨?_⟩
   refine v_condS _ rfl ?_ ?_
   ·intro hc1
    have hlt : i < a.length := by omega
    obtain ⟨x, hx⟩ : ∃ x, a[i]? = some x := ⟨a[i], List.getElem?_eq_getElem hlt⟩
    obtain ⟨y, hy⟩ : ∃ y, b[i]? = some y := ⟨b[i], List.getElem?_eq_getElem (by omega)⟩
    have hstep := eq_drop hab hx hy
    refine v_skip ?_
    refine n10 _ _ (weak_keep [0, 1, 5] _) ?_
    refine zk ⟨?_⟩
    refine v_seq ?_; intro Q13 n13 e13 r13
    refine v_block ?_; intro Q14 n14 x14 e14 r14
    refine v_seq ?_; intro Q15 n15 e15 r15
    refine v_draw (by kernel_rfl) ?_; intro K16 q16 k16
    show aAny _ _ _ _ 9 (Array.replicate 9 false) _
    have F := Fc.mk (And.intro (fun f => getD_map (f := f) hx) (fun f => getD_map (f := f) hy))
    refine zdMove q16 true 0 17 ?_
    refine zdMove q16 true 1 18 ?_
    refine zdIndexAddr q16 true 2 19 ?_
    refine zdLoad q16 true 3 20 ?_
    refine zdMove q16 true 4 21 ?_
    refine zdMove q16 true 5 22 ?_
    refine zdIndexAddr q16 true 6 23 ?_
    refine zdLoad q16 true 7 24 ?_
    refine zdBinOp q16 true 8 25 ?_
    refine aAny_done (by kernel_rfl) ?_
    refine k16 _ ?_
    refine n15 _ _ (weak_keep [0, 1, 5, 25] _) ?_
    refine zk ⟨?_⟩
    refine v_condS _ rfl ?_ ?_
    ·intro hc2
     refine v_seqR [4] ?_; intro K18 k18
     refine zAssign ⟨?_⟩
     refine k18 _ ?_
     refine zk ⟨?_⟩
     refine v_ret ?_
     refine r14 _ ?_
     refine r13 _ ?_
     refine r9 _ ?_
     refine r8 _ ?_
     refine r6 _ ?_
     refine r0 _ ?_
     refine zf ⟨?_⟩
     exact ret_pure rfl (by rw [decide_eq_false (fun h => hc2 (hstep.1 (hR.1 h)).1)]) (.inl rfl)
    ·intro hc2
     refine v_skip ?_
     refine n14 _ ?_
     refine n13 _ _ (weak_keep [0, 1, 5] _) ?_
     refine zk ⟨?_⟩
     refine v_region ?_; intro K19 k19
     refine zMove ⟨?_⟩
     refine zBinOpW ⟨?_⟩
     refine zAssign ⟨?_⟩
     refine k19 _ ?_
     refine n9 _ (i + 1) ?_ ?_ ?_
     ·refine weak_of [0, 1, 5] ?_
      simp only [keep_mk, keepE_nil, keepE_cons, look_cons, look_nil, Nat.reduceEqDiff, reduceIte]
      rfl
     ·exact ⟨by omega, hR.trans (hstep.trans ⟨fun h => h.2, fun h => ⟨hc2, h⟩⟩)⟩
     ·show _ < _; omega
   ·intro hc1
    refine v_exit ?_
    refine e10 _ _ ?_
    refine e9 _ _ ?_
    refine x8 _ ?_
    refine n6 _ _ (weak_keep [] _) ?_
    refine zk ⟨?_⟩
    refine v_seqR [4] ?_; intro K20 k20
    refine zAssign ⟨?_⟩
    refine k20 _ ?_
    refine zk ⟨?_⟩
    refine v_ret ?_
    refine r0 _ ?_
    refine zf ⟨?_⟩
    exact ret_pure rfl (by rw [decide_eq_true (hR.2 (by rw [List.drop_of_length_le (by omega), List.drop_of_length_le (by omega)]))]) (.inl rfl)
def szS (n : Int) (l : List Int) : Int := if n - l.length < 0 then -1 else n - l.length
def szSS : Int → List (List Int) → Int
  | n, [] => n
  | n, l :: ll => if szS n l < 0 then -1 else szSS (szS n l) ll
theorem szSS_le : ∀ {ll : List (List Int)} {n : Int}, 0 ≤ szSS n ll → ∀ l ∈ ll, (l.length : Int) ≤ n
  | [], _, _, l, hl => by cases hl
  | x :: ll, n, h, l, hl => by
    rw [szSS] at h
    split at h
    · omega
    · rename_i hs
      have hx : (x.length : Int) ≤ n ∧ szS n x ≤ n := by
        unfold szS at hs ⊢
        split at hs
        · omega
        · rename_i h2; rw [if_neg h2]; omega
      rcases List.mem_cons.1 hl with rfl | h3
      · exact hx.1
      · have := szSS_le h l h3; omega

set_option maxHeartbeats 1000000 in
theorem szIntS_con (n : Int) (l : List Int) (hn : 0 ≤ n ∧ n ≤ 1048576) (hl : l.length ≤ 9223372036854775807) : Con Try.prog 39 [.sl (l.map (V.int .i64)), .int .i64 n] [] (.int .i64 (szS n l)) [] := by
 refine v_con [.tmp 4] [] Try.func39 rfl rfl rfl (by simp [Try.ntmps39]) ?_
 intro Q0 n0 r0
 simp only [Try.ntmps39, envFrom, Nat.reduceAdd]
 have T := Tys.mk (And.intro Ty.t3 Ty.t41)
 have F := Fc.mk True.intro
 refine v_seqR [0,1] ?_; intro K1 k1
 refine zAssign ⟨?_⟩
 refine k1 _ ?_
 refine zk ⟨?_⟩
 refine v_seqR [1] ?_; intro K2 k2
 refine zMove ⟨?_⟩
 refine zMove ⟨?_⟩
 refine zLen ⟨?_⟩
 refine zBinOpW ⟨?_⟩
 refine zAssign ⟨?_⟩
 refine k2 _ ?_
 refine zk ⟨?_⟩
 refine v_seq ?_; intro Q3 n3 e3 r3
 refine v_seqR [1,10] ?_; intro K4 k4
 refine zMove ⟨?_⟩
 refine zBinOp ⟨?_⟩
 refine k4 _ ?_
 refine zk ⟨?_⟩
 refine v_condS _ rfl ?_ ?_
 ·intro hc0
  refine v_seqR [4] ?_; intro K6 k6
  refine zAssign ⟨?_⟩
  refine k6 _ ?_
  refine zk ⟨?_⟩
  refine v_ret ?_
  refine r3 _ ?_
  refine r0 _ ?_
  refine zf ⟨?_⟩
  exact ret_pure rfl (by rw [szS, if_pos (by omega)]) (.inl rfl)
 ·intro hc0
  refine v_skip ?_
  refine n3 _ _ (weak_keep [1] _) ?_
  refine zk ⟨?_⟩
  refine v_seqR [4] ?_; intro K7 k7
  refine zMove ⟨?_⟩
  refine zAssign ⟨?_⟩
  refine k7 _ ?_
  refine zk ⟨?_⟩
  refine v_ret ?_
  refine r0 _ ?_
  refine zf ⟨?_⟩
  exact ret_pure rfl (by rw [szS, if_neg (by omega)]) (.inl rfl)
set_option maxHeartbeats 1000000 in
theorem szIntSS_con (n : Int) (ll : List (List Int)) (hn : 0 ≤ n ∧ n ≤ 1048576) (hl : ll.length ≤ 9223372036854775807) (hls : ∀ l ∈ ll, l.length ≤ 9223372036854775807) : Con Try.prog 12 [.sl (ll.map fun l => V.sl (l.map (V.int .i64))), .int .i64 n] [] (.int .i64 (if n - ll.length < 0 then -1 else szSS (n - ll.length) ll)) [] := by
 refine v_con [.tmp 4] [] Try.func12 rfl rfl rfl (by simp [Try.ntmps12]) ?_
 intro Q0 n0 r0
 simp only [Try.ntmps12, envFrom, Nat.reduceAdd]
 have T := Tys.mk (And.intro Ty.t3 (And.intro Ty.t30 Ty.t41))
 have F := Fc.mk True.intro
 refine v_seqR [0,1] ?_; intro K1 k1
 refine zAssign ⟨?_⟩
 refine k1 _ ?_
 refine zk ⟨?_⟩
 refine v_seqR [0,1] ?_; intro K2 k2
 refine zMove ⟨?_⟩
 refine zMove ⟨?_⟩
 refine zLen ⟨?_⟩
 refine zBinOpW ⟨?_⟩
 refine zAssign ⟨?_⟩
 refine k2 _ ?_
 refine zk ⟨?_⟩
 refine v_seq ?_; intro Q3 n3 e3 r3
 refine v_seqR [0,1,11] ?_; intro K4 k4
 refine zMove ⟨?_⟩
 refine zBinOp ⟨?_⟩
 refine k4 _ ?_
 refine zk ⟨?_⟩
 refine v_condS _ rfl ?_ ?_
 ·intro hc0
  refine v_seqR [4] ?_; intro K6 k6
  refine zAssign ⟨?_⟩
  refine k6 _ ?_
  refine zk ⟨?_⟩
  refine v_ret ?_
  refine r3 _ ?_
  refine r0 _ ?_
  refine zf ⟨?_⟩
  exact ret_pure rfl (by rw [if_pos (by omega)]) (.inl rfl)
 ·intro hc0
  refine v_skip ?_
  refine n3 _ _ (weak_keep [0, 1] _) ?_
  refine zk ⟨?_⟩
  refine v_seq ?_; intro Q7 n7 e7 r7
  refine v_seqR [0,1,5] ?_; intro K8 k8
  refine zAssign ⟨?_⟩
  refine k8 _ ?_
  refine zk ⟨?_⟩
  refine v_block ?_; intro Q9 n9 x9 e9 r9
  refine v_loop (fun p => ⟨[(0, .sl (ll.map fun l => V.sl (l.map (V.int .i64)))), (1, .int .i64 p.2), (5, .int .i64 (Nat.cast p.1))], [], false, 27, 0⟩) (fun p => p.1 ≤ ll.length ∧ 0 ≤ p.2 ∧ p.2 ≤ 1048576 ∧ szSS p.2 (ll.drop p.1) = szSS (n - ll.length) ll) (fun p => ll.length - p.1) (0, n - ll.length) ?_ ?_ ?_
  ·refine weak_of [0, 1, 5] ?_
   simp only [keep_mk, keepE_nil, keepE_cons, look_cons, look_nil, Nat.reduceEqDiff, reduceIte]
   rfl
  ·exact ⟨Nat.zero_le _, by omega, by omega, by simp⟩
  ·rintro ⟨i, m⟩ hok10 Q10 n10 e10 r10
   obtain ⟨hi1, hm0, hm1, hR⟩ := hok10
   simp only [] at hi1 hm0 hm1 hR ⊢
   refine v_seq ?_; intro Q11 n11 e11 r11
   refine v_seqR [0,1,5,15] ?_; intro K12 k12
   refine zMove ⟨?_⟩
   refine zMove ⟨?_⟩
   refine zLen ⟨?_⟩
   refine zBinOp ⟨?_⟩
   refine k12 _ ?_
   refine zk ⟨?_⟩
   refine v_condS _ rfl ?_ ?_
   ·intro hc1
    have hlt : i < ll.length := by omega
    obtain ⟨x, hx⟩ : ∃ x, ll[i]? = some x := ⟨ll[i], List.getElem?_eq_getElem hlt⟩
    have hlx : x.length ≤ 9223372036854775807 := hls x (List.mem_of_getElem? hx)
    have hstep : szSS m (ll.drop i) = if szS m x < 0 then -1 else szSS (szS m x) (ll.drop (i + 1)) := by rw [getElem_drop_cons hx, szSS]
    refine v_skip ?_
    refine n11 _ _ (weak_keep [0, 1, 5] _) ?_
    refine zk ⟨?_⟩
    refine v_seq ?_; intro Q14 n14 e14 r14
    refine v_block ?_; intro Q15 n15 x15 e15 r15
    refine v_seqR [0,1,5] ?_; intro K16 k16
    have F := Fc.mk (fun f => getD_map (f := f) hx)
    refine zMove ⟨?_⟩
    refine zMove ⟨?_⟩
    refine zIndexAddr ⟨?_⟩
    refine zLoad ⟨?_⟩
    refine zMove ⟨?_⟩
    refine zc (szIntS_con m x ⟨hm0, hm1⟩ hlx) ⟨?_⟩
    refine zAssign ⟨?_⟩
    refine k16 _ ?_
    refine zk ⟨?_⟩
    refine v_seqR [0,1,5,25] ?_; intro K17 k17
    refine zMove ⟨?_⟩
    refine zBinOp ⟨?_⟩
    refine k17 _ ?_
    refine zk ⟨?_⟩
    refine v_condS _ rfl ?_ ?_
    ·intro hc2
     refine v_seqR [4] ?_; intro K19 k19
     refine zAssign ⟨?_⟩
     refine k19 _ ?_
     refine zk ⟨?_⟩
     refine v_ret ?_
     refine r15 _ ?_
     refine r14 _ ?_
     refine r10 _ ?_
     refine r9 _ ?_
     refine r7 _ ?_
     refine r0 _ ?_
     refine zf ⟨?_⟩
     exact ret_pure rfl (by rw [if_neg (by omega), ← hR, hstep, if_pos hc2]) (.inl rfl)
    ·intro hc2
     refine v_skip ?_
     refine n15 _ ?_
     refine n14 _ _ (weak_keep [0, 1, 5] _) ?_
     refine zk ⟨?_⟩
     refine v_region ?_; intro K20 k20
     refine zMove ⟨?_⟩
     refine zBinOpW ⟨?_⟩
     refine zAssign ⟨?_⟩
     refine k20 _ ?_
     refine n10 _ (i + 1, szS m x) ?_ ?_ ?_
     ·refine weak_of [0, 1, 5] ?_
      simp only [keep_mk, keepE_nil, keepE_cons, look_cons, look_nil, Nat.reduceEqDiff, reduceIte]
      rfl
     ·exact ⟨by simp only []; omega, by simp only []; omega, by simp only [szS]; split <;> omega, by simp only []; rw [← hR, hstep, if_neg (by omega)]⟩
     ·show _ < _; simp only []; omega
   ·intro hc1
    refine v_exit ?_
    refine e11 _ _ ?_
    refine e10 _ _ ?_
    refine x9 _ ?_
    refine n7 _ _ (weak_keep [1] _) ?_
    refine zk ⟨?_⟩
    refine v_seqR [4] ?_; intro K21 k21
    refine zMove ⟨?_⟩
    refine zAssign ⟨?_⟩
    refine k21 _ ?_
    refine zk ⟨?_⟩
    refine v_ret ?_
    refine r0 _ ?_
    refine zf ⟨?_⟩
    exact ret_pure rfl (by rw [if_neg (by omega), ← hR, List.drop_of_length_le (by omega)]; rfl) (.inl rfl)
set_option maxHeartbeats 1000000 in
theorem toIntS_con (l : List Int) (hl : l.length ≤ 1048576) : Con Try.prog 21 [.sl (l.map (V.int .i64))] [] (.ref 0) [.arr (l.map (V.int .i64)) .flat] := by
 refine v_con [.tmp 2] [] Try.func21 rfl rfl rfl (by simp [Try.ntmps21]) ?_
 intro Q0 n0 r0
 simp only [Try.ntmps21, envFrom, Nat.reduceAdd]
 have T := Tys.mk (And.intro Ty.t3 Ty.t41)
 have F := Fc.mk True.intro
 refine v_seqR [0] ?_; intro K1 k1
 refine zAssign ⟨?_⟩
 refine k1 _ ?_
 refine zk ⟨?_⟩
 refine v_seqR [0,3] ?_; intro K2 k2
 refine zMove ⟨?_⟩
 refine zLen ⟨?_⟩
 refine zMakeSlice ⟨?_⟩
 refine zAssign ⟨?_⟩
 refine k2 _ ?_
 refine zk ⟨?_⟩
 refine v_seq ?_; intro Q3 n3 e3 r3
 refine v_seqR [0,3,4] ?_; intro K4 k4
 refine zAssign ⟨?_⟩
 refine k4 _ ?_
 refine zk ⟨?_⟩
 refine v_block ?_; intro Q5 n5 x5 e5 r5
 refine v_loop (fun i => ⟨[(0, .sl (l.map (V.int .i64))), (3, .ref 0), (4, .int .i64 (Nat.cast i))], [.arr (fillTo (V.int .i64) (V.int .i64 0) l i) .flat], false, 22, 0⟩) (fun i => i ≤ l.length) (fun i => l.length - i) 0 ?_ ?_ ?_
 ·refine weak_bothS [0, 3, 4] [1] ⟨?_⟩
  rw [fill_zero]; rfl
 ·exact Nat.zero_le _
 ·rintro i hok6 Q6 n6 e6 r6
  have hi1 : i ≤ l.length := hok6
  refine v_seq ?_; intro Q7 n7 e7 r7
  refine v_seqR [0,3,4,11] ?_; intro K8 k8
  refine zMove ⟨?_⟩
  refine zMove ⟨?_⟩
  refine zLen ⟨?_⟩
  refine zBinOp ⟨?_⟩
  refine k8 _ ?_
  refine zk ⟨?_⟩
  refine v_condS _ rfl ?_ ?_
  ·intro hc0
   have hlt : i < l.length := by omega
   obtain ⟨x, hx⟩ : ∃ x, l[i]? = some x := ⟨l[i], List.getElem?_eq_getElem hlt⟩
   refine v_skip ?_
   refine n7 _ _ (weak_keep [0, 3, 4] _) ?_
   refine zk ⟨?_⟩
   refine v_seq ?_; intro Q10 n10 e10 r10
   refine v_block ?_; intro Q11 n11 x11 e11 r11
   refine v_region ?_; intro K12 k12
   have F := Fc.mk (And.intro (fun f => getD_map (f := f) hx) (And.intro (fun f z => fill_len (f := f) (z := z) hi1) (And.intro (fun f z => fill_get (f := f) (z := z) hlt) (fun f z => fill_set (f := f) (z := z) hx))))
   refine zMove ⟨?_⟩
   refine zMove ⟨?_⟩
   refine zMove ⟨?_⟩
   refine zMove ⟨?_⟩
   refine v_op ?_; intro K k
   simp only [zE, zL, zN, aStepM, optable, set_some, Nat.reduceEqDiff, reduceIte, Nat.reduceLT, implies_true, forall_const, reduceCtorEq, V.ofValue, V.ofScalar, V.un, V.gd, aExec, aop, List.mem_cons, List.not_mem_nil, or_false, forall_eq_or_imp, forall_eq, aIndexAddr, row_mk, Blk.row, Go.Vm.V.cells, List.forall_mem_map, List.length_map, Int.toNat_natCast, Int.reduceToNat, TypeDesc.slice.injEq, Nat.reduceAdd, Nat.reduceLeDiff, Nat.reduceMul, Try.underlying3, Ty.c3, Ty.a3, Try.underlying41, Ty.c41, Ty.a41, getD_map hx, fill_len hi1, fill_get hlt, fill_set hx]
   repeat (refine And.intro (by first | omega | (exact fill_all (fun _ => rfl) rfl) | (intros; omega) | (intros; simp_all; done) | (intros; simp_all; omega)) ?_)
   refine k _ ?_; clear k K
   refine zLoad ⟨?_⟩
   refine v_op ?_; intro K k
   simp only [zE, zL, zN, aStepM, optable, set_some, Nat.reduceEqDiff, reduceIte, Nat.reduceLT, implies_true, forall_const, reduceCtorEq, V.ofValue, V.ofScalar, V.un, V.gd, aExec, aop, List.mem_cons, List.not_mem_nil, or_false, forall_eq_or_imp, forall_eq, aIndexAddr, row_mk, Blk.row, Go.Vm.V.cells, List.forall_mem_map, List.length_map, Int.toNat_natCast, Int.reduceToNat, TypeDesc.slice.injEq, Nat.reduceAdd, Nat.reduceLeDiff, Nat.reduceMul, Try.underlying3, Ty.c3, Ty.a3, Try.underlying41, Ty.c41, Ty.a41, getD_map hx, fill_len hi1, fill_get hlt, fill_set hx]
   repeat (refine And.intro (by first | omega | (exact fill_all (fun _ => rfl) rfl) | (intros; omega) | (intros; simp_all; done) | (intros; simp_all; omega)) ?_)
   refine k _ ?_; clear k K
   refine v_op ?_; intro K k
   simp only [zE, zS, zJ, zL, zO, zN, aStepM, optable, set_some, Nat.reduceEqDiff, reduceIte, Nat.reduceLT, implies_true, forall_const, reduceCtorEq, V.ofValue, V.ofScalar, V.un, V.gd, aExec, aop, aStore, setCells, V.isVal, V.cells, kindOf, kindAll, V.noSl, V.noRef, gt_iff_lt, Nat.reduceAdd, Nat.reduceLeDiff, Nat.reduceMul, takeV, takeCell, takeCells, row_mk, Blk.row, killAll, Nat.reduceBEq, join_t, Try.underlying3, Ty.c3, Ty.a3, getD_map hx, fill_len hi1, fill_get hlt, fill_set hx]
   repeat (refine And.intro (by first | omega | (exact fill_all (fun _ => rfl) rfl) | (intros; omega) | (intros; simp_all; done) | (intros; simp_all; omega)) ?_)
   refine k _ ?_; clear k K
   refine k12 _ ?_
   refine n11 _ ?_
   refine n10 _ _ (weak_keep [0, 3, 4] _) ?_
   refine zk ⟨?_⟩
   refine v_region ?_; intro K13 k13
   refine zMove ⟨?_⟩
   refine zBinOpW ⟨?_⟩
   refine zAssign ⟨?_⟩
   refine k13 _ ?_
   refine n6 _ (i + 1) ?_ ?_ ?_
   ·refine weak_bothS [0, 3, 4] [0] ⟨?_⟩
    rfl
   ·exact hlt
   ·show _ < _; omega
  ·intro hc0
   refine v_exit ?_
   refine e7 _ _ ?_
   refine e6 _ _ ?_
   refine x5 _ ?_
   refine n3 _ _ (weak_keep [3] _) ?_
   refine zk ⟨?_⟩
   refine v_seqR [2] ?_; intro K14 k14
   refine zMove ⟨?_⟩
   refine zAssign ⟨?_⟩
   refine k14 _ ?_
   refine zk ⟨?_⟩
   refine v_ret ?_
   refine r0 _ ?_
   refine zf ⟨?_⟩
   rw [← fill_end (f := (V.int .i64)) (z := (V.int .i64 0)) (show l.length ≤ i by omega)]
   exact ret_ref rfl (.inl rfl)
set_option maxHeartbeats 1000000 in
theorem toIntSS_con (ll : List (List Int)) (hl : ll.length ≤ 1048576) (hls : ∀ l ∈ ll, l.length ≤ 1048576) : Con Try.prog 14 [.sl (ll.map fun l => V.sl (l.map (V.int .i64)))] [] (.ref 0) [.arr (ll.map (fun l : List Int => V.sl (l.map (V.int .i64)))) (fillK ll.length)] := by
 refine v_con [.tmp 2] [] Try.func14 rfl rfl rfl (by simp [Try.ntmps14]) ?_
 intro Q0 n0 r0
 simp only [Try.ntmps14, envFrom, Nat.reduceAdd]
 have T := Tys.mk (And.intro Ty.t3 (And.intro Ty.t30 Ty.t41))
 have F := Fc.mk True.intro
 refine v_seqR [0] ?_; intro K1 k1
 refine zAssign ⟨?_⟩
 refine k1 _ ?_
 refine zk ⟨?_⟩
 refine v_seqR [0,3] ?_; intro K2 k2
 refine zMove ⟨?_⟩
 refine zLen ⟨?_⟩
 refine zMakeSlice ⟨?_⟩
 refine zAssign ⟨?_⟩
 refine k2 _ ?_
 refine zk ⟨?_⟩
 refine v_seq ?_; intro Q3 n3 e3 r3
 refine v_seqR [0,3,4] ?_; intro K4 k4
 refine zAssign ⟨?_⟩
 refine k4 _ ?_
 refine zk ⟨?_⟩
 refine v_block ?_; intro Q5 n5 x5 e5 r5
 refine v_loop (fun i => ⟨[(0, .sl (ll.map fun l => V.sl (l.map (V.int .i64)))), (3, .ref 0), (4, .int .i64 (Nat.cast i))], [.arr (fillTo (fun l : List Int => V.sl (l.map (V.int .i64))) (V.sl []) ll i) (fillK i)], false, 23, 0⟩) (fun i => i ≤ ll.length) (fun i => ll.length - i) 0 ?_ ?_ ?_
 ·refine weak_bothS [0, 3, 4] [1] ⟨?_⟩
  rw [fill_zero]; rfl
 ·exact Nat.zero_le _
 ·rintro i hok6 Q6 n6 e6 r6
  have hi1 : i ≤ ll.length := hok6
  refine v_seq ?_; intro Q7 n7 e7 r7
  refine v_seqR [0,3,4,11] ?_; intro K8 k8
  refine zMove ⟨?_⟩
  refine zMove ⟨?_⟩
  refine zLen ⟨?_⟩
  refine zBinOp ⟨?_⟩
  refine k8 _ ?_
  refine zk ⟨?_⟩
  refine v_condS _ rfl ?_ ?_
  ·intro hc0
   have hlt : i < ll.length := by omega
   obtain ⟨x, hx⟩ : ∃ x, ll[i]? = some x := ⟨ll[i], List.getElem?_eq_getElem hlt⟩
   have hlx : x.length ≤ 1048576 := hls x (List.mem_of_getElem? hx)
   refine v_skip ?_
   refine n7 _ _ (weak_keep [0, 3, 4] _) ?_
   refine zk ⟨?_⟩
   refine v_seq ?_; intro Q10 n10 e10 r10
   refine v_block ?_; intro Q11 n11 x11 e11 r11
   refine v_region ?_; intro K12 k12
   have F := Fc.mk (And.intro (fun f => getD_map (f := f) hx) (And.intro (fun f z => fill_len (f := f) (z := z) hi1) (And.intro (fun f z => fill_get (f := f) (z := z) hlt) (fun f z => fill_set (f := f) (z := z) hx))))
   refine zMove ⟨?_⟩
   refine zMove ⟨?_⟩
   refine zMove ⟨?_⟩
   refine zMove ⟨?_⟩
   refine v_op ?_; intro K k
   simp only [zE, zL, zN, aStepM, optable, set_some, Nat.reduceEqDiff, reduceIte, Nat.reduceLT, implies_true, forall_const, reduceCtorEq, V.ofValue, V.ofScalar, V.un, V.gd, aExec, aop, List.mem_cons, List.not_mem_nil, or_false, forall_eq_or_imp, forall_eq, aIndexAddr, row_mk, Blk.row, Go.Vm.V.cells, List.forall_mem_map, List.length_map, Int.toNat_natCast, Int.reduceToNat, TypeDesc.slice.injEq, Nat.reduceAdd, Nat.reduceLeDiff, Nat.reduceMul, Try.underlying30, Ty.c30, Ty.a30, Try.underlying41, Ty.c41, Ty.a41, getD_map hx, fill_len hi1, fill_get hlt, fill_set hx]
   repeat (refine And.intro (by first | omega | (exact fill_all (fun _ => rfl) rfl) | (intros; omega) | (intros; simp_all; done) | (intros; simp_all; omega)) ?_)
   refine k _ ?_; clear k K
   refine zLoad ⟨?_⟩
   refine zc (toIntS_con x hlx) ⟨?_⟩
   refine v_op ?_; intro K k
   simp only [zE, zL, zN, aStepM, optable, set_some, Nat.reduceEqDiff, reduceIte, Nat.reduceLT, implies_true, forall_const, reduceCtorEq, V.ofValue, V.ofScalar, V.un, V.gd, aExec, aop, List.mem_cons, List.not_mem_nil, or_false, forall_eq_or_imp, forall_eq, aIndexAddr, row_mk, Blk.row, Go.Vm.V.cells, List.forall_mem_map, List.length_map, Int.toNat_natCast, Int.reduceToNat, TypeDesc.slice.injEq, Nat.reduceAdd, Nat.reduceLeDiff, Nat.reduceMul, Try.underlying30, Ty.c30, Ty.a30, Try.underlying41, Ty.c41, Ty.a41, getD_map hx, fill_len hi1, fill_get hlt, fill_set hx]
   repeat (refine And.intro (by first | omega | (exact fill_all (fun _ => rfl) rfl) | (intros; omega) | (intros; simp_all; done) | (intros; simp_all; omega)) ?_)
   refine k _ ?_; clear k K
   refine v_op ?_; intro K k
   simp only [zE, zS, zJ, zL, zO, zN, aStepM, optable, set_some, Nat.reduceEqDiff, reduceIte, Nat.reduceLT, implies_true, forall_const, reduceCtorEq, V.ofValue, V.ofScalar, V.un, V.gd, aExec, aop, aStore, setCells, V.isVal, V.cells, kindOf, kindAll, V.noSl, V.noRef, gt_iff_lt, Nat.reduceAdd, Nat.reduceLeDiff, Nat.reduceMul, takeV, takeCell, takeCells, row_mk, Blk.row, killAll, Nat.reduceBEq, join_t, Try.underlying3, Ty.c3, Ty.a3, Try.underlying41, Ty.c41, Ty.a41, getD_map hx, fill_len hi1, fill_get hlt, fill_set hx]
   repeat (refine And.intro (by first | omega | (exact fill_all (fun _ => rfl) rfl) | (intros; omega) | (intros; simp_all; done) | (intros; simp_all; omega)) ?_)
   refine k _ ?_; clear k K
   refine k12 _ ?_
   refine n11 _ ?_
   refine n10 _ _ (weak_keep [0, 3, 4] _) ?_
   refine zk ⟨?_⟩
   refine v_region ?_; intro K13 k13
   refine zMove ⟨?_⟩
   refine zBinOpW ⟨?_⟩
   refine zAssign ⟨?_⟩
   refine k13 _ ?_
   refine n6 _ (i + 1) ?_ ?_ ?_
   ·refine weak_bothS [0, 3, 4] [0] ⟨?_⟩
    rfl
   ·exact hlt
   ·show _ < _; omega
  ·intro hc0
   refine v_exit ?_
   refine e7 _ _ ?_
   refine e6 _ _ ?_
   refine x5 _ ?_
   refine n3 _ _ (weak_keep [3] _) ?_
   refine zk ⟨?_⟩
   refine v_seqR [2] ?_; intro K14 k14
   refine zMove ⟨?_⟩
   refine zAssign ⟨?_⟩
   refine k14 _ ?_
   refine zk ⟨?_⟩
   refine v_ret ?_
   refine r0 _ ?_
   refine zf ⟨?_⟩
   have hend : ll.length = i := by omega
   rw [← fill_end (f := (fun l : List Int => V.sl (l.map (V.int .i64)))) (z := (V.sl [])) (show ll.length ≤ i by omega), hend]
   exact ret_ref rfl (fillK_or _)
set_option maxHeartbeats 1000000 in
theorem eqIntSS_con (a b : List (List Int)) (ha : a.length ≤ 1048576) (has : ∀ l ∈ a, l.length ≤ 1048576) : Con Try.prog 17 [.sl (a.map fun l => V.sl (l.map (V.int .i64))), .sl (b.map fun l => V.sl (l.map (V.int .i64)))] [] (.bool (decide (a = b))) [] := by
 refine v_con [.tmp 4] [] Try.func17 rfl rfl rfl (by simp [Try.ntmps17]) ?_
 intro Q0 n0 r0
 simp only [Try.ntmps17, envFrom, Nat.reduceAdd]
 have T := Tys.mk (And.intro Ty.t3 (And.intro Ty.t4 (And.intro Ty.t30 Ty.t41)))
 have F := Fc.mk True.intro
 refine v_seqR [0,1] ?_; intro K1 k1
 refine zAssign ⟨?_⟩
 refine k1 _ ?_
 refine zk ⟨?_⟩
 refine v_seq ?_; intro Q2 n2 e2 r2
 refine v_seqR [0,1,10] ?_; intro K3 k3
 refine zMove ⟨?_⟩
 refine zLen ⟨?_⟩
 refine zMove ⟨?_⟩
 refine zLen ⟨?_⟩
 refine zBinOp ⟨?_⟩
 refine k3 _ ?_
 refine zk ⟨?_⟩
 refine v_condS _ rfl ?_ ?_
 ·intro hc0
  refine v_seqR [4] ?_; intro K5 k5
  refine zAssign ⟨?_⟩
  refine k5 _ ?_
  refine zk ⟨?_⟩
  refine v_ret ?_
  refine r2 _ ?_
  refine r0 _ ?_
  refine zf ⟨?_⟩
  exact ret_pure rfl (by rw [decide_eq_false (fun h => by subst h; simp at hc0)]) (.inl rfl)
 ·intro hc0
  have hab : a.length = b.length := by omega
  refine v_skip ?_
  refine n2 _ _ (weak_keep [0, 1] _) ?_
  refine zk ⟨?_⟩
  refine v_seq ?_; intro Q6 n6 e6 r6
  refine v_seqR [0,1,5] ?_; intro K7 k7
  refine zAssign ⟨?_⟩
  refine k7 _ ?_
  refine zk ⟨?_⟩
  refine v_block ?_; intro Q8 n8 x8 e8 r8
  refine v_loop (fun i => ⟨[(0, .sl (a.map fun l => V.sl (l.map (V.int .i64)))), (1, .sl (b.map fun l => V.sl (l.map (V.int .i64)))), (5, .int .i64 (Nat.cast i))], [], false, 27, 0⟩) (fun i => i ≤ a.length ∧ ((a = b) ↔ (a.drop i = b.drop i))) (fun i => a.length - i) 0 ?_ ?_ ?_
  ·refine weak_of [0, 1, 5] ?_
   simp only [keep_mk, keepE_nil, keepE_cons, look_cons, look_nil, Nat.reduceEqDiff, reduceIte]
   rfl
  ·exact ⟨Nat.zero_le _, by simp⟩
  ·rintro i hok9 Q9 n9 e9 r9
   obtain ⟨hi1, hR⟩ := hok9
   refine v_seq ?_; intro Q10 n10 e10 r10
   refine v_seqR [0,1,5,14] ?_; intro K11 k11
   refine zMove ⟨?_⟩
   refine zMove ⟨?_⟩
   refine zLen ⟨?_⟩
   refine zBinOp ⟨?_⟩
   refine k11 _ ?_
   refine zk ⟨?_⟩
   refine v_condS _ rfl ?_ ?_
   ·intro hc1
    have hlt : i < a.length := by omega
    obtain ⟨x, hx⟩ : ∃ x, a[i]? = some x := ⟨a[i], List.getElem?_eq_getElem hlt⟩
    obtain ⟨y, hy⟩ : ∃ y, b[i]? = some y := ⟨b[i], List.getElem?_eq_getElem (by omega)⟩
    have hstep := eq_drop hab hx hy
    have hlx : x.length ≤ 1048576 := has x (List.mem_of_getElem? hx)
    refine v_skip ?_
    refine n10 _ _ (weak_keep [0, 1, 5] _) ?_
    refine zk ⟨?_⟩
    refine v_seq ?_; intro Q13 n13 e13 r13
    refine v_block ?_; intro Q14 n14 x14 e14 r14
    refine v_seq ?_; intro Q15 n15 e15 r15
    refine v_draw (by kernel_rfl) ?_; intro K16 q16 k16
    show aAny _ _ _ _ 10 (Array.replicate 10 false) _
    have F := Fc.mk (And.intro (fun f => getD_map (f := f) hx) (fun f => getD_map (f := f) hy))
    refine zdMove q16 true 0 17 ?_
    refine zdMove q16 true 1 18 ?_
    refine zdIndexAddr q16 true 2 19 ?_
    refine zdLoad q16 true 3 20 ?_
    refine zdMove q16 true 4 21 ?_
    refine zdMove q16 true 5 22 ?_
    refine zdIndexAddr q16 true 6 23 ?_
    refine zdLoad q16 true 7 24 ?_
    refine zoc 8 (eqIntS_con x y hlx) ⟨?_⟩
    refine zdUnOp q16 true 9 26 ?_
    refine aAny_done (by kernel_rfl) ?_
    refine k16 _ ?_
    refine n15 _ _ (weak_keep [0, 1, 5, 26] _) ?_
    refine zk ⟨?_⟩
    refine v_condS _ rfl ?_ ?_
    ·intro hc2
     refine v_seqR [4] ?_; intro K18 k18
     refine zAssign ⟨?_⟩
     refine k18 _ ?_
     refine zk ⟨?_⟩
     refine v_ret ?_
     refine r14 _ ?_
     refine r13 _ ?_
     refine r9 _ ?_
     refine r8 _ ?_
     refine r6 _ ?_
     refine r0 _ ?_
     refine zf ⟨?_⟩
     exact ret_pure rfl (by rw [decide_eq_false (fun h => hc2 (hstep.1 (hR.1 h)).1)]) (.inl rfl)
    ·intro hc2
     refine v_skip ?_
     refine n14 _ ?_
     refine n13 _ _ (weak_keep [0, 1, 5] _) ?_
     refine zk ⟨?_⟩
     refine v_region ?_; intro K19 k19
     refine zMove ⟨?_⟩
     refine zBinOpW ⟨?_⟩
     refine zAssign ⟨?_⟩
     refine k19 _ ?_
     refine n9 _ (i + 1) ?_ ?_ ?_
     ·refine weak_of [0, 1, 5] ?_
      simp only [keep_mk, keepE_nil, keepE_cons, look_cons, look_nil, Nat.reduceEqDiff, reduceIte]
      rfl
     ·exact ⟨by omega, hR.trans (hstep.trans ⟨fun h => h.2, fun h => ⟨hc2, h⟩⟩)⟩
     ·show _ < _; omega
   ·intro hc1
    refine v_exit ?_
    refine e10 _ _ ?_
    refine e9 _ _ ?_
    refine x8 _ ?_
    refine n6 _ _ (weak_keep [] _) ?_
    refine zk ⟨?_⟩
    refine v_seqR [4] ?_; intro K20 k20
    refine zAssign ⟨?_⟩
    refine k20 _ ?_
    refine zk ⟨?_⟩
    refine v_ret ?_
    refine r0 _ ?_
    refine zf ⟨?_⟩
    exact ret_pure rfl (by rw [decide_eq_true (hR.2 (by rw [List.drop_of_length_le (by omega), List.drop_of_length_le (by omega)]))]) (.inl rfl)
def markRow (k : Int) (n : Nat) : List Int := (List.range n).map fun j : Nat => k + j
theorem mark_succ (k : Int) (n : Nat) : markRow k (n + 1) = markRow k n ++ [k + n] := by simp [markRow, List.range_succ]
theorem mark_len (k : Int) (n : Nat) : (markRow k n).length = n := by simp [markRow]
theorem mark_step {l : List Int} {k : Int} {i : Nat} {x : Int} (h : l[i]? = some x) : (markRow k i ++ l.drop i).set i (k + i) = markRow k (i + 1) ++ l.drop (i + 1) := by
  rw [getElem_drop_cons h, mark_succ, List.set_append_right _ _ (by rw [mark_len]; omega), mark_len, Nat.sub_self, List.set_cons_zero, List.append_assoc]
  rfl
theorem mark_get {l : List Int} {k : Int} {i : Nat} {x : Int} (h : l[i]? = some x) : (markRow k i ++ l.drop i)[i]? = some x := by
  rw [List.getElem?_append_right (by rw [mark_len]; omega), mark_len, Nat.sub_self, getElem_drop_cons h]
  rfl
theorem mark_all {l : List Int} {k : Int} {i : Nat} (h : i ≤ l.length) : (markRow k i ++ l.drop i).length = l.length := by simp [mark_len]; omega
theorem mark_at {k : Int} {n i : Nat} (h : i < n) : (markRow k n)[i]? = some (k + i) := by
  simp [markRow, List.getElem?_map, List.getElem?_range h]

set_option maxHeartbeats 1000000 in
theorem markIntS_con (l : List Int) (k : Int) (hl : l.length ≤ 1048576) (hk : 0 ≤ k ∧ k ≤ 1152921504606846976) : Con Try.prog 26 [.ref 0, .int .i64 k] [.arr (l.map (V.int .i64)) .flat] (.int .i64 (k + l.length)) [.arr ((markRow k l.length).map (V.int .i64)) .flat] := by
 refine v_con [.tmp 4] [] Try.func26 rfl rfl rfl (by simp [Try.ntmps26]) ?_
 intro Q0 n0 r0
 simp only [Try.ntmps26, envFrom, Nat.reduceAdd]
 have T := Tys.mk (And.intro Ty.t3 Ty.t41)
 have F := Fc.mk True.intro
 refine v_seqR [0,1] ?_; intro K1 k1
 refine zAssign ⟨?_⟩
 refine k1 _ ?_
 refine zk ⟨?_⟩
 refine v_seq ?_; intro Q2 n2 e2 r2
 refine v_seqR [0,1,5] ?_; intro K3 k3
 refine zAssign ⟨?_⟩
 refine k3 _ ?_
 refine zk ⟨?_⟩
 refine v_block ?_; intro Q4 n4 x4 e4 r4
 refine v_loop (fun i => ⟨[(0, .ref 0), (1, .int .i64 (k + Nat.cast i)), (5, .int .i64 (Nat.cast i))], [.arr ((markRow k i ++ l.drop i).map (V.int .i64)) .flat], false, 19, 0⟩) (fun i => i ≤ l.length) (fun i => l.length - i) 0 ?_ ?_ ?_
 ·refine weak_bothS [0, 1, 5] [0] ⟨?_⟩
  simp [markRow]
 ·exact Nat.zero_le _
 ·rintro i hok5 Q5 n5 e5 r5
  have hi1 : i ≤ l.length := hok5
  refine v_seq ?_; intro Q6 n6 e6 r6
  refine v_seqR [0,1,5,9] ?_; intro K7 k7
  refine zMove ⟨?_⟩
  refine zMove ⟨?_⟩
  refine zLen ⟨?_⟩
  refine zBinOp ⟨?_⟩
  refine k7 _ ?_
  refine zk ⟨?_⟩
  refine v_condS _ rfl ?_ ?_
  ·intro hc0
   have hml := mark_all (k := k) hi1
   rw [hml] at hc0
   have hlt : i < l.length := by omega
   obtain ⟨x, hx⟩ : ∃ x, l[i]? = some x := ⟨l[i], List.getElem?_eq_getElem hlt⟩
   have hmg := mark_get (k := k) hx
   have hms := mark_step (k := k) hx
   refine v_skip ?_
   refine n6 _ _ (weak_keep [0, 1, 5] _) ?_
   refine zk ⟨?_⟩
   refine v_seq ?_; intro Q9 n9 e9 r9
   refine v_block ?_; intro Q10 n10 x10 e10 r10
   refine v_seqR [0,1,5] ?_; intro K11 k11
   have F := Fc.mk (And.intro (fun f => getD_map (f := f) hmg) (And.intro hml (And.intro @set_map hms)))
   refine zMove ⟨?_⟩
   refine zMove ⟨?_⟩
   refine zMove ⟨?_⟩
   refine zIndexAddr ⟨?_⟩
   refine zStore ⟨?_⟩
   refine k11 _ ?_
   refine zk ⟨?_⟩
   refine v_region ?_; intro K12 k12
   refine zMove ⟨?_⟩
   refine zBinOpW ⟨?_⟩
   refine zAssign ⟨?_⟩
   refine k12 _ ?_
   refine n10 _ ?_
   refine n9 _ _ (weak_keep [0, 1, 5] _) ?_
   refine zk ⟨?_⟩
   refine v_region ?_; intro K13 k13
   refine zMove ⟨?_⟩
   refine zBinOpW ⟨?_⟩
   refine zAssign ⟨?_⟩
   refine k13 _ ?_
   refine n5 _ (i + 1) ?_ ?_ ?_
   ·refine weak_bothS [0, 1, 5] [0] ⟨?_⟩
    rw [show (k + (i : Int) + 1) = k + ((i + 1 : Nat) : Int) by omega]; rfl
   ·exact hlt
   ·show _ < _; omega
  ·intro hc0
   rw [mark_all (k := k) hi1] at hc0
   refine v_exit ?_
   refine e6 _ _ ?_
   refine e5 _ _ ?_
   refine x4 _ ?_
   refine n2 _ _ (weak_keep [1] _) ?_
   refine zk ⟨?_⟩
   refine v_seqR [4] ?_; intro K14 k14
   refine zMove ⟨?_⟩
   refine zAssign ⟨?_⟩
   refine k14 _ ?_
   refine zk ⟨?_⟩
   refine v_ret ?_
   refine r0 _ ?_
   refine zf ⟨?_⟩
   have hend : i = l.length := by omega
   subst hend
   exact ret_lent rfl (by simp) rfl (by simp) (by simp [Blk.kindIs]) (.inl rfl)
set_option maxHeartbeats 1000000 in
theorem markInt0_con (k0 : Int) : Con Try.prog 26 [.sl [], .int .i64 k0] [] (.int .i64 k0) [] := by
 refine v_con [.tmp 4] [] Try.func26 rfl rfl rfl (by simp [Try.ntmps26]) ?_
 intro Q0 n0 r0
 simp only [Try.ntmps26, envFrom, Nat.reduceAdd]
 have T := Tys.mk (And.intro Ty.t3 Ty.t41)
 have F := Fc.mk True.intro
 refine v_seqR [0,1] ?_; intro K1 k1
 refine zAssign ⟨?_⟩
 refine k1 _ ?_
 refine zk ⟨?_⟩
 refine v_seq ?_; intro Q2 n2 e2 r2
 refine v_seqR [0,1,5] ?_; intro K3 k3
 refine zAssign ⟨?_⟩
 refine k3 _ ?_
 refine zk ⟨?_⟩
 refine v_block ?_; intro Q4 n4 x4 e4 r4
 refine v_loop (fun i => ⟨[(0, .sl []), (1, .int .i64 k0), (5, .int .i64 0)], [], false, 19, 0⟩) (fun i => True) (fun i => 0) () ?_ ?_ ?_
 ·refine weak_of [0, 1, 5] ?_
  simp only [keep_mk, keepE_nil, keepE_cons, look_cons, look_nil, Nat.reduceEqDiff, reduceIte]
  all_goals rfl
 ·trivial
 ·rintro i hok5 Q5 n5 e5 r5
  have hok : True := hok5
  refine v_seq ?_; intro Q6 n6 e6 r6
  refine v_seqR [0,1,5,9] ?_; intro K7 k7
  refine zMove ⟨?_⟩
  refine zMove ⟨?_⟩
  refine zLen ⟨?_⟩
  refine zBinOp ⟨?_⟩
  refine k7 _ ?_
  refine zk ⟨?_⟩
  refine v_cond _ rfl ?_ ?_
  ·intro hc0
   exfalso; simp at hc0
  ·intro hc0
   try simp only [zC, reduceCtorEq] at hc0
   refine v_exit ?_
   refine e6 _ _ ?_
   refine e5 _ _ ?_
   refine x4 _ ?_
   refine n2 _ _ (weak_keep [1] _) ?_
   refine zk ⟨?_⟩
   refine v_seqR [4] ?_; intro K9 k9
   refine zMove ⟨?_⟩
   refine zAssign ⟨?_⟩
   refine k9 _ ?_
   refine zk ⟨?_⟩
   refine v_ret ?_
   refine r0 _ ?_
   refine zf ⟨?_⟩
   exact ret_pure rfl rfl (.inl rfl)
set_option maxHeartbeats 1000000 in
theorem heldIntS_con (k : Int) (n : Nat) (hl : n ≤ 1048576) (hk : 0 ≤ k ∧ k ≤ 1152921504606846976) : Con Try.prog 53 [.sl ((markRow k n).map (V.int .i64)), .int .i64 k] [] (.int .i64 (k + n)) [] := by
 refine v_con [.tmp 4] [] Try.func53 rfl rfl rfl (by simp [Try.ntmps53]) ?_
 intro Q0 n0 r0
 simp only [Try.ntmps53, envFrom, Nat.reduceAdd]
 have T := Tys.mk (And.intro Ty.t3 Ty.t41)
 have F := Fc.mk True.intro
 refine v_seqR [0,1] ?_; intro K1 k1
 refine zAssign ⟨?_⟩
 refine k1 _ ?_
 refine zk ⟨?_⟩
 refine v_seq ?_; intro Q2 n2 e2 r2
 refine v_seqR [0,1,5] ?_; intro K3 k3
 refine zAssign ⟨?_⟩
 refine k3 _ ?_
 refine zk ⟨?_⟩
 refine v_block ?_; intro Q4 n4 x4 e4 r4
 refine v_loop (fun i => ⟨[(0, .sl ((markRow k n).map (V.int .i64))), (1, .int .i64 (k + Nat.cast i)), (5, .int .i64 (Nat.cast i))], [], false, 21, 0⟩) (fun i => i ≤ n) (fun i => n - i) 0 ?_ ?_ ?_
 ·refine weak_of [0, 1, 5] ?_
  simp only [keep_mk, keepE_nil, keepE_cons, look_cons, look_nil, Nat.reduceEqDiff, reduceIte]
  simp
 ·exact Nat.zero_le _
 ·rintro i hok5 Q5 n5 e5 r5
  have hi1 : i ≤ n := hok5
  refine v_seq ?_; intro Q6 n6 e6 r6
  refine v_seqR [0,1,5,9] ?_; intro K7 k7
  refine zMove ⟨?_⟩
  refine zMove ⟨?_⟩
  refine zLen ⟨?_⟩
  refine zBinOp ⟨?_⟩
  refine k7 _ ?_
  refine zk ⟨?_⟩
  refine v_condS _ rfl ?_ ?_
  ·intro hc0
   rw [mark_len] at hc0
   have hlt : i < n := by omega
   have hx := mark_at (k := k) hlt
   refine v_skip ?_
   refine n6 _ _ (weak_keep [0, 1, 5] _) ?_
   refine zk ⟨?_⟩
   refine v_seq ?_; intro Q9 n9 e9 r9
   refine v_block ?_; intro Q10 n10 x10 e10 r10
   refine v_seq ?_; intro Q11 n11 e11 r11
   refine v_seqR [0,1,5,17] ?_; intro K12 k12
   have F := Fc.mk (And.intro (fun f => getD_map (f := f) hx) @mark_len)
   refine zMove ⟨?_⟩
   refine zMove ⟨?_⟩
   refine zIndexAddr ⟨?_⟩
   refine zLoad ⟨?_⟩
   refine zMove ⟨?_⟩
   refine zBinOp ⟨?_⟩
   refine k12 _ ?_
   refine zk ⟨?_⟩
   refine v_cond _ rfl ?_ ?_
   ·intro hc1
    exfalso; simp at hc1
   ·intro hc1
    try simp only [zC, reduceCtorEq] at hc1
    refine v_skip ?_
    refine n11 _ _ (weak_keep [0, 1, 5] _) ?_
    refine zk ⟨?_⟩
    refine v_region ?_; intro K14 k14
    refine zMove ⟨?_⟩
    refine zBinOpW ⟨?_⟩
    refine zAssign ⟨?_⟩
    refine k14 _ ?_
    refine n10 _ ?_
    refine n9 _ _ (weak_keep [0, 1, 5] _) ?_
    refine zk ⟨?_⟩
    refine v_region ?_; intro K15 k15
    refine zMove ⟨?_⟩
    refine zBinOpW ⟨?_⟩
    refine zAssign ⟨?_⟩
    refine k15 _ ?_
    refine n5 _ (i + 1) ?_ ?_ ?_
    ·refine weak_of [0, 1, 5] ?_
     simp only [keep_mk, keepE_nil, keepE_cons, look_cons, look_nil, Nat.reduceEqDiff, reduceIte]
     rw [show (k + (i : Int) + 1) = k + ((i + 1 : Nat) : Int) by omega]; rfl
    ·exact hlt
    ·show _ < _; omega
  ·intro hc0
   rw [mark_len] at hc0
   refine v_exit ?_
   refine e6 _ _ ?_
   refine e5 _ _ ?_
   refine x4 _ ?_
   refine n2 _ _ (weak_keep [1] _) ?_
   refine zk ⟨?_⟩
   refine v_seqR [4] ?_; intro K16 k16
   refine zMove ⟨?_⟩
   refine zAssign ⟨?_⟩
   refine k16 _ ?_
   refine zk ⟨?_⟩
   refine v_ret ?_
   refine r0 _ ?_
   refine zf ⟨?_⟩
   have hend : i = n := by omega
   subst hend
   exact ret_pure rfl rfl (.inl rfl)
set_option maxHeartbeats 1000000 in
theorem duPeople_con (n : Int) : Con Try.prog 66 [.int .i64 n] [] (.bool (decide (1 ≤ n) && decide (n ≤ 9))) [] := by
 refine v_con [.tmp 2] [] Try.func66 rfl rfl rfl (by simp [Try.ntmps66]) ?_
 intro Q0 n0 r0
 simp only [Try.ntmps66, envFrom, Nat.reduceAdd]
 have T := Tys.mk (And.intro Ty.t3 Ty.t4)
 have F := Fc.mk True.intro
 refine v_seqR [0] ?_; intro K1 k1
 refine zAssign ⟨?_⟩
 refine k1 _ ?_
 refine zk ⟨?_⟩
 refine v_seqR [2] ?_; intro K2 k2
 refine zMove ⟨?_⟩
 refine zc (l1In_con _ _ _) ⟨?_⟩
 refine zAssign ⟨?_⟩
 refine k2 _ ?_
 refine zk ⟨?_⟩
 refine v_ret ?_
 refine r0 _ ?_
 refine zf ⟨?_⟩
 exact ret_pure rfl (by first | rfl | simp) (.inl rfl)
def dutyB (a b c : Int) : Bool := (decide (1 ≤ a) && decide (a ≤ 9)) && (decide (1 ≤ b) && decide (b ≤ 21)) && (decide (0 ≤ c) && decide (c ≤ 5))

set_option maxHeartbeats 1000000 in
theorem duGood_con (a b c : Int) : Con Try.prog 40 [.agg [.int .i64 a, .int .i64 b, .int .i64 c]] [] (.bool (dutyB a b c)) [] := by
 refine v_con [.tmp 2] [] Try.func40 rfl rfl rfl (by simp [Try.ntmps40]) ?_
 intro Q0 n0 r0
 simp only [Try.ntmps40, envFrom, Nat.reduceAdd]
 have T := Tys.mk (And.intro Ty.t3 (And.intro Ty.t4 Ty.t37))
 have F := Fc.mk True.intro
 refine v_seqR [1] ?_; intro K1 k1
 refine zBox ⟨?_⟩
 refine zAssign ⟨?_⟩
 refine k1 _ ?_
 refine zk ⟨?_⟩
 refine v_seqR [2] ?_; intro K2 k2
 refine zFieldAddr ⟨?_⟩
 refine zLoad ⟨?_⟩
 refine zc (duPeople_con _) ⟨?_⟩
 refine zMove ⟨?_⟩
 refine zgFieldAddr ⟨?_⟩
 refine zgLoad ⟨?_⟩
 refine zgc (l1In_con _ _ _) ⟨?_⟩
 refine zPick ⟨?_⟩
 refine zMove ⟨?_⟩
 refine zgFieldAddr ⟨?_⟩
 refine zgLoad ⟨?_⟩
 refine zgc (l1In_con _ _ _) ⟨?_⟩
 refine zPick ⟨?_⟩
 refine zAssign ⟨?_⟩
 refine k2 _ ?_
 refine zk ⟨?_⟩
 refine v_ret ?_
 refine r0 _ ?_
 refine zf ⟨?_⟩
 exact ret_pure rfl (by first | rfl | simp [dutyB, Bool.and_assoc]) (.inl rfl)
set_option maxHeartbeats 1000000 in
theorem isDuty_con (a b c : Int) : Con Try.prog 47 [.agg [.int .i64 a, .int .i64 b, .int .i64 c]] [] (.bool (dutyB a b c)) [] := by
 refine v_con [.tmp 2] [] Try.func47 rfl rfl rfl (by simp [Try.ntmps47]) ?_
 intro Q0 n0 r0
 simp only [Try.ntmps47, envFrom, Nat.reduceAdd]
 have T := Tys.mk (And.intro Ty.t3 (And.intro Ty.t4 Ty.t37))
 have F := Fc.mk True.intro
 refine v_seqR [1] ?_; intro K1 k1
 refine zBox ⟨?_⟩
 refine zAssign ⟨?_⟩
 refine k1 _ ?_
 refine zk ⟨?_⟩
 refine v_seqR [2] ?_; intro K2 k2
 refine zFieldAddr ⟨?_⟩
 refine zLoad ⟨?_⟩
 refine zc (inside_con _ _ _) ⟨?_⟩
 refine zMove ⟨?_⟩
 refine zgFieldAddr ⟨?_⟩
 refine zgLoad ⟨?_⟩
 refine zgc (inside_con _ _ _) ⟨?_⟩
 refine zPick ⟨?_⟩
 refine zMove ⟨?_⟩
 refine zgFieldAddr ⟨?_⟩
 refine zgLoad ⟨?_⟩
 refine zgc (inside_con _ _ _) ⟨?_⟩
 refine zPick ⟨?_⟩
 refine zAssign ⟨?_⟩
 refine k2 _ ?_
 refine zk ⟨?_⟩
 refine v_ret ?_
 refine r0 _ ?_
 refine zf ⟨?_⟩
 exact ret_pure rfl (by first | rfl | simp [dutyB, Bool.and_assoc]) (.inl rfl)
set_option maxHeartbeats 1000000 in
theorem toDuty_con (a b c : Int) : Con Try.prog 15 [.agg [.int .i64 a, .int .i64 b, .int .i64 c]] [] (.agg [.int .i64 a, .int .i64 b, .int .i64 c]) [] := by
 refine v_con [.cell 2 37] [] Try.func15 rfl rfl rfl (by simp [Try.ntmps15]) ?_
 intro Q0 n0 r0
 simp only [Try.ntmps15, envFrom, Nat.reduceAdd]
 have T := Tys.mk (And.intro Ty.t3 (And.intro Ty.t32 Ty.t37))
 have F := Fc.mk True.intro
 refine v_seqR [1,2] ?_; intro K1 k1
 refine zBox ⟨?_⟩
 refine zAlloc ⟨?_⟩
 refine k1 _ ?_
 refine zk ⟨?_⟩
 refine v_seqR [1,2,3] ?_; intro K2 k2
 refine zAlloc ⟨?_⟩
 refine k2 _ ?_
 refine zk ⟨?_⟩
 refine v_seqR [1,2,3] ?_; intro K3 k3
 refine zFieldAddr ⟨?_⟩
 refine zLoad ⟨?_⟩
 refine zFieldAddr ⟨?_⟩
 refine zStore ⟨?_⟩
 refine k3 _ ?_
 refine zk ⟨?_⟩
 refine v_seqR [1,2,3] ?_; intro K4 k4
 refine zFieldAddr ⟨?_⟩
 refine zLoad ⟨?_⟩
 refine zFieldAddr ⟨?_⟩
 refine zStore ⟨?_⟩
 refine k4 _ ?_
 refine zk ⟨?_⟩
 refine v_seqR [2,3] ?_; intro K5 k5
 refine zFieldAddr ⟨?_⟩
 refine zLoad ⟨?_⟩
 refine zFieldAddr ⟨?_⟩
 refine zStore ⟨?_⟩
 refine k5 _ ?_
 refine zk ⟨?_⟩
 refine v_seqR [2] ?_; intro K6 k6
 refine zLoad ⟨?_⟩
 refine zStore ⟨?_⟩
 refine k6 _ ?_
 refine zk ⟨?_⟩
 refine v_ret ?_
 refine r0 _ ?_
 refine zf ⟨?_⟩
 simp only [zE, zL, zO, zN, aStepM, optable, set_some, Nat.reduceEqDiff, reduceIte, Nat.reduceLT, implies_true, forall_const, reduceCtorEq, V.ofValue, V.ofScalar, V.un, V.gd, aLoad, row_mk, Blk.row, PartOK, Go.Vm.part, V.cells, V.noSl, V.noRef, Nat.reduceAdd, Nat.reduceLeDiff, Nat.reduceMul, Try.underlying3, Ty.c3, Ty.a3, Try.underlying37, Ty.c37, Ty.a37]
 exact ret_pure rfl (by first | rfl | simp) (.inl rfl)
def rosterB (d : List (List Int)) (n : Int) : Bool := d.all (fun l => risingAt 0 (IntKind.i64.wrap (n - 1)) l 0) && (decide (1 ≤ n) && decide (n ≤ 9)) && decide ((d.length : Int) ≤ 21)
theorem roster_in {d : List (List Int)} {n : Int} (h : rosterB d n = true) : 1 ≤ n ∧ n ≤ 9 ∧ ∀ l ∈ d, ∀ x ∈ l, 0 ≤ x ∧ x < n := by
  simp only [rosterB, Bool.and_eq_true, decide_eq_true_eq, List.all_eq_true] at h
  obtain ⟨⟨h1, h2, h3⟩, _⟩ := h
  refine ⟨h2, h3, fun l hl x hx => ?_⟩
  have := h1 l hl
  rw [wrap64 (by omega) (by omega)] at this
  have := rising_in (by simpa [risingAt] using this) x hx
  omega
theorem roster_len {d : List (List Int)} {n : Int} (h : rosterB d n = true) : d.length ≤ 21 := by
  simp only [rosterB, Bool.and_eq_true, decide_eq_true_eq] at h
  omega

set_option maxHeartbeats 1000000 in
theorem duRoster_con (d : List (List Int)) (n : Int) (hd : d.length ≤ 1048576) (hds : ∀ l ∈ d, l.length ≤ 1048576) : Con Try.prog 41 [.sl (d.map fun l => V.sl (l.map (V.int .i64))), .int .i64 n] [] (.bool (rosterB d n)) [] := by
 refine v_con [.tmp 4] [] Try.func41 rfl rfl rfl (by simp [Try.ntmps41]) ?_
 intro Q0 n0 r0
 simp only [Try.ntmps41, envFrom, Nat.reduceAdd]
 have T := Tys.mk (And.intro Ty.t3 (And.intro Ty.t4 (And.intro Ty.t30 Ty.t41)))
 have F := Fc.mk True.intro
 refine v_seqR [0,1] ?_; intro K1 k1
 refine zAssign ⟨?_⟩
 refine k1 _ ?_
 refine zk ⟨?_⟩
 refine v_seq ?_; intro Q2 n2 e2 r2
 refine v_seqR [0,1,7,8,9] ?_; intro K3 k3
 refine zMove ⟨?_⟩
 refine zLen ⟨?_⟩
 refine zMove ⟨?_⟩
 refine k3 _ ?_
 refine zk ⟨?_⟩
 refine v_block ?_; intro Q4 n4 x4 e4 r4
 refine v_loop (fun i => ⟨[(0, .sl (d.map fun l => V.sl (l.map (V.int .i64)))), (1, .int .i64 n), (7, .sl (d.map fun l => V.sl (l.map (V.int .i64)))), (8, .int .i64 d.length), (9, .int .i64 (Nat.cast i))], [], false, 26, 0⟩) (fun i => i ≤ d.length ∧ d.all (fun l => risingAt 0 (IntKind.i64.wrap (n - 1)) l 0) = (d.drop i).all (fun l => risingAt 0 (IntKind.i64.wrap (n - 1)) l 0)) (fun i => d.length - i) 0 ?_ ?_ ?_
 ·refine weak_of [0, 1, 7, 8, 9] ?_
  simp only [keep_mk, keepE_nil, keepE_cons, look_cons, look_nil, Nat.reduceEqDiff, reduceIte]
  rfl
 ·exact ⟨Nat.zero_le _, by simp⟩
 ·rintro i hok5 Q5 n5 e5 r5
  obtain ⟨hi1, hR⟩ := hok5
  refine v_seqR [0,1,7,8,9,10] ?_; intro K6 k6
  refine zBinOp ⟨?_⟩
  refine k6 _ ?_
  refine zk ⟨?_⟩
  refine v_seq ?_; intro Q7 n7 e7 r7
  refine v_condS _ rfl ?_ ?_
  ·intro hc0
   have hlt : i < d.length := by omega
   obtain ⟨x, hx⟩ : ∃ x, d[i]? = some x := ⟨d[i], List.getElem?_eq_getElem hlt⟩
   have hlx : x.length ≤ 1048576 := hds x (List.mem_of_getElem? hx)
   have hstep := all_drop (f := (fun l => risingAt 0 (IntKind.i64.wrap (n - 1)) l 0)) hx
   refine v_skip ?_
   refine n7 _ _ (weak_keep [0, 1, 7, 8, 9] _) ?_
   refine zk ⟨?_⟩
   refine v_seq ?_; intro Q9 n9 e9 r9
   refine v_block ?_; intro Q10 n10 x10 e10 r10
   refine v_seqR [0,1,6,7,8,9] ?_; intro K11 k11
   have F := Fc.mk (fun f => getD_map (f := f) hx)
   refine zIndexAddr ⟨?_⟩
   refine zLoad ⟨?_⟩
   refine zAssign ⟨?_⟩
   refine k11 _ ?_
   refine zk ⟨?_⟩
   refine v_seqR [0,1,7,8,9,17] ?_; intro K12 k12
   refine zMove ⟨?_⟩
   refine zMove ⟨?_⟩
   refine zBinOpW ⟨?_⟩
   refine zc (l1Rising_con x 0 _ hlx) ⟨?_⟩
   refine zUnOp ⟨?_⟩
   refine k12 _ ?_
   refine zk ⟨?_⟩
   refine v_condS _ rfl ?_ ?_
   ·intro hc1
    refine v_seqR [4] ?_; intro K14 k14
    refine zAssign ⟨?_⟩
    refine k14 _ ?_
    refine zk ⟨?_⟩
    refine v_ret ?_
    refine r10 _ ?_
    refine r9 _ ?_
    refine r5 _ ?_
    refine r4 _ ?_
    refine r2 _ ?_
    refine r0 _ ?_
    refine zf ⟨?_⟩
    exact ret_pure rfl (by rw [rosterB, hR, hstep, hc1]; simp) (.inl rfl)
   ·intro hc1
    refine v_skip ?_
    refine n10 _ ?_
    refine n9 _ _ (weak_keep [0, 1, 7, 8, 9] _) ?_
    refine zk ⟨?_⟩
    refine v_region ?_; intro K15 k15
    refine zBinOpW ⟨?_⟩
    refine zMove ⟨?_⟩
    refine k15 _ ?_
    refine n5 _ (i + 1) ?_ ?_ ?_
    ·refine weak_of [0, 1, 7, 8, 9] ?_
     simp only [keep_mk, keepE_nil, keepE_cons, look_cons, look_nil, Nat.reduceEqDiff, reduceIte]
     rfl
    ·exact ⟨by omega, by rw [hR, hstep, hc1]; simp⟩
    ·show _ < _; omega
  ·intro hc0
   refine v_exit ?_
   refine e7 _ _ ?_
   refine e5 _ _ ?_
   refine x4 _ ?_
   refine n2 _ _ (weak_keep [0, 1] _) ?_
   refine zk ⟨?_⟩
   refine v_seqR [4] ?_; intro K16 k16
   refine zMove ⟨?_⟩
   refine zc (duPeople_con _) ⟨?_⟩
   refine zMove ⟨?_⟩
   refine zgMove ⟨?_⟩
   refine zgLen ⟨?_⟩
   refine zgBinOp ⟨?_⟩
   refine zPick ⟨?_⟩
   refine zAssign ⟨?_⟩
   refine k16 _ ?_
   refine zk ⟨?_⟩
   refine v_ret ?_
   refine r0 _ ?_
   refine zf ⟨?_⟩
   exact ret_pure rfl (by rw [List.drop_of_length_le (by omega), List.all_nil] at hR; simp only [rosterB, hR]; simp [Bool.and_comm, Bool.and_left_comm, Bool.and_assoc]) (.inl rfl)
set_option maxHeartbeats 1000000 in
theorem isRoster_con (d : List (List Int)) (n : Int) (hd : d.length ≤ 1048576) (hds : ∀ l ∈ d, l.length ≤ 1048576) : Con Try.prog 48 [.sl (d.map fun l => V.sl (l.map (V.int .i64))), .int .i64 n] [] (.bool (rosterB d n)) [] := by
 refine v_con [.tmp 4] [] Try.func48 rfl rfl rfl (by simp [Try.ntmps48]) ?_
 intro Q0 n0 r0
 simp only [Try.ntmps48, envFrom, Nat.reduceAdd]
 have T := Tys.mk (And.intro Ty.t3 (And.intro Ty.t4 (And.intro Ty.t30 Ty.t41)))
 have F := Fc.mk True.intro
 refine v_seqR [0,1] ?_; intro K1 k1
 refine zAssign ⟨?_⟩
 refine k1 _ ?_
 refine zk ⟨?_⟩
 refine v_seq ?_; intro Q2 n2 e2 r2
 refine v_seqR [0,1,9,10,11] ?_; intro K3 k3
 refine zMove ⟨?_⟩
 refine zLen ⟨?_⟩
 refine zMove ⟨?_⟩
 refine k3 _ ?_
 refine zk ⟨?_⟩
 refine v_block ?_; intro Q4 n4 x4 e4 r4
 refine v_loop (fun i => ⟨[(0, .sl (d.map fun l => V.sl (l.map (V.int .i64)))), (1, .int .i64 n), (9, .sl (d.map fun l => V.sl (l.map (V.int .i64)))), (10, .int .i64 d.length), (11, .int .i64 (Nat.cast i))], [], false, 49, 0⟩) (fun i => i ≤ d.length ∧ d.all (fun l => risingAt 0 (IntKind.i64.wrap (n - 1)) l 0) = (d.drop i).all (fun l => risingAt 0 (IntKind.i64.wrap (n - 1)) l 0)) (fun i => d.length - i) 0 ?_ ?_ ?_
 ·refine weak_of [0, 1, 9, 10, 11] ?_
  simp only [keep_mk, keepE_nil, keepE_cons, look_cons, look_nil, Nat.reduceEqDiff, reduceIte]
  rfl
 ·exact ⟨Nat.zero_le _, by simp⟩
 ·rintro i hok5 Q5 n5 e5 r5
  obtain ⟨hi1, hR⟩ := hok5
  refine v_seqR [0,1,9,10,11,12] ?_; intro K6 k6
  refine zBinOp ⟨?_⟩
  refine k6 _ ?_
  refine zk ⟨?_⟩
  refine v_seq ?_; intro Q7 n7 e7 r7
  refine v_condS _ rfl ?_ ?_
  ·intro hc0
   have hlt : i < d.length := by omega
   obtain ⟨x, hx⟩ : ∃ x, d[i]? = some x := ⟨d[i], List.getElem?_eq_getElem hlt⟩
   have hlx : x.length ≤ 1048576 := hds x (List.mem_of_getElem? hx)
   have hstep := all_drop (f := (fun l => risingAt 0 (IntKind.i64.wrap (n - 1)) l 0)) hx
   refine v_skip ?_
   refine n7 _ _ (weak_keep [0, 1, 9, 10, 11] _) ?_
   refine zk ⟨?_⟩
   refine v_seq ?_; intro Q9 n9 e9 r9
   refine v_block ?_; intro Q10 n10 x10 e10 r10
   refine v_seqR [0,1,6,9,10,11] ?_; intro K11 k11
   have F := Fc.mk (fun f => getD_map (f := f) hx)
   refine zIndexAddr ⟨?_⟩
   refine zLoad ⟨?_⟩
   refine zAssign ⟨?_⟩
   refine k11 _ ?_
   refine zk ⟨?_⟩
   refine v_seqR [0,1,6,9,10,11,15,16,17] ?_; intro K12 k12
   refine zMove ⟨?_⟩
   refine zLen ⟨?_⟩
   refine zMove ⟨?_⟩
   refine k12 _ ?_
   refine zk ⟨?_⟩
   refine v_block ?_; intro Q13 n13 x13 e13 r13
   refine v_loop (fun j => ⟨[(0, .sl (d.map fun l => V.sl (l.map (V.int .i64)))), (1, .int .i64 n), (6, .sl (x.map (V.int .i64))), (9, .sl (d.map fun l => V.sl (l.map (V.int .i64)))), (10, .int .i64 d.length), (11, .int .i64 (Nat.cast i)), (15, .sl (x.map (V.int .i64))), (16, .int .i64 x.length), (17, .int .i64 (Nat.cast j))], [], false, 49, 0⟩) (fun j => j ≤ x.length ∧ risingAt 0 (IntKind.i64.wrap (n - 1)) x j = risingAt 0 (IntKind.i64.wrap (n - 1)) x 0) (fun j => x.length - j) 0 ?_ ?_ ?_
   ·refine weak_of [0, 1, 6, 9, 10, 11, 15, 16, 17] ?_
    simp only [keep_mk, keepE_nil, keepE_cons, look_cons, look_nil, Nat.reduceEqDiff, reduceIte]
    rfl
   ·exact ⟨Nat.zero_le _, rfl⟩
   ·rintro j hok14 Q14 n14 e14 r14
    obtain ⟨hj1, hR2⟩ := hok14
    refine v_seqR [0,1,6,9,10,11,15,16,17,18] ?_; intro K15 k15
    refine zBinOp ⟨?_⟩
    refine k15 _ ?_
    refine zk ⟨?_⟩
    refine v_seq ?_; intro Q16 n16 e16 r16
    refine v_condS _ rfl ?_ ?_
    ·intro hc1
     have hltj : j < x.length := by omega
     obtain ⟨y, hy⟩ : ∃ y, x[j]? = some y := ⟨x[j], List.getElem?_eq_getElem hltj⟩
     rcases Nat.eq_zero_or_pos j with h0 | h0
     ·skip
      have hj0 : ¬ ((0 : Int) < (j : Int)) := by omega
      have hst : risingAt 0 (IntKind.i64.wrap (n - 1)) x j = (inR y 0 (IntKind.i64.wrap (n - 1)) && risingAt 0 (IntKind.i64.wrap (n - 1)) x (j + 1)) := by subst h0; exact risingAt_zero hy
      refine v_skip ?_
      refine n16 _ _ (weak_keep [0, 1, 6, 9, 10, 11, 15, 16, 17] _) ?_
      refine zk ⟨?_⟩
      refine v_seq ?_; intro Q18 n18 e18 r18
      refine v_block ?_; intro Q19 n19 x19 e19 r19
      refine v_seqR [0,1,6,7,8,9,10,11,15,16,17] ?_; intro K20 k20
      have F := Fc.mk (And.intro (fun f => getD_map (f := f) hx) (And.intro (fun f => getD_map (f := f) hy) (And.intro hj0 (And.intro @decide_false @Bool.and_false))))
      refine zMove ⟨?_⟩
      refine zIndexAddr ⟨?_⟩
      refine zLoad ⟨?_⟩
      refine zAssign ⟨?_⟩
      refine zAssign ⟨?_⟩
      refine k20 _ ?_
      refine zk ⟨?_⟩
      refine v_seqR [0,1,6,9,10,11,15,16,17,39] ?_; intro K21 k21
      refine zMove ⟨?_⟩
      refine zMove ⟨?_⟩
      refine zBinOpW ⟨?_⟩
      refine zc (inside_con _ _ _) ⟨?_⟩
      refine zUnOp ⟨?_⟩
      refine zMove ⟨?_⟩
      refine zgMove ⟨?_⟩
      refine zgBinOp ⟨?_⟩
      refine zgMove ⟨?_⟩
      refine zgMove ⟨?_⟩
      refine zgMove ⟨?_⟩
      refine zgBinOpW ⟨?_⟩
      refine zgIndexAddr ⟨?_⟩
      refine zgLoad ⟨?_⟩
      refine zgMove ⟨?_⟩
      refine zgBinOp ⟨?_⟩
      refine zgPick ⟨?_⟩
      refine zPick ⟨?_⟩
      refine k21 _ ?_
      refine zk ⟨?_⟩
      refine v_condS _ rfl ?_ ?_
      ·intro hc2
       refine v_seqR [4] ?_; intro K23 k23
       refine zAssign ⟨?_⟩
       refine k23 _ ?_
       refine zk ⟨?_⟩
       refine v_ret ?_
       refine r19 _ ?_
       refine r18 _ ?_
       refine r14 _ ?_
       refine r13 _ ?_
       refine r10 _ ?_
       refine r9 _ ?_
       refine r5 _ ?_
       refine r4 _ ?_
       refine r2 _ ?_
       refine r0 _ ?_
       refine zf ⟨?_⟩
       exact ret_pure rfl (by rw [rosterB, hR, hstep, ← hR2, hst]; simp [inR]; intros; omega) (.inl rfl)
      ·intro hc2
       refine v_skip ?_
       refine n19 _ ?_
       refine n18 _ _ (weak_keep [0, 1, 6, 9, 10, 11, 15, 16, 17] _) ?_
       refine zk ⟨?_⟩
       refine v_region ?_; intro K24 k24
       refine zBinOpW ⟨?_⟩
       refine zMove ⟨?_⟩
       refine k24 _ ?_
       refine n14 _ (j + 1) ?_ ?_ ?_
       ·refine weak_of [0, 1, 6, 9, 10, 11, 15, 16, 17] ?_
        simp only [keep_mk, keepE_nil, keepE_cons, look_cons, look_nil, Nat.reduceEqDiff, reduceIte]
        rfl
       ·exact ⟨by omega, by rw [← hR2, hst]; simp [inR]; intros; omega⟩
       ·show _ < _; omega
     ·skip
      obtain ⟨z, hz⟩ : ∃ z, x[j - 1]? = some z := ⟨x[j - 1], List.getElem?_eq_getElem (by omega)⟩
      have hj0 : (0 : Int) < j := by omega
      have hk : ((j : Int) - 1).toNat = j - 1 := by omega
      have hst := risingAt_succ (lo := 0) (hi := IntKind.i64.wrap (n - 1)) h0 hz hy
      refine v_skip ?_
      refine n16 _ _ (weak_keep [0, 1, 6, 9, 10, 11, 15, 16, 17] _) ?_
      refine zk ⟨?_⟩
      refine v_seq ?_; intro Q25 n25 e25 r25
      refine v_block ?_; intro Q26 n26 x26 e26 r26
      refine v_seqR [0,1,6,7,8,9,10,11,15,16,17] ?_; intro K27 k27
      have F := Fc.mk (And.intro (fun f => getD_map (f := f) hx) (And.intro (fun f => getD_map (f := f) hy) (And.intro hj0 (And.intro hk (And.intro (fun f => getD_map (f := f) hz) (And.intro @decide_true @Bool.and_true))))))
      refine zMove ⟨?_⟩
      refine zIndexAddr ⟨?_⟩
      refine zLoad ⟨?_⟩
      refine zAssign ⟨?_⟩
      refine zAssign ⟨?_⟩
      refine k27 _ ?_
      refine zk ⟨?_⟩
      refine v_seqR [0,1,6,9,10,11,15,16,17,39] ?_; intro K28 k28
      refine zMove ⟨?_⟩
      refine zMove ⟨?_⟩
      refine zBinOpW ⟨?_⟩
      refine zc (inside_con _ _ _) ⟨?_⟩
      refine zUnOp ⟨?_⟩
      refine zMove ⟨?_⟩
      refine zgMove ⟨?_⟩
      refine zgBinOp ⟨?_⟩
      refine zgMove ⟨?_⟩
      refine zgMove ⟨?_⟩
      refine zgMove ⟨?_⟩
      refine zgBinOpW ⟨?_⟩
      refine zgIndexAddr ⟨?_⟩
      refine zgLoad ⟨?_⟩
      refine zgMove ⟨?_⟩
      refine zgBinOp ⟨?_⟩
      refine zgPick ⟨?_⟩
      refine zPick ⟨?_⟩
      refine k28 _ ?_
      refine zk ⟨?_⟩
      refine v_condS _ rfl ?_ ?_
      ·intro hc2
       refine v_seqR [4] ?_; intro K30 k30
       refine zAssign ⟨?_⟩
       refine k30 _ ?_
       refine zk ⟨?_⟩
       refine v_ret ?_
       refine r26 _ ?_
       refine r25 _ ?_
       refine r14 _ ?_
       refine r13 _ ?_
       refine r10 _ ?_
       refine r9 _ ?_
       refine r5 _ ?_
       refine r4 _ ?_
       refine r2 _ ?_
       refine r0 _ ?_
       refine zf ⟨?_⟩
       exact ret_pure rfl (by rw [rosterB, hR, hstep, ← hR2, hst]; simp [inR]; intros; omega) (.inl rfl)
      ·intro hc2
       refine v_skip ?_
       refine n26 _ ?_
       refine n25 _ _ (weak_keep [0, 1, 6, 9, 10, 11, 15, 16, 17] _) ?_
       refine zk ⟨?_⟩
       refine v_region ?_; intro K31 k31
       refine zBinOpW ⟨?_⟩
       refine zMove ⟨?_⟩
       refine k31 _ ?_
       refine n14 _ (j + 1) ?_ ?_ ?_
       ·refine weak_of [0, 1, 6, 9, 10, 11, 15, 16, 17] ?_
        simp only [keep_mk, keepE_nil, keepE_cons, look_cons, look_nil, Nat.reduceEqDiff, reduceIte]
        rfl
       ·exact ⟨by omega, by rw [← hR2, hst]; simp [inR]; intros; omega⟩
       ·show _ < _; omega
    ·intro hc1
     refine v_exit ?_
     refine e16 _ _ ?_
     refine e14 _ _ ?_
     refine x13 _ ?_
     refine n10 _ ?_
     refine n9 _ _ (weak_keep [0, 1, 9, 10, 11] _) ?_
     refine zk ⟨?_⟩
     refine v_region ?_; intro K32 k32
     refine zBinOpW ⟨?_⟩
     refine zMove ⟨?_⟩
     refine k32 _ ?_
     refine n5 _ (i + 1) ?_ ?_ ?_
     ·refine weak_of [0, 1, 9, 10, 11] ?_
      simp only [keep_mk, keepE_nil, keepE_cons, look_cons, look_nil, Nat.reduceEqDiff, reduceIte]
      rfl
     ·exact ⟨by omega, by rw [hR, hstep, ← hR2, risingAt_end (by omega)]; simp⟩
     ·show _ < _; omega
  ·intro hc0
   refine v_exit ?_
   refine e7 _ _ ?_
   refine e5 _ _ ?_
   refine x4 _ ?_
   refine n2 _ _ (weak_keep [0, 1] _) ?_
   refine zk ⟨?_⟩
   refine v_seqR [4] ?_; intro K33 k33
   refine zMove ⟨?_⟩
   refine zLen ⟨?_⟩
   refine zBinOp ⟨?_⟩
   refine zMove ⟨?_⟩
   refine zgMove ⟨?_⟩
   refine zgc (inside_con _ _ _) ⟨?_⟩
   refine zPick ⟨?_⟩
   refine zAssign ⟨?_⟩
   refine k33 _ ?_
   refine zk ⟨?_⟩
   refine v_ret ?_
   refine r0 _ ?_
   refine zf ⟨?_⟩
   exact ret_pure rfl (by rw [List.drop_of_length_le (by omega), List.all_nil] at hR; simp only [rosterB, hR]; simp [Bool.and_comm, Bool.and_left_comm, Bool.and_assoc]) (.inl rfl)
end Go.Proofs.Ytldnelkcmffiaaa
