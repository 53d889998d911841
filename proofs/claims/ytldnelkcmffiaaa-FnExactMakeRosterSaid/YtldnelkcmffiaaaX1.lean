/- What functions compute. No condition. -/
import Derived.Test.YtldnelkcmffiaaaUty
import Derived.Test.YtldnelkcmffiaaaUmG
set_option linter.unusedSimpArgs false
set_option linter.unusedVariables false
set_option linter.defProp false
namespace Go.Proofs.Ytldnelkcmffiaaa
open Go Go.Vm

set_option maxHeartbeats 1000000 in
theorem inside_con (n lo hi : Int) : Con Try.prog 34 [.int .i64 n, .int .i64 lo, .int .i64 hi] [] (.bool (decide (lo ≤ n) && decide (n ≤ hi))) [] := by
 refine v_con [.tmp 6] [] Try.func34 rfl rfl rfl (by simp [Try.ntmps34]) ?_
 intro Q0 n0 r0
 simp only [Try.ntmps34, envFrom, Nat.reduceAdd]
 have T := Tys.mk Ty.t3
 have F := Fc.mk True.intro
 refine v_seqR [0,1,2] ?_; intro K1 k1
 refine zAssign ⟨?_⟩
 refine k1 _ ?_
 refine zk ⟨?_⟩
 refine v_seqR [6] ?_; intro K2 k2
 refine zMove ⟨?_⟩
 refine zMove ⟨?_⟩
 refine zBinOp ⟨?_⟩
 refine zMove ⟨?_⟩
 refine zgMove ⟨?_⟩
 refine zgMove ⟨?_⟩
 refine zgBinOp ⟨?_⟩
 refine zPick ⟨?_⟩
 refine zAssign ⟨?_⟩
 refine k2 _ ?_
 refine zk ⟨?_⟩
 refine v_ret ?_
 refine r0 _ ?_
 refine zf ⟨?_⟩
 exact ret_pure rfl (by first | rfl | simp) (.inl rfl)
set_option maxHeartbeats 1000000 in
theorem l1In_con (n lo hi : Int) : Con Try.prog 29 [.int .i64 n, .int .i64 lo, .int .i64 hi] [] (.bool (decide (lo ≤ n) && decide (n ≤ hi))) [] := by
 refine v_con [.tmp 6] [] Try.func29 rfl rfl rfl (by simp [Try.ntmps29]) ?_
 intro Q0 n0 r0
 simp only [Try.ntmps29, envFrom, Nat.reduceAdd]
 have T := Tys.mk Ty.t3
 have F := Fc.mk True.intro
 refine v_seqR [0,1,2] ?_; intro K1 k1
 refine zAssign ⟨?_⟩
 refine k1 _ ?_
 refine zk ⟨?_⟩
 refine v_seqR [6] ?_; intro K2 k2
 refine zMove ⟨?_⟩
 refine zMove ⟨?_⟩
 refine zBinOp ⟨?_⟩
 refine zMove ⟨?_⟩
 refine zgMove ⟨?_⟩
 refine zgMove ⟨?_⟩
 refine zgBinOp ⟨?_⟩
 refine zPick ⟨?_⟩
 refine zAssign ⟨?_⟩
 refine k2 _ ?_
 refine zk ⟨?_⟩
 refine v_ret ?_
 refine r0 _ ?_
 refine zf ⟨?_⟩
 exact ret_pure rfl (by first | rfl | simp) (.inl rfl)
theorem getElem_drop_cons {α : Type} {l : List α} {i : Nat} {x : α} (h : l[i]? = some x) : l.drop i = x :: l.drop (i + 1) := by
  obtain ⟨hi, rfl⟩ := List.getElem?_eq_some_iff.1 h
  exact List.drop_eq_getElem_cons hi
theorem eq_drop {α : Type} [DecidableEq α] {a b : List α} {i : Nat} (h : a.length = b.length) {x y : α} (hx : a[i]? = some x) (hy : b[i]? = some y) : (a.drop i = b.drop i) ↔ (x = y ∧ a.drop (i + 1) = b.drop (i + 1)) := by
  rw [getElem_drop_cons hx, getElem_drop_cons hy, List.cons.injEq]
theorem all_drop {α : Type} {f : α → Bool} {l : List α} {i : Nat} {x : α} (h : l[i]? = some x) : (l.drop i).all f = (f x && (l.drop (i + 1)).all f) := by
  rw [getElem_drop_cons h, List.all_cons]
theorem foldl_drop {α β : Type} {f : β → α → β} {l : List α} {i : Nat} {x : α} (h : l[i]? = some x) (b : β) : (l.drop i).foldl f b = (l.drop (i + 1)).foldl f (f b x) := by
  rw [getElem_drop_cons h, List.foldl_cons]
theorem foldl_end {α β : Type} {f : β → α → β} {l : List α} {i : Nat} (h : l.length ≤ i) (b : β) : (l.drop i).foldl f b = b := by
  rw [List.drop_of_length_le h]; rfl
theorem set_map {α : Type} {f : α → V} {l : List α} {i : Nat} {x : α} : (l.map f).set i (f x) = (l.set i x).map f := (List.map_set).symm

def inR (n lo hi : Int) : Bool := decide (lo ≤ n) && decide (n ≤ hi)
def risingFrom (lo hi : Int) : Option Int → List Int → Bool
  | _, [] => true
  | none, x :: xs => inR x lo hi && risingFrom lo hi (some x) xs
  | some p, x :: xs => inR x lo hi && decide (p < x) && risingFrom lo hi (some x) xs
def risingAt (lo hi : Int) (l : List Int) (i : Nat) : Bool := risingFrom lo hi (if i = 0 then none else l[i - 1]?) (l.drop i)
theorem risingAt_zero {lo hi : Int} {l : List Int} {x : Int} (h : l[0]? = some x) : risingAt lo hi l 0 = (inR x lo hi && risingAt lo hi l 1) := by
  simp only [risingAt, getElem_drop_cons h, if_true, risingFrom]
  simp [h]
theorem risingAt_succ {lo hi : Int} {l : List Int} {x y : Int} {i : Nat} (h0 : 0 < i) (hy : l[i - 1]? = some y) (h : l[i]? = some x) : risingAt lo hi l i = (inR x lo hi && decide (y < x) && risingAt lo hi l (i + 1)) := by
  simp only [risingAt, getElem_drop_cons h, hy, show ¬ i = 0 by omega, if_false, risingFrom]
  simp [h]
theorem risingAt_end {lo hi : Int} {l : List Int} {i : Nat} (h : l.length ≤ i) : risingAt lo hi l i = true := by
  simp only [risingAt, List.drop_of_length_le h]
  split <;> rfl
theorem rising_in {lo hi : Int} : ∀ {l : List Int} {p : Option Int}, risingFrom lo hi p l = true → ∀ x ∈ l, lo ≤ x ∧ x ≤ hi
  | [], _, _, x, hx => by cases hx
  | y :: l, p, h, x, hx => by
    have h2 : inR y lo hi = true ∧ risingFrom lo hi (some y) l = true := by
      cases p <;> simp [risingFrom] at h <;> simp [h]
    rcases List.mem_cons.1 hx with rfl | h3
    · simpa [inR] using h2.1
    · exact rising_in h2.2 x h3

set_option maxHeartbeats 1000000 in
theorem eqIntS_con (a b : List Int) (ha : a.length ≤ 1048576) : Con Try.prog 23 [.sl (a.map (V.int .i64)), .sl (b.map (V.int .i64))] [] (.bool (decide (a = b))) [] := by
 refine v_con [.tmp 4] [] Try.func23 rfl rfl rfl (by simp [Try.ntmps23]) ?_
 intro Q0 n0 r0
 simp only [Try.ntmps23, envFrom, Nat.reduceAdd]
 have T := Tys.mk (And.intro Ty.t3 Ty.t41)
 have F := Fc.mk True.intro
 refine v_seqR [0,1] ?_; intro K1 k1
 refine zAssign ⟨?_⟩
 refine k1 _ ?_
 refine zk ⟨?_⟩
 refine v_seq ?_; intro Q2 n2 e2 r2
 refine v_seqR [0,1,10] ?_; intro K3 k3
 refine zMove ⟨?_⟩
 refine zLen ⟨?_⟩
 refine zMove ⟨?_⟩
 refine zLen ⟨?_⟩
 refine zBinOp ⟨?_⟩
 refine k3 _ ?_
 refine zk ⟨?_⟩
 refine v_condS _ rfl ?_ ?_
 ·intro hc0
  refine v_seqR [4] ?_; intro K5 k5
  refine zAssign ⟨?_⟩
  refine k5 _ ?_
  refine zk ⟨?_⟩
  refine v_ret ?_
  refine r2 _ ?_
  refine r0 _ ?_
  refine zf ⟨?_⟩
  exact ret_pure rfl (by rw [decide_eq_false (fun h => by subst h; simp at hc0)]) (.inl rfl)
 ·intro hc0
  have hab : a.length = b.length := by omega
  refine v_skip ?_
  refine n2 _ _ (weak_keep [0, 1] _) ?_
  refine zk ⟨?_⟩
  refine v_seq ?_; intro Q6 n6 e6 r6
  refine v_seqR [0,1,5] ?_; intro K7 k7
  refine zAssign ⟨?_⟩
  refine k7 _ ?_
  refine zk ⟨?_⟩
  refine v_block ?_; intro Q8 n8 x8 e8 r8
  refine v_loop (fun i => ⟨[(0, .sl (a.map (V.int .i64))), (1, .sl (b.map (V.int .i64))), (5, .int .i64 (Nat.cast i))], [], false, 26, 0⟩) (fun i => i ≤ a.length ∧ ((a = b) ↔ (a.drop i = b.drop i))) (fun i => a.length - i) 0 ?_ ?_ ?_
  ·refine weak_of [0, 1, 5] ?_
   simp only [keep_mk, keepE_nil, keepE_cons, look_cons, look_nil, Nat.reduceEqDiff, reduceIte]
   rfl
  ·exact ⟨Nat.zero_le _, by simp⟩
  ·rintro i hok9 Q9 n9 e9 r9
   obtain ⟨hi1, hR⟩ := hok9
   refine v_seq ?_; intro Q10 n10 e10 r10
   refine v_seqR [0,1,5,14] ?_; intro K11 k11
   refine zMove ⟨?_⟩
   refine zMove ⟨?_⟩
   refine zLen ⟨?_⟩
   refine zBinOp ⟨?_⟩
   refine k11 _ ?_
   refine zk ⟨?_⟩
   refine v_condS _ rfl ?_ ?_
   ·intro hc1
    have hlt : i < a.length := by omega
    obtain ⟨x, hx⟩ : ∃ x, a[i]? = some x := ⟨a[i], List.getElem?_eq_getElem hlt⟩
    obtain ⟨y, hy⟩ : ∃ y, b[i]? = some y := ⟨b[i], List.getElem?_eq_getElem (by omega)⟩
    have hstep := eq_drop hab hx hy
    refine v_skip ?_
    refine n10 _ _ (weak_keep [0, 1, 5] _) ?_
    refine zk ⟨?_⟩
    refine v_seq ?_; intro Q13 n13 e13 r13
    refine v_block ?_; intro Q14 n14 x14 e14 r14
    refine v_seq ?_; intro Q15 n15 e15 r15
    refine v_draw (by kernel_rfl) ?_; intro K16 q16 k16
    show aAny _ _ _ _ 9 (Array.replicate 9 false) _
    have F := Fc.mk (And.intro (fun f => getD_map (f := f) hx) (fun f => getD_map (f := f) hy))
    refine zdMove q16 true 0 17 ?_
    refine zdMove q16 true 1 18 ?_
    refine zdIndexAddr q16 true 2 19 ?_
    refine zdLoad q16 true 3 20 ?_
    refine zdMove q16 true 4 21 ?_
    refine zdMove q16 true 5 22 ?_
    refine zdIndexAddr q16 true 6 23 ?_
    refine zdLoad q16 true 7 24 ?_
    refine zdBinOp q16 true 8 25 ?_
    refine aAny_done (by kernel_rfl) ?_
    refine k16 _ ?_
    refine n15 _ _ (weak_keep [0, 1, 5, 25] _) ?_
    refine zk ⟨?_⟩
    refine v_condS _ rfl ?_ ?_
    ·intro hc2
     refine v_seqR [4] ?_; intro K18 k18
     refine zAssign ⟨?_⟩
     refine k18 _ ?_
     refine zk ⟨?_⟩
     refine v_ret ?_
     refine r14 _ ?_
     refine r13 _ ?_
     refine r9 _ ?_
     refine r8 _ ?_
     refine r6 _ ?_
     refine r0 _ ?_
     refine zf ⟨?_⟩
     exact ret_pure rfl (by rw [decide_eq_false (fun h => hc2 (hstep.1 (hR.1 h)).1)]) (.inl rfl)
    ·intro hc2
     refine v_skip ?_
     refine n14 _ ?_
     refine n13 _ _ (weak_keep [0, 1, 5] _) ?_
     refine zk ⟨?_⟩
     refine v_region ?_; intro K19 k19
     refine zMove ⟨?_⟩
     refine zBinOpW ⟨?_⟩
     refine zAssign ⟨?_⟩
     refine k19 _ ?_
     refine n9 _ (i + 1) ?_ ?_ ?_
     ·refine weak_of [0, 1, 5] ?_
      simp only [keep_mk, keepE_nil, keepE_cons, look_cons, look_nil, Nat.reduceEqDiff, reduceIte]
      rfl
     ·exact ⟨by omega, hR.trans (hstep.trans ⟨fun h => h.2, fun h => ⟨hc2, h⟩⟩)⟩
     ·show _ < _; omega
   ·intro hc1
    refine v_exit ?_
    refine e10 _ _ ?_
    refine e9 _ _ ?_
    refine x8 _ ?_
    refine n6 _ _ (weak_keep [] _) ?_
    refine zk ⟨?_⟩
    refine v_seqR [4] ?_; intro K20 k20
    refine zAssign ⟨?_⟩
    refine k20 _ ?_
    refine zk ⟨?_⟩
    refine v_ret ?_
    refine r0 _ ?_
    refine zf ⟨?_⟩
    exact ret_pure rfl (by rw [decide_eq_true (hR.2 (by rw [List.drop_of_length_le (by omega), List.drop_of_length_le (by omega)]))]) (.inl rfl)
def szS (n : Int) (l : List Int) : Int := if n - l.length < 0 then -1 else n - l.length
def szSS : Int → List (List Int) → Int
  | n, [] => n
  | n, l :: ll => if szS n l < 0 then -1 else szSS (szS n l) ll
theorem szSS_le : ∀ {ll : List (List Int)} {n : Int}, 0 ≤ szSS n ll → ∀ l ∈ ll, (l.length : Int) ≤ n
  | [], _, _, l, hl => by cases hl
  | x :: ll, n, h, l, hl => by
    rw [szSS] at h
    split at h
    · omega
    · rename_i hs
      have hx : (x.length : Int) ≤ n ∧ szS n x ≤ n := by
        unfold szS at hs ⊢
        split at hs
        · omega
        · rename_i h2; rw [if_neg h2]; omega
      rcases List.mem_cons.1 hl with rfl | h3
      · exact hx.1
      · have := szSS_le h l h3; omega

set_option maxHeartbeats 1000000 in
theorem szIntS_con (n : Int) (l : List Int) (hn : 0 ≤ n ∧ n ≤ 1048576) (hl : l.length ≤ 9223372036854775807) : Con Try.prog 39 [.sl (l.map (V.int .i64)), .int .i64 n] [] (.int .i64 (szS n l)) [] := by
 refine v_con [.tmp 4] [] Try.func39 rfl rfl rfl (by simp [Try.ntmps39]) ?_
 intro Q0 n0 r0
 simp only [Try.ntmps39, envFrom, Nat.reduceAdd]
 have T := Tys.mk (And.intro Ty.t3 Ty.t41)
 have F := Fc.mk True.intro
 refine v_seqR [0,1] ?_; intro K1 k1
 refine zAssign ⟨?_⟩
 refine k1 _ ?_
 refine zk ⟨?_⟩
 refine v_seqR [1] ?_; intro K2 k2
 refine zMove ⟨?_⟩
 refine zMove ⟨?_⟩
 refine zLen ⟨?_⟩
 refine zBinOpW ⟨?_⟩
 refine zAssign ⟨?_⟩
 refine k2 _ ?_
 refine zk ⟨?_⟩
 refine v_seq ?_; intro Q3 n3 e3 r3
 refine v_seqR [1,10] ?_; intro K4 k4
 refine zMove ⟨?_⟩
 refine zBinOp ⟨?_⟩
 refine k4 _ ?_
 refine zk ⟨?_⟩
 refine v_condS _ rfl ?_ ?_
 ·intro hc0
  refine v_seqR [4] ?_; intro K6 k6
  refine zAssign ⟨?_⟩
  refine k6 _ ?_
  refine zk ⟨?_⟩
  refine v_ret ?_
  refine r3 _ ?_
  refine r0 _ ?_
  refine zf ⟨?_⟩
  exact ret_pure rfl (by rw [szS, if_pos (by omega)]) (.inl rfl)
 ·intro hc0
  refine v_skip ?_
  refine n3 _ _ (weak_keep [1] _) ?_
  refine zk ⟨?_⟩
  refine v_seqR [4] ?_; intro K7 k7
  refine zMove ⟨?_⟩
  refine zAssign ⟨?_⟩
  refine k7 _ ?_
  refine zk ⟨?_⟩
  refine v_ret ?_
  refine r0 _ ?_
  refine zf ⟨?_⟩
  exact ret_pure rfl (by rw [szS, if_neg (by omega)]) (.inl rfl)
set_option maxHeartbeats 1000000 in
theorem toIntS_con (l : List Int) (hl : l.length ≤ 1048576) : Con Try.prog 21 [.sl (l.map (V.int .i64))] [] (.ref 0) [.arr (l.map (V.int .i64)) .flat] := by
 refine v_con [.tmp 2] [] Try.func21 rfl rfl rfl (by simp [Try.ntmps21]) ?_
 intro Q0 n0 r0
 simp only [Try.ntmps21, envFrom, Nat.reduceAdd]
 have T := Tys.mk (And.intro Ty.t3 Ty.t41)
 have F := Fc.mk True.intro
 refine v_seqR [0] ?_; intro K1 k1
 refine zAssign ⟨?_⟩
 refine k1 _ ?_
 refine zk ⟨?_⟩
 refine v_seqR [0,3] ?_; intro K2 k2
 refine zMove ⟨?_⟩
 refine zLen ⟨?_⟩
 refine zMakeSlice ⟨?_⟩
 refine zAssign ⟨?_⟩
 refine k2 _ ?_
 refine zk ⟨?_⟩
 refine v_seq ?_; intro Q3 n3 e3 r3
 refine v_seqR [0,3,4] ?_; intro K4 k4
 refine zAssign ⟨?_⟩
 refine k4 _ ?_
 refine zk ⟨?_⟩
 refine v_block ?_; intro Q5 n5 x5 e5 r5
 refine v_loop (fun i => ⟨[(0, .sl (l.map (V.int .i64))), (3, .ref 0), (4, .int .i64 (Nat.cast i))], [.arr (fillTo (V.int .i64) (V.int .i64 0) l i) .flat], false, 22, 0⟩) (fun i => i ≤ l.length) (fun i => l.length - i) 0 ?_ ?_ ?_
 ·refine weak_bothS [0, 3, 4] [1] ⟨?_⟩
  rw [fill_zero]; rfl
 ·exact Nat.zero_le _
 ·rintro i hok6 Q6 n6 e6 r6
  have hi1 : i ≤ l.length := hok6
  refine v_seq ?_; intro Q7 n7 e7 r7
  refine v_seqR [0,3,4,11] ?_; intro K8 k8
  refine zMove ⟨?_⟩
  refine zMove ⟨?_⟩
  refine zLen ⟨?_⟩
  refine zBinOp ⟨?_⟩
  refine k8 _ ?_
  refine zk ⟨?_⟩
  refine v_condS _ rfl ?_ ?_
  ·intro hc0
   have hlt : i < l.length := by omega
   obtain ⟨x, hx⟩ : ∃ x, l[i]? = some x := ⟨l[i], List.getElem?_eq_getElem hlt⟩
   refine v_skip ?_
   refine n7 _ _ (weak_keep [0, 3, 4] _) ?_
   refine zk ⟨?_⟩
   refine v_seq ?_; intro Q10 n10 e10 r10
   refine v_block ?_; intro Q11 n11 x11 e11 r11
   refine v_region ?_; intro K12 k12
   have F := Fc.mk (And.intro (fun f => getD_map (f := f) hx) (And.intro (fun f z => fill_len (f := f) (z := z) hi1) (And.intro (fun f z => fill_get (f := f) (z := z) hlt) (fun f z => fill_set (f := f) (z := z) hx))))
   refine zMove ⟨?_⟩
   refine zMove ⟨?_⟩
   refine zMove ⟨?_⟩
   refine zMove ⟨?_⟩
   refine v_op ?_; intro K k
   simp only [zE, zL, zN, aStepM, optable, set_some, Nat.reduceEqDiff, reduceIte, Nat.reduceLT, implies_true, forall_const, reduceCtorEq, V.ofValue, V.ofScalar, V.un, V.gd, aExec, aop, List.mem_cons, List.not_mem_nil, or_false, forall_eq_or_imp, forall_eq, aIndexAddr, row_mk, Blk.row, Go.Vm.V.cells, List.forall_mem_map, List.length_map, Int.toNat_natCast, Int.reduceToNat, TypeDesc.slice.injEq, Nat.reduceAdd, Nat.reduceLeDiff, Nat.reduceMul, Try.underlying3, Ty.c3, Ty.a3, Try.underlying41, Ty.c41, Ty.a41, getD_map hx, fill_len hi1, fill_get hlt, fill_set hx]
   repeat (refine And.intro (by first | omega | (exact fill_all (fun _ => rfl) rfl) | (intros; omega) | (intros; simp_all; done) | (intros; simp_all; omega)) ?_)
   refine k _ ?_; clear k K
   refine zLoad ⟨?_⟩
   refine v_op ?_; intro K k
   simp only [zE, zL, zN, aStepM, optable, set_some, Nat.reduceEqDiff, reduceIte, Nat.reduceLT, implies_true, forall_const, reduceCtorEq, V.ofValue, V.ofScalar, V.un, V.gd, aExec, aop, List.mem_cons, List.not_mem_nil, or_false, forall_eq_or_imp, forall_eq, aIndexAddr, row_mk, Blk.row, Go.Vm.V.cells, List.forall_mem_map, List.length_map, Int.toNat_natCast, Int.reduceToNat, TypeDesc.slice.injEq, Nat.reduceAdd, Nat.reduceLeDiff, Nat.reduceMul, Try.underlying3, Ty.c3, Ty.a3, Try.underlying41, Ty.c41, Ty.a41, getD_map hx, fill_len hi1, fill_get hlt, fill_set hx]
   repeat (refine And.intro (by first | omega | (exact fill_all (fun _ => rfl) rfl) | (intros; omega) | (intros; simp_all; done) | (intros; simp_all; omega)) ?_)
   refine k _ ?_; clear k K
   refine v_op ?_; intro K k
   simp only [zE, zS, zJ, zL, zO, zN, aStepM, optable, set_some, Nat.reduceEqDiff, reduceIte, Nat.reduceLT, implies_true, forall_const, reduceCtorEq, V.ofValue, V.ofScalar, V.un, V.gd, aExec, aop, aStore, setCells, V.isVal, V.cells, kindOf, kindAll, V.noSl, V.noRef, gt_iff_lt, Nat.reduceAdd, Nat.reduceLeDiff, Nat.reduceMul, takeV, takeCell, takeCells, row_mk, Blk.row, killAll, Nat.reduceBEq, join_t, Try.underlying3, Ty.c3, Ty.a3, getD_map hx, fill_len hi1, fill_get hlt, fill_set hx]
   repeat (refine And.intro (by first | omega | (exact fill_all (fun _ => rfl) rfl) | (intros; omega) | (intros; simp_all; done) | (intros; simp_all; omega)) ?_)
   refine k _ ?_; clear k K
   refine k12 _ ?_
   refine n11 _ ?_
   refine n10 _ _ (weak_keep [0, 3, 4] _) ?_
   refine zk ⟨?_⟩
   refine v_region ?_; intro K13 k13
   refine zMove ⟨?_⟩
   refine zBinOpW ⟨?_⟩
   refine zAssign ⟨?_⟩
   refine k13 _ ?_
   refine n6 _ (i + 1) ?_ ?_ ?_
   ·refine weak_bothS [0, 3, 4] [0] ⟨?_⟩
    rfl
   ·exact hlt
   ·show _ < _; omega
  ·intro hc0
   refine v_exit ?_
   refine e7 _ _ ?_
   refine e6 _ _ ?_
   refine x5 _ ?_
   refine n3 _ _ (weak_keep [3] _) ?_
   refine zk ⟨?_⟩
   refine v_seqR [2] ?_; intro K14 k14
   refine zMove ⟨?_⟩
   refine zAssign ⟨?_⟩
   refine k14 _ ?_
   refine zk ⟨?_⟩
   refine v_ret ?_
   refine r0 _ ?_
   refine zf ⟨?_⟩
   rw [← fill_end (f := (V.int .i64)) (z := (V.int .i64 0)) (show l.length ≤ i by omega)]
   exact ret_ref rfl (.inl rfl)
end Go.Proofs.Ytldnelkcmffiaaa
