/- What functions compute. No condition. -/
import Derived.Test.YtbameklegpgkfaaDoorUty
import Derived.Test.YtbameklegpgkfaaDoorUmG
import Derived.Test.YtbameklegpgkfaaDoorX1
set_option linter.unusedSimpArgs false
set_option linter.unusedVariables false
set_option linter.defProp false
namespace Go.Proofs.YtbameklegpgkfaaDoor
open Go Go.Vm

def inR (n lo hi : Int) : Bool := decide (lo ≤ n) && decide (n ≤ hi)
def risingFrom (lo hi : Int) : Option Int → List Int → Bool
  | _, [] => true
  | none, x :: xs => inR x lo hi && risingFrom lo hi (some x) xs
  | some p, x :: xs => inR x lo hi && decide (p < x) && risingFrom lo hi (some x) xs
def risingAt (lo hi : Int) (l : List Int) (i : Nat) : Bool := risingFrom lo hi (if i = 0 then none else l[i - 1]?) (l.drop i)
theorem risingAt_zero {lo hi : Int} {l : List Int} {x : Int} (h : l[0]? = some x) : risingAt lo hi l 0 = (inR x lo hi && risingAt lo hi l 1) := by
  simp only [risingAt, getElem_drop_cons h, if_true, risingFrom]
  simp [h]
theorem risingAt_succ {lo hi : Int} {l : List Int} {x y : Int} {i : Nat} (h0 : 0 < i) (hy : l[i - 1]? = some y) (h : l[i]? = some x) : risingAt lo hi l i = (inR x lo hi && decide (y < x) && risingAt lo hi l (i + 1)) := by
  simp only [risingAt, getElem_drop_cons h, hy, show ¬ i = 0 by omega, if_false, risingFrom]
  simp [h]
theorem risingAt_end {lo hi : Int} {l : List Int} {i : Nat} (h : l.length ≤ i) : risingAt lo hi l i = true := by
  simp only [risingAt, List.drop_of_length_le h]
  split <;> rfl
theorem rising_in {lo hi : Int} : ∀ {l : List Int} {p : Option Int}, risingFrom lo hi p l = true → ∀ x ∈ l, lo ≤ x ∧ x ≤ hi
  | [], _, _, x, hx => by cases hx
  | y :: l, p, h, x, hx => by
    have h2 : inR y lo hi = true ∧ risingFrom lo hi (some y) l = true := by
      cases p <;> simp [risingFrom] at h <;> simp [h]
    rcases List.mem_cons.1 hx with rfl | h3
    · simpa [inR] using h2.1
    · exact rising_in h2.2 x h3

set_option maxHeartbeats 1000000 in
theorem l1Rising_con (l : List Int) (lo hi : Int) (hl : l.length ≤ 1048576) : Con Tryd.prog 152 [.sl (l.map (V.int .i64)), .int .i64 lo, .int .i64 hi] [] (.bool (risingAt lo hi l 0)) [] := by
 refine v_con [.tmp 6] [] Tryd.func152 rfl rfl rfl (by simp [Tryd.ntmps152]) ?_
 intro Q0 n0 r0
 simp only [Tryd.ntmps152, envFrom, Nat.reduceAdd]
 have T := Tys.mk (And.intro Ty.t3 (And.intro Ty.t4 Ty.t36))
 have F := Fc.mk True.intro
 refine v_seqR [0,1,2] ?_; intro K1 k1
 refine zAssign ⟨?_⟩
 refine k1 _ ?_
 refine zk ⟨?_⟩
 refine v_seq ?_; intro Q2 n2 e2 r2
 refine v_seqR [0,1,2,9,10,11] ?_; intro K3 k3
 refine zMove ⟨?_⟩
 refine zLen ⟨?_⟩
 refine zMove ⟨?_⟩
 refine k3 _ ?_
 refine zk ⟨?_⟩
 refine v_block ?_; intro Q4 n4 x4 e4 r4
 refine v_loop (fun i => ⟨[(0, .sl (l.map (V.int .i64))), (1, .int .i64 lo), (2, .int .i64 hi), (9, .sl (l.map (V.int .i64))), (10, .int .i64 l.length), (11, .int .i64 (Nat.cast i))], [], false, 35, 0⟩) (fun i => i ≤ l.length ∧ risingAt lo hi l i = risingAt lo hi l 0) (fun i => l.length - i) 0 ?_ ?_ ?_
 ·refine weak_of [0, 1, 2, 9, 10, 11] ?_
  simp only [keep_mk, keepE_nil, keepE_cons, look_cons, look_nil, Nat.reduceEqDiff, reduceIte]
  rfl
 ·exact ⟨Nat.zero_le _, rfl⟩
 ·rintro i hok5 Q5 n5 e5 r5
  obtain ⟨hi1, hR⟩ := hok5
  refine v_seqR [0,1,2,9,10,11,12] ?_; intro K6 k6
  refine zBinOp ⟨?_⟩
  refine k6 _ ?_
  refine zk ⟨?_⟩
  refine v_seq ?_; intro Q7 n7 e7 r7
  refine v_condS _ rfl ?_ ?_
  ·intro hc0
   have hlt : i < l.length := by omega
   obtain ⟨x, hx⟩ : ∃ x, l[i]? = some x := ⟨l[i], List.getElem?_eq_getElem hlt⟩
   rcases Nat.eq_zero_or_pos i with h0 | h0
   ·skip
    have hi0 : ¬ ((0 : Int) < (i : Int)) := by omega
    have hstep : risingAt lo hi l i = (inR x lo hi && risingAt lo hi l (i + 1)) := by subst h0; exact risingAt_zero hx
    refine v_skip ?_
    refine n7 _ _ (weak_keep [0, 1, 2, 9, 10, 11] _) ?_
    refine zk ⟨?_⟩
    refine v_seq ?_; intro Q9 n9 e9 r9
    refine v_block ?_; intro Q10 n10 x10 e10 r10
    refine v_seqR [0,1,2,7,8,9,10,11] ?_; intro K11 k11
    have F := Fc.mk (And.intro (fun f => getD_map (f := f) hx) (And.intro hi0 (And.intro @decide_false @Bool.and_false)))
    refine zMove ⟨?_⟩
    refine zIndexAddr ⟨?_⟩
    refine zLoad ⟨?_⟩
    refine zAssign ⟨?_⟩
    refine zAssign ⟨?_⟩
    refine k11 _ ?_
    refine zk ⟨?_⟩
    refine v_seqR [0,1,2,9,10,11,33] ?_; intro K12 k12
    refine zMove ⟨?_⟩
    refine zMove ⟨?_⟩
    refine zMove ⟨?_⟩
    refine zc (l1In_con _ _ _) ⟨?_⟩
    refine zUnOp ⟨?_⟩
    refine zMove ⟨?_⟩
    refine zgMove ⟨?_⟩
    refine zgBinOp ⟨?_⟩
    refine zgMove ⟨?_⟩
    refine zgMove ⟨?_⟩
    refine zgMove ⟨?_⟩
    refine zgBinOpW ⟨?_⟩
    refine zgIndexAddr ⟨?_⟩
    refine zgLoad ⟨?_⟩
    refine zgMove ⟨?_⟩
    refine zgBinOp ⟨?_⟩
    refine zgPick ⟨?_⟩
    refine zPick ⟨?_⟩
    refine k12 _ ?_
    refine zk ⟨?_⟩
    refine v_condS _ rfl ?_ ?_
    ·intro hc1
     refine v_seqR [6] ?_; intro K14 k14
     refine zAssign ⟨?_⟩
     refine k14 _ ?_
     refine zk ⟨?_⟩
     refine v_ret ?_
     refine r10 _ ?_
     refine r9 _ ?_
     refine r5 _ ?_
     refine r4 _ ?_
     refine r2 _ ?_
     refine r0 _ ?_
     refine zf ⟨?_⟩
     exact ret_pure rfl (by rw [← hR, hstep]; congr 1; simp [inR]; intros; omega) (.inl rfl)
    ·intro hc1
     refine v_skip ?_
     refine n10 _ ?_
     refine n9 _ _ (weak_keep [0, 1, 2, 9, 10, 11] _) ?_
     refine zk ⟨?_⟩
     refine v_region ?_; intro K15 k15
     refine zBinOpW ⟨?_⟩
     refine zMove ⟨?_⟩
     refine k15 _ ?_
     refine n5 _ (i + 1) ?_ ?_ ?_
     ·refine weak_of [0, 1, 2, 9, 10, 11] ?_
      simp only [keep_mk, keepE_nil, keepE_cons, look_cons, look_nil, Nat.reduceEqDiff, reduceIte]
      rfl
     ·exact ⟨by omega, by rw [← hR, hstep]; simp [inR]; intros; omega⟩
     ·show _ < _; omega
   ·skip
    obtain ⟨y, hy⟩ : ∃ y, l[i - 1]? = some y := ⟨l[i - 1], List.getElem?_eq_getElem (by omega)⟩
    have hi0 : (0 : Int) < i := by omega
    have hk : ((i : Int) - 1).toNat = i - 1 := by omega
    have hstep := risingAt_succ (lo := lo) (hi := hi) h0 hy hx
    refine v_skip ?_
    refine n7 _ _ (weak_keep [0, 1, 2, 9, 10, 11] _) ?_
    refine zk ⟨?_⟩
    refine v_seq ?_; intro Q16 n16 e16 r16
    refine v_block ?_; intro Q17 n17 x17 e17 r17
    refine v_seqR [0,1,2,7,8,9,10,11] ?_; intro K18 k18
    have F := Fc.mk (And.intro (fun f => getD_map (f := f) hx) (And.intro hi0 (And.intro hk (And.intro (fun f => getD_map (f := f) hy) (And.intro @decide_true @Bool.and_true)))))
    refine zMove ⟨?_⟩
    refine zIndexAddr ⟨?_⟩
    refine zLoad ⟨?_⟩
    refine zAssign ⟨?_⟩
    refine zAssign ⟨?_⟩
    refine k18 _ ?_
    refine zk ⟨?_⟩
    refine v_seqR [0,1,2,9,10,11,33] ?_; intro K19 k19
    refine zMove ⟨?_⟩
    refine zMove ⟨?_⟩
    refine zMove ⟨?_⟩
    refine zc (l1In_con _ _ _) ⟨?_⟩
    refine zUnOp ⟨?_⟩
    refine zMove ⟨?_⟩
    refine zgMove ⟨?_⟩
    refine zgBinOp ⟨?_⟩
    refine zgMove ⟨?_⟩
    refine zgMove ⟨?_⟩
    refine zgMove ⟨?_⟩
    refine zgBinOpW ⟨?_⟩
    refine zgIndexAddr ⟨?_⟩
    refine zgLoad ⟨?_⟩
    refine zgMove ⟨?_⟩
    refine zgBinOp ⟨?_⟩
    refine zgPick ⟨?_⟩
    refine zPick ⟨?_⟩
    refine k19 _ ?_
    refine zk ⟨?_⟩
    refine v_condS _ rfl ?_ ?_
    ·intro hc1
     refine v_seqR [6] ?_; intro K21 k21
     refine zAssign ⟨?_⟩
     refine k21 _ ?_
     refine zk ⟨?_⟩
     refine v_ret ?_
     refine r17 _ ?_
     refine r16 _ ?_
     refine r5 _ ?_
     refine r4 _ ?_
     refine r2 _ ?_
     refine r0 _ ?_
     refine zf ⟨?_⟩
     exact ret_pure rfl (by rw [← hR, hstep]; congr 1; simp [inR]; intros; omega) (.inl rfl)
    ·intro hc1
     refine v_skip ?_
     refine n17 _ ?_
     refine n16 _ _ (weak_keep [0, 1, 2, 9, 10, 11] _) ?_
     refine zk ⟨?_⟩
     refine v_region ?_; intro K22 k22
     refine zBinOpW ⟨?_⟩
     refine zMove ⟨?_⟩
     refine k22 _ ?_
     refine n5 _ (i + 1) ?_ ?_ ?_
     ·refine weak_of [0, 1, 2, 9, 10, 11] ?_
      simp only [keep_mk, keepE_nil, keepE_cons, look_cons, look_nil, Nat.reduceEqDiff, reduceIte]
      rfl
     ·exact ⟨by omega, by rw [← hR, hstep]; simp [inR]; intros; omega⟩
     ·show _ < _; omega
  ·intro hc0
   refine v_exit ?_
   refine e7 _ _ ?_
   refine e5 _ _ ?_
   refine x4 _ ?_
   refine n2 _ _ (weak_keep [] _) ?_
   refine zk ⟨?_⟩
   refine v_seqR [6] ?_; intro K23 k23
   refine zAssign ⟨?_⟩
   refine k23 _ ?_
   refine zk ⟨?_⟩
   refine v_ret ?_
   refine r0 _ ?_
   refine zf ⟨?_⟩
   exact ret_pure rfl (by rw [← hR, risingAt_end (by omega)]) (.inl rfl)
def szS (n : Int) (l : List Int) : Int := if n - l.length < 0 then -1 else n - l.length
def szSS : Int → List (List Int) → Int
  | n, [] => n
  | n, l :: ll => if szS n l < 0 then -1 else szSS (szS n l) ll
theorem szSS_le : ∀ {ll : List (List Int)} {n : Int}, 0 ≤ szSS n ll → ∀ l ∈ ll, (l.length : Int) ≤ n
  | [], _, _, l, hl => by cases hl
  | x :: ll, n, h, l, hl => by
    rw [szSS] at h
    split at h
    · omega
    · rename_i hs
      have hx : (x.length : Int) ≤ n ∧ szS n x ≤ n := by
        unfold szS at hs ⊢
        split at hs
        · omega
        · rename_i h2; rw [if_neg h2]; omega
      rcases List.mem_cons.1 hl with rfl | h3
      · exact hx.1
      · have := szSS_le h l h3; omega

end Go.Proofs.YtbameklegpgkfaaDoor
