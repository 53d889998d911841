/- What functions compute. No condition. -/
import Derived.Test.YtbameklegpgkfaaDoorUty
import Derived.Test.YtbameklegpgkfaaDoorUmG
import Derived.Test.YtbameklegpgkfaaDoorX1
set_option linter.unusedSimpArgs false
set_option linter.unusedVariables false
set_option linter.defProp false
namespace Go.Proofs.YtbameklegpgkfaaDoor
open Go Go.Vm

def mostL (l : List Int) (a : Int) : Int := l.foldl (fun m x => if x > m then x else m) a
def leastL (l : List Int) (a : Int) : Int := l.foldl (fun m x => if x < m then x else m) a
theorem most_step {l : List Int} {i : Nat} {x : Int} (h : l[i]? = some x) (m : Int) : mostL (l.drop i) m = mostL (l.drop (i + 1)) (if x > m then x else m) := foldl_drop h m
theorem least_step {l : List Int} {i : Nat} {x : Int} (h : l[i]? = some x) (m : Int) : leastL (l.drop i) m = leastL (l.drop (i + 1)) (if x < m then x else m) := foldl_drop h m
theorem most_end {l : List Int} {i : Nat} (h : l.length ≤ i) (m : Int) : mostL (l.drop i) m = m := foldl_end h m
theorem least_end {l : List Int} {i : Nat} (h : l.length ≤ i) (m : Int) : leastL (l.drop i) m = m := foldl_end h m
theorem most_cons (x : Int) (l : List Int) : mostL (x :: l) x = mostL l x := by simp [mostL]
theorem least_cons (x : Int) (l : List Int) : leastL (x :: l) x = leastL l x := by simp [leastL]

set_option maxHeartbeats 1000000 in
theorem l1Least_con (a b : Int) : Con Tryd.prog 98 [.int .i64 a, .int .i64 b] [] (.int .i64 (if b < a then b else a)) [] := by
 refine v_con [.tmp 4] [] Tryd.func98 rfl rfl rfl (by simp [Tryd.ntmps98]) ?_
 intro Q0 n0 r0
 simp only [Tryd.ntmps98, envFrom, Nat.reduceAdd]
 have T := Tys.mk Ty.t3
 have F := Fc.mk True.intro
 refine v_seqR [0,1] ?_; intro K1 k1
 refine zAssign ⟨?_⟩
 refine k1 _ ?_
 refine zk ⟨?_⟩
 refine v_seq ?_; intro Q2 n2 e2 r2
 refine v_seqR [0,1,7] ?_; intro K3 k3
 refine zMove ⟨?_⟩
 refine zMove ⟨?_⟩
 refine zBinOp ⟨?_⟩
 refine k3 _ ?_
 refine zk ⟨?_⟩
 refine v_condS _ rfl ?_ ?_
 ·intro hc0
  refine v_seqR [4] ?_; intro K5 k5
  refine zMove ⟨?_⟩
  refine zAssign ⟨?_⟩
  refine k5 _ ?_
  refine zk ⟨?_⟩
  refine v_ret ?_
  refine r2 _ ?_
  refine r0 _ ?_
  refine zf ⟨?_⟩
  exact ret_pure rfl (by congr 1; split <;> omega) (.inl rfl)
 ·intro hc0
  refine v_skip ?_
  refine n2 _ _ (weak_keep [1] _) ?_
  refine zk ⟨?_⟩
  refine v_seqR [4] ?_; intro K6 k6
  refine zMove ⟨?_⟩
  refine zAssign ⟨?_⟩
  refine k6 _ ?_
  refine zk ⟨?_⟩
  refine v_ret ?_
  refine r0 _ ?_
  refine zf ⟨?_⟩
  exact ret_pure rfl (by congr 1; split <;> omega) (.inl rfl)
set_option maxHeartbeats 1000000 in
theorem l1Most_con (a b : Int) : Con Tryd.prog 74 [.int .i64 a, .int .i64 b] [] (.int .i64 (if b > a then b else a)) [] := by
 refine v_con [.tmp 4] [] Tryd.func74 rfl rfl rfl (by simp [Tryd.ntmps74]) ?_
 intro Q0 n0 r0
 simp only [Tryd.ntmps74, envFrom, Nat.reduceAdd]
 have T := Tys.mk Ty.t3
 have F := Fc.mk True.intro
 refine v_seqR [0,1] ?_; intro K1 k1
 refine zAssign ⟨?_⟩
 refine k1 _ ?_
 refine zk ⟨?_⟩
 refine v_seq ?_; intro Q2 n2 e2 r2
 refine v_seqR [0,1,7] ?_; intro K3 k3
 refine zMove ⟨?_⟩
 refine zMove ⟨?_⟩
 refine zBinOp ⟨?_⟩
 refine k3 _ ?_
 refine zk ⟨?_⟩
 refine v_condS _ rfl ?_ ?_
 ·intro hc0
  refine v_seqR [4] ?_; intro K5 k5
  refine zMove ⟨?_⟩
  refine zAssign ⟨?_⟩
  refine k5 _ ?_
  refine zk ⟨?_⟩
  refine v_ret ?_
  refine r2 _ ?_
  refine r0 _ ?_
  refine zf ⟨?_⟩
  exact ret_pure rfl (by congr 1; split <;> omega) (.inl rfl)
 ·intro hc0
  refine v_skip ?_
  refine n2 _ _ (weak_keep [1] _) ?_
  refine zk ⟨?_⟩
  refine v_seqR [4] ?_; intro K6 k6
  refine zMove ⟨?_⟩
  refine zAssign ⟨?_⟩
  refine k6 _ ?_
  refine zk ⟨?_⟩
  refine v_ret ?_
  refine r0 _ ?_
  refine zf ⟨?_⟩
  exact ret_pure rfl (by congr 1; split <;> omega) (.inl rfl)
set_option maxHeartbeats 1000000 in
theorem slMax_con (x : Int) (l : List Int) (hl : (x :: l).length ≤ 1048576) : Con Tryd.prog 96 [.sl ((x :: l).map (V.int .i64))] [] (.int .i64 (mostL l x)) [] := by
 obtain ⟨xl, hxl⟩ : ∃ xl, xl = x :: l := ⟨_, rfl⟩
 have h0 : xl[0]? = some x := by rw [hxl]; rfl
 have hres : mostL (xl.drop 1) x = mostL l x := by rw [hxl]; rfl
 rw [← hxl] at hl ⊢
 rw [← hres]
 have hpos : 0 < xl.length := by rw [hxl]; simp
 refine v_con [.tmp 2] [] Tryd.func96 rfl rfl rfl (by simp [Tryd.ntmps96]) ?_
 intro Q0 n0 r0
 simp only [Tryd.ntmps96, envFrom, Nat.reduceAdd]
 have T := Tys.mk (And.intro Ty.t3 Ty.t36)
 have F := Fc.mk True.intro
 refine v_seqR [0] ?_; intro K1 k1
 have F := Fc.mk (fun f => getD_map (f := f) h0)
 refine zAssign ⟨?_⟩
 refine k1 _ ?_
 refine zk ⟨?_⟩
 refine v_seq ?_; intro Q2 n2 e2 r2
 refine v_seqR [0,7] ?_; intro K3 k3
 refine zMove ⟨?_⟩
 refine zLen ⟨?_⟩
 refine zBinOp ⟨?_⟩
 refine k3 _ ?_
 refine zk ⟨?_⟩
 refine v_cond _ rfl ?_ ?_
 ·intro hc0
  exfalso; have hq := of_decide_eq_true hc0; omega
 ·intro hc0
  try simp only [zC, reduceCtorEq] at hc0
  refine v_skip ?_
  refine n2 _ _ (weak_keep [0] _) ?_
  refine zk ⟨?_⟩
  refine v_seqR [0,3] ?_; intro K5 k5
  refine zMove ⟨?_⟩
  refine zIndexAddr ⟨?_⟩
  refine zLoad ⟨?_⟩
  refine zAssign ⟨?_⟩
  refine k5 _ ?_
  refine zk ⟨?_⟩
  refine v_seq ?_; intro Q6 n6 e6 r6
  refine v_seqR [0,3,4] ?_; intro K7 k7
  refine zAssign ⟨?_⟩
  refine k7 _ ?_
  refine zk ⟨?_⟩
  refine v_block ?_; intro Q8 n8 x8 e8 r8
  refine v_loop (fun p => ⟨[(0, .sl (xl.map (V.int .i64))), (3, .int .i64 p.2), (4, .int .i64 (Nat.cast p.1))], [], false, 25, 0⟩) (fun p => 1 ≤ p.1 ∧ p.1 ≤ xl.length ∧ mostL (xl.drop p.1) p.2 = mostL (xl.drop 1) x) (fun p => xl.length - p.1) ((1, x) : Nat × Int) ?_ ?_ ?_
  ·refine weak_of [0, 3, 4] ?_
   simp only [keep_mk, keepE_nil, keepE_cons, look_cons, look_nil, Nat.reduceEqDiff, reduceIte]
   rfl
  ·exact ⟨Nat.le_refl _, hpos, rfl⟩
  ·rintro p hok9 Q9 n9 e9 r9
   obtain ⟨hi0, hi1, hR⟩ := hok9
   refine v_seq ?_; intro Q10 n10 e10 r10
   refine v_seqR [0,3,4,15] ?_; intro K11 k11
   refine zMove ⟨?_⟩
   refine zMove ⟨?_⟩
   refine zLen ⟨?_⟩
   refine zBinOp ⟨?_⟩
   refine k11 _ ?_
   refine zk ⟨?_⟩
   refine v_condS _ rfl ?_ ?_
   ·intro hc1
    have hlt : p.1 < xl.length := by omega
    obtain ⟨y, hy⟩ : ∃ y, xl[p.1]? = some y := ⟨xl[p.1], List.getElem?_eq_getElem hlt⟩
    refine v_skip ?_
    refine n10 _ _ (weak_keep [0, 3, 4] _) ?_
    refine zk ⟨?_⟩
    refine v_seq ?_; intro Q13 n13 e13 r13
    refine v_block ?_; intro Q14 n14 x14 e14 r14
    refine v_region ?_; intro K15 k15
    have F := Fc.mk (And.intro (fun f => getD_map (f := f) h0) (fun f => getD_map (f := f) hy))
    refine zMove ⟨?_⟩
    refine zMove ⟨?_⟩
    refine zMove ⟨?_⟩
    refine zIndexAddr ⟨?_⟩
    refine zLoad ⟨?_⟩
    refine zMax ⟨?_⟩
    refine zAssign ⟨?_⟩
    refine k15 _ ?_
    refine n14 _ ?_
    refine n13 _ _ (weak_keep [0, 3, 4] _) ?_
    refine zk ⟨?_⟩
    refine v_region ?_; intro K16 k16
    refine zMove ⟨?_⟩
    refine zBinOpW ⟨?_⟩
    refine zAssign ⟨?_⟩
    refine k16 _ ?_
    refine n9 _ (p.1 + 1, if y > p.2 then y else p.2) ?_ ?_ ?_
    ·refine weak_of [0, 3, 4] ?_
     simp only [keep_mk, keepE_nil, keepE_cons, look_cons, look_nil, Nat.reduceEqDiff, reduceIte]
     rfl
    ·exact ⟨by show 1 ≤ p.1 + 1; omega, by show p.1 + 1 ≤ _; omega, by show mostL (xl.drop (p.1 + 1)) _ = _; rw [← hR, most_step hy]⟩
    ·show _ < _; show xl.length - (p.1 + 1) < _; omega
   ·intro hc1
    refine v_exit ?_
    refine e10 _ _ ?_
    refine e9 _ _ ?_
    refine x8 _ ?_
    refine n6 _ _ (weak_keep [3] _) ?_
    refine zk ⟨?_⟩
    refine v_seqR [2] ?_; intro K17 k17
    refine zMove ⟨?_⟩
    refine zAssign ⟨?_⟩
    refine k17 _ ?_
    refine zk ⟨?_⟩
    refine v_ret ?_
    refine r0 _ ?_
    refine zf ⟨?_⟩
    exact ret_pure rfl (by rw [← hR, most_end (by omega)]) (.inl rfl)
set_option maxHeartbeats 1000000 in
theorem slMin_con (x : Int) (l : List Int) (hl : (x :: l).length ≤ 1048576) : Con Tryd.prog 97 [.sl ((x :: l).map (V.int .i64))] [] (.int .i64 (leastL l x)) [] := by
 obtain ⟨xl, hxl⟩ : ∃ xl, xl = x :: l := ⟨_, rfl⟩
 have h0 : xl[0]? = some x := by rw [hxl]; rfl
 have hres : leastL (xl.drop 1) x = leastL l x := by rw [hxl]; rfl
 rw [← hxl] at hl ⊢
 rw [← hres]
 have hpos : 0 < xl.length := by rw [hxl]; simp
 refine v_con [.tmp 2] [] Tryd.func97 rfl rfl rfl (by simp [Tryd.ntmps97]) ?_
 intro Q0 n0 r0
 simp only [Tryd.ntmps97, envFrom, Nat.reduceAdd]
 have T := Tys.mk (And.intro Ty.t3 Ty.t36)
 have F := Fc.mk True.intro
 refine v_seqR [0] ?_; intro K1 k1
 have F := Fc.mk (fun f => getD_map (f := f) h0)
 refine zAssign ⟨?_⟩
 refine k1 _ ?_
 refine zk ⟨?_⟩
 refine v_seq ?_; intro Q2 n2 e2 r2
 refine v_seqR [0,7] ?_; intro K3 k3
 refine zMove ⟨?_⟩
 refine zLen ⟨?_⟩
 refine zBinOp ⟨?_⟩
 refine k3 _ ?_
 refine zk ⟨?_⟩
 refine v_cond _ rfl ?_ ?_
 ·intro hc0
  exfalso; have hq := of_decide_eq_true hc0; omega
 ·intro hc0
  try simp only [zC, reduceCtorEq] at hc0
  refine v_skip ?_
  refine n2 _ _ (weak_keep [0] _) ?_
  refine zk ⟨?_⟩
  refine v_seqR [0,3] ?_; intro K5 k5
  refine zMove ⟨?_⟩
  refine zIndexAddr ⟨?_⟩
  refine zLoad ⟨?_⟩
  refine zAssign ⟨?_⟩
  refine k5 _ ?_
  refine zk ⟨?_⟩
  refine v_seq ?_; intro Q6 n6 e6 r6
  refine v_seqR [0,3,4] ?_; intro K7 k7
  refine zAssign ⟨?_⟩
  refine k7 _ ?_
  refine zk ⟨?_⟩
  refine v_block ?_; intro Q8 n8 x8 e8 r8
  refine v_loop (fun p => ⟨[(0, .sl (xl.map (V.int .i64))), (3, .int .i64 p.2), (4, .int .i64 (Nat.cast p.1))], [], false, 25, 0⟩) (fun p => 1 ≤ p.1 ∧ p.1 ≤ xl.length ∧ leastL (xl.drop p.1) p.2 = leastL (xl.drop 1) x) (fun p => xl.length - p.1) ((1, x) : Nat × Int) ?_ ?_ ?_
  ·refine weak_of [0, 3, 4] ?_
   simp only [keep_mk, keepE_nil, keepE_cons, look_cons, look_nil, Nat.reduceEqDiff, reduceIte]
   rfl
  ·exact ⟨Nat.le_refl _, hpos, rfl⟩
  ·rintro p hok9 Q9 n9 e9 r9
   obtain ⟨hi0, hi1, hR⟩ := hok9
   refine v_seq ?_; intro Q10 n10 e10 r10
   refine v_seqR [0,3,4,15] ?_; intro K11 k11
   refine zMove ⟨?_⟩
   refine zMove ⟨?_⟩
   refine zLen ⟨?_⟩
   refine zBinOp ⟨?_⟩
   refine k11 _ ?_
   refine zk ⟨?_⟩
   refine v_condS _ rfl ?_ ?_
   ·intro hc1
    have hlt : p.1 < xl.length := by omega
    obtain ⟨y, hy⟩ : ∃ y, xl[p.1]? = some y := ⟨xl[p.1], List.getElem?_eq_getElem hlt⟩
    refine v_skip ?_
    refine n10 _ _ (weak_keep [0, 3, 4] _) ?_
    refine zk ⟨?_⟩
    refine v_seq ?_; intro Q13 n13 e13 r13
    refine v_block ?_; intro Q14 n14 x14 e14 r14
    refine v_region ?_; intro K15 k15
    have F := Fc.mk (And.intro (fun f => getD_map (f := f) h0) (fun f => getD_map (f := f) hy))
    refine zMove ⟨?_⟩
    refine zMove ⟨?_⟩
    refine zMove ⟨?_⟩
    refine zIndexAddr ⟨?_⟩
    refine zLoad ⟨?_⟩
    refine zMin ⟨?_⟩
    refine zAssign ⟨?_⟩
    refine k15 _ ?_
    refine n14 _ ?_
    refine n13 _ _ (weak_keep [0, 3, 4] _) ?_
    refine zk ⟨?_⟩
    refine v_region ?_; intro K16 k16
    refine zMove ⟨?_⟩
    refine zBinOpW ⟨?_⟩
    refine zAssign ⟨?_⟩
    refine k16 _ ?_
    refine n9 _ (p.1 + 1, if y < p.2 then y else p.2) ?_ ?_ ?_
    ·refine weak_of [0, 3, 4] ?_
     simp only [keep_mk, keepE_nil, keepE_cons, look_cons, look_nil, Nat.reduceEqDiff, reduceIte]
     rfl
    ·exact ⟨by show 1 ≤ p.1 + 1; omega, by show p.1 + 1 ≤ _; omega, by show leastL (xl.drop (p.1 + 1)) _ = _; rw [← hR, least_step hy]⟩
    ·show _ < _; show xl.length - (p.1 + 1) < _; omega
   ·intro hc1
    refine v_exit ?_
    refine e10 _ _ ?_
    refine e9 _ _ ?_
    refine x8 _ ?_
    refine n6 _ _ (weak_keep [3] _) ?_
    refine zk ⟨?_⟩
    refine v_seqR [2] ?_; intro K17 k17
    refine zMove ⟨?_⟩
    refine zAssign ⟨?_⟩
    refine k17 _ ?_
    refine zk ⟨?_⟩
    refine v_ret ?_
    refine r0 _ ?_
    refine zf ⟨?_⟩
    exact ret_pure rfl (by rw [← hR, least_end (by omega)]) (.inl rfl)
end Go.Proofs.YtbameklegpgkfaaDoor
