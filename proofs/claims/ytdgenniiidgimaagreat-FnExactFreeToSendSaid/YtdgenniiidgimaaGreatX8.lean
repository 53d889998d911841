/- What functions compute. No condition. -/
import Derived.Test.YtdgenniiidgimaaGreatUty
import Derived.Test.YtdgenniiidgimaaGreatUmG
import Derived.Test.YtdgenniiidgimaaGreatX1
import Derived.Test.YtdgenniiidgimaaGreatX6
import Derived.Test.YtdgenniiidgimaaGreatX3
import Derived.Test.YtdgenniiidgimaaGreatX2
import Derived.Test.YtdgenniiidgimaaGreatX4
set_option linter.unusedSimpArgs false
set_option linter.unusedVariables false
set_option linter.defProp false
namespace Go.Proofs.YtdgenniiidgimaaGreat
open Go Go.Vm

def idxFromS (x : ByteArray) : Nat → List ByteArray → Int
  | _, [] => -1
  | i, y :: l => if x = y then i else idxFromS x (i + 1) l
theorem idxS_step {x y : ByteArray} {l : List ByteArray} {i : Nat} (h : l[i]? = some y) : idxFromS x i (l.drop i) = if x = y then (i : Int) else idxFromS x (i + 1) (l.drop (i + 1)) := by
  rw [getElem_drop_cons h, idxFromS]
theorem idxS_end {x : ByteArray} {l : List ByteArray} {i k : Nat} (h : l.length ≤ i) : idxFromS x k (l.drop i) = -1 := by
  rw [List.drop_of_length_le h, idxFromS]
def inS (x : ByteArray) (l : List ByteArray) : Bool := l.any fun y => decide (x = y)
theorem idxS_mem (x : ByteArray) : ∀ (l : List ByteArray) (i : Nat), decide (0 ≤ idxFromS x i l) = inS x l
  | [], i => by rw [idxFromS]; rfl
  | y :: l, i => by
    rw [idxFromS, inS, List.any_cons]
    split
    · rename_i h; simp [h]
    · rename_i h; rw [idxS_mem x l (i + 1)]; simp [h, inS]
theorem inS_step {x y : ByteArray} {l : List ByteArray} {i : Nat} (h : l[i]? = some y) : inS x (l.drop i) = (decide (x = y) || inS x (l.drop (i + 1))) := by
  rw [getElem_drop_cons h, inS, List.any_cons]; rfl
theorem inS_end {x : ByteArray} {l : List ByteArray} {i : Nat} (h : l.length ≤ i) : inS x (l.drop i) = false := by
  rw [List.drop_of_length_le h]; rfl

set_option maxHeartbeats 1000000 in
theorem slIndexS_con (l : List ByteArray) (x : ByteArray) (hl : l.length ≤ 1048576) : Con Tryz.prog 127 [.sl (l.map V.str), .str x] [] (.int .i64 (idxFromS x 0 l)) [] := by
 refine v_con [.tmp 4] [] Tryz.func127 rfl rfl rfl (by simp [Tryz.ntmps127]) ?_
 intro Q0 n0 r0
 simp only [Tryz.ntmps127, envFrom, Nat.reduceAdd]
 have T := Tys.mk (And.intro Ty.t3 (And.intro Ty.t9 Ty.t54))
 have F := Fc.mk True.intro
 refine v_seqR [0,1] ?_; intro K1 k1
 refine zAssign ⟨?_⟩
 refine k1 _ ?_
 refine zk ⟨?_⟩
 refine v_seq ?_; intro Q2 n2 e2 r2
 refine v_seqR [0,1,7,8] ?_; intro K3 k3
 refine zMove ⟨?_⟩
 refine zLen ⟨?_⟩
 refine zMove ⟨?_⟩
 refine k3 _ ?_
 refine zk ⟨?_⟩
 refine v_block ?_; intro Q4 n4 x4 e4 r4
 refine v_loop (fun i => ⟨[(0, .sl (l.map V.str)), (1, .str x), (7, .int .i64 l.length), (8, .int .i64 (Nat.cast i))], [], false, 19, 0⟩) (fun i => i ≤ l.length ∧ idxFromS x i (l.drop i) = idxFromS x 0 l) (fun i => l.length - i) 0 ?_ ?_ ?_
 ·refine weak_of [0, 1, 7, 8] ?_
  simp only [keep_mk, keepE_nil, keepE_cons, look_cons, look_nil, Nat.reduceEqDiff, reduceIte]
  rfl
 ·exact ⟨Nat.zero_le _, rfl⟩
 ·rintro i hok5 Q5 n5 e5 r5
  obtain ⟨hi1, hR⟩ := hok5
  refine v_seqR [0,1,7,8,9] ?_; intro K6 k6
  refine zBinOp ⟨?_⟩
  refine k6 _ ?_
  refine zk ⟨?_⟩
  refine v_seq ?_; intro Q7 n7 e7 r7
  refine v_condS _ rfl ?_ ?_
  ·intro hc0
   have hlt : i < l.length := by omega
   obtain ⟨y, hy⟩ : ∃ y, l[i]? = some y := ⟨l[i], List.getElem?_eq_getElem hlt⟩
   have hst := idxS_step (x := x) hy
   refine v_skip ?_
   refine n7 _ _ (weak_keep [0, 1, 7, 8] _) ?_
   refine zk ⟨?_⟩
   refine v_seq ?_; intro Q9 n9 e9 r9
   refine v_block ?_; intro Q10 n10 x10 e10 r10
   refine v_seqR [0,1,5,7,8] ?_; intro K11 k11
   have F := Fc.mk (fun f => getD_map (f := f) hy)
   refine zMove ⟨?_⟩
   refine zAssign ⟨?_⟩
   refine k11 _ ?_
   refine zk ⟨?_⟩
   refine v_seqR [0,1,5,7,8,16] ?_; intro K12 k12
   refine zMove ⟨?_⟩
   refine zMove ⟨?_⟩
   refine zMove ⟨?_⟩
   refine zIndexAddr ⟨?_⟩
   refine zLoad ⟨?_⟩
   refine zBinOp ⟨?_⟩
   refine k12 _ ?_
   refine zk ⟨?_⟩
   refine v_condS _ rfl ?_ ?_
   ·intro hc1
    refine v_seqR [4] ?_; intro K14 k14
    refine zMove ⟨?_⟩
    refine zAssign ⟨?_⟩
    refine k14 _ ?_
    refine zk ⟨?_⟩
    refine v_ret ?_
    refine r10 _ ?_
    refine r9 _ ?_
    refine r5 _ ?_
    refine r4 _ ?_
    refine r2 _ ?_
    refine r0 _ ?_
    refine zf ⟨?_⟩
    exact ret_pure rfl (by rw [← hR, hst, if_pos hc1]) (.inl rfl)
   ·intro hc1
    refine v_skip ?_
    refine n10 _ ?_
    refine n9 _ _ (weak_keep [0, 1, 7, 8] _) ?_
    refine zk ⟨?_⟩
    refine v_region ?_; intro K15 k15
    refine zBinOpW ⟨?_⟩
    refine zMove ⟨?_⟩
    refine k15 _ ?_
    refine n5 _ (i + 1) ?_ ?_ ?_
    ·refine weak_bothS [0, 1, 7, 8] [] ⟨?_⟩
     rfl
    ·exact ⟨by omega, by rw [← hR, hst, if_neg hc1]⟩
    ·show _ < _; omega
  ·intro hc0
   refine v_exit ?_
   refine e7 _ _ ?_
   refine e5 _ _ ?_
   refine x4 _ ?_
   refine n2 _ _ (weak_keep [] _) ?_
   refine zk ⟨?_⟩
   refine v_seqR [4] ?_; intro K16 k16
   refine zAssign ⟨?_⟩
   refine k16 _ ?_
   refine zk ⟨?_⟩
   refine v_ret ?_
   refine r0 _ ?_
   refine zf ⟨?_⟩
   exact ret_pure rfl (by rw [← hR, idxS_end (by omega)]) (.inl rfl)
set_option maxHeartbeats 1000000 in
theorem slContainsS_con (l : List ByteArray) (x : ByteArray) (hl : l.length ≤ 1048576) : Con Tryz.prog 112 [.sl (l.map V.str), .str x] [] (.bool (inS x l)) [] := by
 refine v_con [.tmp 4] [] Tryz.func112 rfl rfl rfl (by simp [Tryz.ntmps112]) ?_
 intro Q0 n0 r0
 simp only [Tryz.ntmps112, envFrom, Nat.reduceAdd]
 have T := Tys.mk (And.intro Ty.t3 (And.intro Ty.t9 Ty.t54))
 have F := Fc.mk True.intro
 refine v_seqR [0,1] ?_; intro K1 k1
 refine zAssign ⟨?_⟩
 refine k1 _ ?_
 refine zk ⟨?_⟩
 refine v_seqR [4] ?_; intro K2 k2
 refine zMove ⟨?_⟩
 refine zMove ⟨?_⟩
 refine zc (slIndexS_con l x hl) ⟨?_⟩
 refine zBinOp ⟨?_⟩
 refine zAssign ⟨?_⟩
 refine k2 _ ?_
 refine zk ⟨?_⟩
 refine v_ret ?_
 refine r0 _ ?_
 refine zf ⟨?_⟩
 exact ret_pure rfl (by congr 1; exact idxS_mem x l 0) (.inl rfl)
set_option maxHeartbeats 1000000 in
theorem dsHas_con (l : List ByteArray) (x : ByteArray) (hl : l.length ≤ 1048576) : Con Tryz.prog 99 [.sl (l.map V.str), .str x] [] (.bool (inS x l)) [] := by
 refine v_con [.tmp 4] [] Tryz.func99 rfl rfl rfl (by simp [Tryz.ntmps99]) ?_
 intro Q0 n0 r0
 simp only [Tryz.ntmps99, envFrom, Nat.reduceAdd]
 have T := Tys.mk (And.intro Ty.t3 (And.intro Ty.t9 Ty.t54))
 have F := Fc.mk True.intro
 refine v_seqR [0,1] ?_; intro K1 k1
 refine zAssign ⟨?_⟩
 refine k1 _ ?_
 refine zk ⟨?_⟩
 refine v_seq ?_; intro Q2 n2 e2 r2
 refine v_seqR [1,7,8,9] ?_; intro K3 k3
 refine zMove ⟨?_⟩
 refine zLen ⟨?_⟩
 refine zMove ⟨?_⟩
 refine k3 _ ?_
 refine zk ⟨?_⟩
 refine v_block ?_; intro Q4 n4 x4 e4 r4
 refine v_loop (fun i => ⟨[(1, .str x), (7, .sl (l.map V.str)), (8, .int .i64 l.length), (9, .int .i64 (Nat.cast i))], [], false, 17, 0⟩) (fun i => i ≤ l.length ∧ inS x (l.drop i) = inS x l) (fun i => l.length - i) 0 ?_ ?_ ?_
 ·refine weak_of [1, 7, 8, 9] ?_
  simp only [keep_mk, keepE_nil, keepE_cons, look_cons, look_nil, Nat.reduceEqDiff, reduceIte]
  rfl
 ·exact ⟨Nat.zero_le _, rfl⟩
 ·rintro i hok5 Q5 n5 e5 r5
  obtain ⟨hi1, hR⟩ := hok5
  refine v_seqR [1,7,8,9,10] ?_; intro K6 k6
  refine zBinOp ⟨?_⟩
  refine k6 _ ?_
  refine zk ⟨?_⟩
  refine v_seq ?_; intro Q7 n7 e7 r7
  refine v_condS _ rfl ?_ ?_
  ·intro hc0
   have hlt : i < l.length := by omega
   obtain ⟨y, hy⟩ : ∃ y, l[i]? = some y := ⟨l[i], List.getElem?_eq_getElem hlt⟩
   have hst := inS_step (x := x) hy
   refine v_skip ?_
   refine n7 _ _ (weak_keep [1, 7, 8, 9] _) ?_
   refine zk ⟨?_⟩
   refine v_seq ?_; intro Q9 n9 e9 r9
   refine v_block ?_; intro Q10 n10 x10 e10 r10
   refine v_seqR [1,6,7,8,9] ?_; intro K11 k11
   have F := Fc.mk (fun f => getD_map (f := f) hy)
   refine zIndexAddr ⟨?_⟩
   refine zLoad ⟨?_⟩
   refine zAssign ⟨?_⟩
   refine k11 _ ?_
   refine zk ⟨?_⟩
   refine v_seqR [1,7,8,9,15] ?_; intro K12 k12
   refine zMove ⟨?_⟩
   refine zMove ⟨?_⟩
   refine zBinOp ⟨?_⟩
   refine k12 _ ?_
   refine zk ⟨?_⟩
   refine v_condS _ rfl ?_ ?_
   ·intro hc1
    refine v_seqR [4] ?_; intro K14 k14
    refine zAssign ⟨?_⟩
    refine k14 _ ?_
    refine zk ⟨?_⟩
    refine v_ret ?_
    refine r10 _ ?_
    refine r9 _ ?_
    refine r5 _ ?_
    refine r4 _ ?_
    refine r2 _ ?_
    refine r0 _ ?_
    refine zf ⟨?_⟩
    exact ret_pure rfl (by rw [← hR, hst, decide_eq_true hc1.symm]; rfl) (.inl rfl)
   ·intro hc1
    refine v_skip ?_
    refine n10 _ ?_
    refine n9 _ _ (weak_keep [1, 7, 8, 9] _) ?_
    refine zk ⟨?_⟩
    refine v_region ?_; intro K15 k15
    refine zBinOpW ⟨?_⟩
    refine zMove ⟨?_⟩
    refine k15 _ ?_
    refine n5 _ (i + 1) ?_ ?_ ?_
    ·refine weak_bothS [1, 7, 8, 9] [] ⟨?_⟩
     rfl
    ·exact ⟨by omega, by rw [← hR, hst, decide_eq_false (fun q => hc1 q.symm)]; rfl⟩
    ·show _ < _; omega
  ·intro hc0
   refine v_exit ?_
   refine e7 _ _ ?_
   refine e5 _ _ ?_
   refine x4 _ ?_
   refine n2 _ _ (weak_keep [] _) ?_
   refine zk ⟨?_⟩
   refine v_seqR [4] ?_; intro K16 k16
   refine zAssign ⟨?_⟩
   refine k16 _ ?_
   refine zk ⟨?_⟩
   refine v_ret ?_
   refine r0 _ ?_
   refine zf ⟨?_⟩
   exact ret_pure rfl (by rw [← hR, inS_end (by omega)]) (.inl rfl)
set_option maxHeartbeats 1000000 in
theorem dsNames_con (l : List ByteArray) (hl : l.length ≤ 1048576) : Con Tryz.prog 122 [.sl (l.map V.str)] [] (.bool (chainAt (fun _ : ByteArray => true) strLt l 0)) [] := by
 refine v_con [.tmp 2] [] Tryz.func122 rfl rfl rfl (by simp [Tryz.ntmps122]) ?_
 intro Q0 n0 r0
 simp only [Tryz.ntmps122, envFrom, Nat.reduceAdd]
 have T := Tys.mk (And.intro Ty.t3 (And.intro Ty.t9 Ty.t54))
 have F := Fc.mk True.intro
 refine v_seqR [0] ?_; intro K1 k1
 refine zAssign ⟨?_⟩
 refine k1 _ ?_
 refine zk ⟨?_⟩
 refine v_seq ?_; intro Q2 n2 e2 r2
 refine v_seqR [0,5,6,7] ?_; intro K3 k3
 refine zMove ⟨?_⟩
 refine zLen ⟨?_⟩
 refine zMove ⟨?_⟩
 refine k3 _ ?_
 refine zk ⟨?_⟩
 refine v_block ?_; intro Q4 n4 x4 e4 r4
 refine v_loop (fun i => ⟨[(0, .sl (l.map V.str)), (5, .sl (l.map V.str)), (6, .int .i64 l.length), (7, .int .i64 (Nat.cast i))], [], false, 24, 0⟩) (fun i => i ≤ l.length ∧ chainAt (fun _ : ByteArray => true) strLt l i = chainAt (fun _ : ByteArray => true) strLt l 0) (fun i => l.length - i) 0 ?_ ?_ ?_
 ·refine weak_of [0, 5, 6, 7] ?_
  simp only [keep_mk, keepE_nil, keepE_cons, look_cons, look_nil, Nat.reduceEqDiff, reduceIte]
  rfl
 ·exact ⟨Nat.zero_le _, rfl⟩
 ·rintro i hok5 Q5 n5 e5 r5
  obtain ⟨hi1, hR⟩ := hok5
  refine v_seqR [0,5,6,7,8] ?_; intro K6 k6
  refine zBinOp ⟨?_⟩
  refine k6 _ ?_
  refine zk ⟨?_⟩
  refine v_seq ?_; intro Q7 n7 e7 r7
  refine v_condS _ rfl ?_ ?_
  ·intro hc0
   have hlt : i < l.length := by omega
   obtain ⟨x, hx⟩ : ∃ x, l[i]? = some x := ⟨l[i], List.getElem?_eq_getElem hlt⟩
   rcases Nat.eq_zero_or_pos i with h0 | h0
   ·skip
    have hi0 : ¬ ((0 : Int) < (i : Int)) := by omega
    have hst : chainAt (fun _ : ByteArray => true) strLt l i = chainAt (fun _ : ByteArray => true) strLt l (i + 1) := by have q := chain_zero (ok := (fun _ : ByteArray => true)) (bf := strLt) (l := l) (x := x) (by subst h0; exact hx); subst h0; simpa using q
    refine v_skip ?_
    refine n7 _ _ (weak_keep [0, 5, 6, 7] _) ?_
    refine zk ⟨?_⟩
    refine v_seq ?_; intro Q9 n9 e9 r9
    refine v_block ?_; intro Q10 n10 x10 e10 r10
    refine v_seqR [0,3,4,5,6,7] ?_; intro K11 k11
    have F := Fc.mk (And.intro (fun f => getD_map (f := f) hx) (And.intro hi0 (And.intro @decide_false @Bool.and_false)))
    refine zMove ⟨?_⟩
    refine zIndexAddr ⟨?_⟩
    refine zLoad ⟨?_⟩
    refine zAssign ⟨?_⟩
    refine zAssign ⟨?_⟩
    refine k11 _ ?_
    refine zk ⟨?_⟩
    refine v_seqR [0,5,6,7,22] ?_; intro K12 k12
    refine zMove ⟨?_⟩
    refine zBinOp ⟨?_⟩
    refine zMove ⟨?_⟩
    refine zgMove ⟨?_⟩
    refine zgMove ⟨?_⟩
    refine zgBinOpW ⟨?_⟩
    refine zgIndexAddr ⟨?_⟩
    refine zgLoad ⟨?_⟩
    refine zgMove ⟨?_⟩
    refine zgBinOp ⟨?_⟩
    refine zPick ⟨?_⟩
    refine k12 _ ?_
    refine zk ⟨?_⟩
    refine v_cond _ rfl ?_ ?_
    ·intro hc1
     exfalso; simp at hc1
    ·intro hc1
     try simp only [zC, reduceCtorEq] at hc1
     refine v_skip ?_
     refine n10 _ ?_
     refine n9 _ _ (weak_keep [0, 5, 6, 7] _) ?_
     refine zk ⟨?_⟩
     refine v_region ?_; intro K14 k14
     refine zBinOpW ⟨?_⟩
     refine zMove ⟨?_⟩
     refine k14 _ ?_
     refine n5 _ (i + 1) ?_ ?_ ?_
     ·refine weak_bothS [0, 5, 6, 7] [] ⟨?_⟩
      rfl
     ·exact ⟨by omega, by first | (rw [← hR, hst]; done) | (rw [← hR, hst]; (try simp at hc1); first | (simp [hc1]; done) | (simp; done) | rfl)⟩
     ·show _ < _; omega
   ·skip
    obtain ⟨y, hy⟩ : ∃ y, l[i - 1]? = some y := ⟨_, List.getElem?_eq_getElem (by omega)⟩
    have hi0 : (0 : Int) < i := by omega
    have hk : ((i : Int) - 1).toNat = i - 1 := by omega
    have hst := chain_succ (ok := (fun _ : ByteArray => true)) (bf := strLt) h0 hy hx
    refine v_skip ?_
    refine n7 _ _ (weak_keep [0, 5, 6, 7] _) ?_
    refine zk ⟨?_⟩
    refine v_seq ?_; intro Q15 n15 e15 r15
    refine v_block ?_; intro Q16 n16 x16 e16 r16
    refine v_seqR [0,3,4,5,6,7] ?_; intro K17 k17
    have F := Fc.mk (And.intro (fun f => getD_map (f := f) hx) (And.intro hi0 (And.intro hk (And.intro (fun f => getD_map (f := f) hy) (And.intro @decide_true @Bool.and_true)))))
    refine zMove ⟨?_⟩
    refine zIndexAddr ⟨?_⟩
    refine zLoad ⟨?_⟩
    refine zAssign ⟨?_⟩
    refine zAssign ⟨?_⟩
    refine k17 _ ?_
    refine zk ⟨?_⟩
    refine v_seqR [0,5,6,7,22] ?_; intro K18 k18
    refine zMove ⟨?_⟩
    refine zBinOp ⟨?_⟩
    refine zMove ⟨?_⟩
    refine zgMove ⟨?_⟩
    refine zgMove ⟨?_⟩
    refine zgBinOpW ⟨?_⟩
    refine zgIndexAddr ⟨?_⟩
    refine zgLoad ⟨?_⟩
    refine zgMove ⟨?_⟩
    refine zgBinOp ⟨?_⟩
    refine zPick ⟨?_⟩
    refine k18 _ ?_
    refine zk ⟨?_⟩
    refine v_condS _ rfl ?_ ?_
    ·intro hc1
     refine v_seqR [2] ?_; intro K20 k20
     refine zAssign ⟨?_⟩
     refine k20 _ ?_
     refine zk ⟨?_⟩
     refine v_ret ?_
     refine r16 _ ?_
     refine r15 _ ?_
     refine r5 _ ?_
     refine r4 _ ?_
     refine r2 _ ?_
     refine r0 _ ?_
     refine zf ⟨?_⟩
     exact ret_pure rfl (by rw [← hR, hst]; (try simp at hc1); simp [hc1]) (.inl rfl)
    ·intro hc1
     refine v_skip ?_
     refine n16 _ ?_
     refine n15 _ _ (weak_keep [0, 5, 6, 7] _) ?_
     refine zk ⟨?_⟩
     refine v_region ?_; intro K21 k21
     refine zBinOpW ⟨?_⟩
     refine zMove ⟨?_⟩
     refine k21 _ ?_
     refine n5 _ (i + 1) ?_ ?_ ?_
     ·refine weak_bothS [0, 5, 6, 7] [] ⟨?_⟩
      rfl
     ·exact ⟨by omega, by first | (rw [← hR, hst]; done) | (rw [← hR, hst]; (try simp at hc1); first | (simp [hc1]; done) | (simp; done) | rfl)⟩
     ·show _ < _; omega
  ·intro hc0
   refine v_exit ?_
   refine e7 _ _ ?_
   refine e5 _ _ ?_
   refine x4 _ ?_
   refine n2 _ _ (weak_keep [] _) ?_
   refine zk ⟨?_⟩
   refine v_seqR [2] ?_; intro K22 k22
   refine zAssign ⟨?_⟩
   refine k22 _ ?_
   refine zk ⟨?_⟩
   refine v_ret ?_
   refine r0 _ ?_
   refine zf ⟨?_⟩
   exact ret_pure rfl (by rw [← hR, chain_end (by omega)]) (.inl rfl)
theorem findA_cases (fl : List (ByteArray × Int × Int × Int × Int)) (s : ByteArray) : findA fl s = -1 ∨ ∃ (k : Nat) (x : (ByteArray × Int × Int × Int × Int)), findA fl s = (k : Int) ∧ fl[k]? = some x ∧ x.1 = s := by
  by_cases h : findA fl s = -1
  · exact .inl h
  · obtain ⟨k, h1, h2, _, x, h4, h5⟩ := first_some h
    exact .inr ⟨k, x, by rw [findA, h2, Nat.zero_add], h4, by simpa using h5⟩
def attR (n : Int) (ss : List (Int × Int × Int)) (fl : List (ByteArray × Int × Int × Int × Int)) (node : Int) (names : List ByteArray) : Bool := askD n ss fl node && attB fl (tmL n ss node) names
def attW (n : Int) (ss : List (Int × Int × Int)) (fl : List (ByteArray × Int × Int × Int × Int)) (node : Int) (names : List ByteArray) : Int := if attR n ss fl node names = true then attV fl (tmL n ss node) names else 0
theorem attOne_none {fl : List (ByteArray × Int × Int × Int × Int)} {ts : List Int} {s : ByteArray} (h : findA fl s = -1) : attOne fl ts s = -1 := by rw [attOne, if_pos (by omega)]
theorem attOne_some {fl : List (ByteArray × Int × Int × Int × Int)} {ts : List Int} {s : ByteArray} {k : Nat} {x : (ByteArray × Int × Int × Int × Int)} {w : Nat} {p : Int} (h : findA fl s = (k : Int)) (hx : fl[k]? = some x) (hw : x.2.2.1 = (w : Int)) (hp : ts[w]? = some p) : attOne fl ts s = p := by
  rw [attOne, if_neg (by omega), h, key_is hx hw hp]
theorem attV_step {fl : List (ByteArray × Int × Int × Int × Int)} {ts : List Int} {names : List ByteArray} {i : Nat} {s : ByteArray} (h : names[i]? = some s) : attV fl ts (names.take (i + 1)) = max (attV fl ts (names.take i)) (attOne fl ts s) := by
  rw [attV, List.take_add_one, h, Option.toList, List.foldl_append]; rfl
theorem attB_split {fl : List (ByteArray × Int × Int × Int × Int)} {ts : List Int} {names : List ByteArray} : attB fl ts names = ((chainAt (fun _ : ByteArray => true) strLt names 0 && names.all fun s => decide (0 ≤ attOne fl ts s)) && !decide ((names.length : Int) = 0)) := by
  rw [attB, chain_split]

def need4 (l : List Int) : Bool := decide ((l.length : Int) = 4) && l.all (fun x : Int => inR x 0 6)
theorem need4_facts {l : List Int} (h : need4 l = true) : l.length = 4 ∧ ∀ x ∈ l, 0 ≤ x ∧ x ≤ 6 := by
  simp only [need4, Bool.and_eq_true, decide_eq_true_eq, List.all_eq_true, inR] at h
  exact ⟨by omega, h.2⟩

set_option maxHeartbeats 1000000 in
theorem isNeed_con (l : List Int) (hl : l.length ≤ 1048576) : Con Tryz.prog 81 [.sl (l.map (V.int .i64))] [] (.bool (need4 l)) [] := by
 refine v_con [.tmp 2] [] Tryz.func81 rfl rfl rfl (by simp [Tryz.ntmps81]) ?_
 intro Q0 n0 r0
 simp only [Tryz.ntmps81, envFrom, Nat.reduceAdd]
 have T := Tys.mk (And.intro Ty.t3 (And.intro Ty.t4 Ty.t32))
 have F := Fc.mk True.intro
 refine v_seqR [0] ?_; intro K1 k1
 refine zAssign ⟨?_⟩
 refine k1 _ ?_
 refine zk ⟨?_⟩
 refine v_seq ?_; intro Q2 n2 e2 r2
 refine v_seqR [0,5,6,7] ?_; intro K3 k3
 refine zMove ⟨?_⟩
 refine zLen ⟨?_⟩
 refine zMove ⟨?_⟩
 refine k3 _ ?_
 refine zk ⟨?_⟩
 refine v_block ?_; intro Q4 n4 x4 e4 r4
 refine v_loop (fun i => ⟨[(0, .sl (l.map (V.int .i64))), (5, .sl (l.map (V.int .i64))), (6, .int .i64 l.length), (7, .int .i64 (Nat.cast i))], [], false, 18, 0⟩) (fun i => i ≤ l.length ∧ (l.drop i).all (fun x : Int => inR x 0 6) = l.all (fun x : Int => inR x 0 6)) (fun i => l.length - i) 0 ?_ ?_ ?_
 ·refine weak_of [0, 5, 6, 7] ?_
  simp only [keep_mk, keepE_nil, keepE_cons, look_cons, look_nil, Nat.reduceEqDiff, reduceIte]
  rfl
 ·exact ⟨Nat.zero_le _, rfl⟩
 ·rintro i hok5 Q5 n5 e5 r5
  obtain ⟨hi1, hR⟩ := hok5
  refine v_seqR [0,5,6,7,8] ?_; intro K6 k6
  refine zBinOp ⟨?_⟩
  refine k6 _ ?_
  refine zk ⟨?_⟩
  refine v_seq ?_; intro Q7 n7 e7 r7
  refine v_condS _ rfl ?_ ?_
  ·intro hc0
   have hlt : i < l.length := by omega
   obtain ⟨x, hx⟩ : ∃ x, l[i]? = some x := ⟨_, List.getElem?_eq_getElem hlt⟩
   have hst := all_step (p := (fun x : Int => inR x 0 6)) hx
   refine v_skip ?_
   refine n7 _ _ (weak_keep [0, 5, 6, 7] _) ?_
   refine zk ⟨?_⟩
   refine v_seq ?_; intro Q9 n9 e9 r9
   refine v_block ?_; intro Q10 n10 x10 e10 r10
   refine v_seqR [0,4,5,6,7] ?_; intro K11 k11
   have F := Fc.mk (fun f => getD_map (f := f) hx)
   refine zIndexAddr ⟨?_⟩
   refine zLoad ⟨?_⟩
   refine zAssign ⟨?_⟩
   refine k11 _ ?_
   refine zk ⟨?_⟩
   refine v_seqR [0,5,6,7,13] ?_; intro K12 k12
   refine zMove ⟨?_⟩
   refine zc (inside_con _ _ _) ⟨?_⟩
   refine zUnOp ⟨?_⟩
   refine k12 _ ?_
   refine zk ⟨?_⟩
   refine v_condS _ rfl ?_ ?_
   ·intro hc1
    refine v_seqR [2] ?_; intro K14 k14
    refine zAssign ⟨?_⟩
    refine k14 _ ?_
    refine zk ⟨?_⟩
    refine v_ret ?_
    refine r10 _ ?_
    refine r9 _ ?_
    refine r5 _ ?_
    refine r4 _ ?_
    refine r2 _ ?_
    refine r0 _ ?_
    refine zf ⟨?_⟩
    exact ret_pure rfl (by rw [need4, ← hR, hst]; (try simp at hc1); simp [inR]; intros; omega) (.inl rfl)
   ·intro hc1
    refine v_skip ?_
    refine n10 _ ?_
    refine n9 _ _ (weak_keep [0, 5, 6, 7] _) ?_
    refine zk ⟨?_⟩
    refine v_region ?_; intro K15 k15
    refine zBinOpW ⟨?_⟩
    refine zMove ⟨?_⟩
    refine k15 _ ?_
    refine n5 _ (i + 1) ?_ ?_ ?_
    ·refine weak_bothS [0, 5, 6, 7] [] ⟨?_⟩
     rfl
    ·exact ⟨by omega, by rw [← hR, hst]; (try simp at hc1); simp [inR]; intros; omega⟩
    ·show _ < _; omega
  ·intro hc0
   refine v_exit ?_
   refine e7 _ _ ?_
   refine e5 _ _ ?_
   refine x4 _ ?_
   refine n2 _ _ (weak_keep [0] _) ?_
   refine zk ⟨?_⟩
   refine v_seqR [2] ?_; intro K16 k16
   refine zMove ⟨?_⟩
   refine zLen ⟨?_⟩
   refine zBinOp ⟨?_⟩
   refine zAssign ⟨?_⟩
   refine k16 _ ?_
   refine zk ⟨?_⟩
   refine v_ret ?_
   refine r0 _ ?_
   refine zf ⟨?_⟩
   exact ret_pure rfl (by rw [need4, ← hR, all_end (by omega)]; simp) (.inl rfl)
set_option maxHeartbeats 1000000 in
theorem tbNeed_con (l : List Int) (hl : l.length ≤ 1048576) : Con Tryz.prog 101 [.sl (l.map (V.int .i64))] [] (.bool (need4 l)) [] := by
 refine v_con [.tmp 2] [] Tryz.func101 rfl rfl rfl (by simp [Tryz.ntmps101]) ?_
 intro Q0 n0 r0
 simp only [Tryz.ntmps101, envFrom, Nat.reduceAdd]
 have T := Tys.mk (And.intro Ty.t3 (And.intro Ty.t4 Ty.t32))
 have F := Fc.mk True.intro
 refine v_seqR [0] ?_; intro K1 k1
 refine zAssign ⟨?_⟩
 refine k1 _ ?_
 refine zk ⟨?_⟩
 refine v_seqR [2] ?_; intro K2 k2
 refine zMove ⟨?_⟩
 refine zLen ⟨?_⟩
 refine zBinOp ⟨?_⟩
 refine zMove ⟨?_⟩
 refine zgMove ⟨?_⟩
 refine zgc (l1All_con l 0 6 hl) ⟨?_⟩
 refine zPick ⟨?_⟩
 refine zAssign ⟨?_⟩
 refine k2 _ ?_
 refine zk ⟨?_⟩
 refine v_ret ?_
 refine r0 _ ?_
 refine zf ⟨?_⟩
 exact ret_pure rfl (by simp [need4, inR]) (.inl rfl)
set_option maxHeartbeats 1000000 in
theorem cloneInt_con (l : List Int) (hl : l.length ≤ 1048576) : Con Tryz.prog 117 [.sl (l.map (V.int .i64))] [] (.ref 0) [.arr (l.map (V.int .i64)) .flat] := by
 have hns : (l.map (V.int .i64)).all V.noSl = true := by rw [List.all_map, List.all_eq_true]; intro a _; rfl
 refine v_con [.tmp 2] [] Tryz.func117 rfl rfl rfl (by simp [Tryz.ntmps117]) ?_
 intro Q0 n0 r0
 simp only [Tryz.ntmps117, envFrom, Nat.reduceAdd]
 have T := Tys.mk (And.intro Ty.t3 Ty.t32)
 have F := Fc.mk True.intro
 refine v_seqR [0] ?_; intro K1 k1
 have F := Fc.mk hns
 refine zAssign ⟨?_⟩
 refine k1 _ ?_
 refine zk ⟨?_⟩
 refine v_seq ?_; intro Q2 n2 e2 r2
 refine v_seqR [0,4] ?_; intro K3 k3
 refine zMove ⟨?_⟩
 refine zNil ⟨?_⟩
 intro nb4 hnb4
 refine k3 _ ?_
 refine zk ⟨?_⟩
 refine v_condS _ rfl ?_ ?_
 ·intro hc0
  have hnil : l = [] := by cases l with | nil => rfl | cons a b => have := hnb4 (by simp); rw [hc0] at this; cases this
  refine v_seqR [2] ?_; intro K5 k5
  refine zAssign ⟨?_⟩
  refine k5 _ ?_
  refine zk ⟨?_⟩
  refine v_ret ?_
  refine r2 _ ?_
  refine r0 _ ?_
  refine zf ⟨?_⟩
  rw [hnil]; exact ret_refK rfl rfl rfl
 ·intro hc0
  refine v_skip ?_
  refine n2 _ _ (weak_keep [0] _) ?_
  refine zk ⟨?_⟩
  refine v_seqR [2] ?_; intro K6 k6
  refine zBuildSlice ⟨?_⟩
  refine zMove ⟨?_⟩
  refine zAppend ⟨?_⟩
  refine zAssign ⟨?_⟩
  refine k6 _ ?_
  refine zk ⟨?_⟩
  refine v_ret ?_
  refine r0 _ ?_
  refine zf ⟨?_⟩
  exact ret_refK rfl rfl (by simp)
def szSL (n : Int) (l : List ByteArray) : Int := if n - (l.length : Int) < 0 then -1 else szLst szStr1 (n - (l.length : Int)) l
theorem szLst_neg {α : Type} {f : Int → α → Int} : ∀ {l : List α} {n : Int}, 0 ≤ n → szLst f n l < 0 → szLst f n l = -1
  | [], n, h0, h => by rw [szLst] at h; omega
  | x :: l, n, h0, h => by
    rw [szLst] at h ⊢
    by_cases q : f n x < 0
    · rw [if_pos q]
    · rw [if_neg q] at h ⊢
      exact szLst_neg (by omega) h
theorem szSL_neg {n : Int} {l : List ByteArray} (h : szSL n l < 0) : szSL n l = -1 := by
  unfold szSL at h ⊢
  split at h
  · rename_i q; rw [if_pos q]
  · rename_i q; rw [if_neg q]; exact szLst_neg (by omega) h
theorem szSL_le {n : Int} {l : List ByteArray} (hn : 0 ≤ n) : szSL n l ≤ n := by
  unfold szSL
  split
  · omega
  · by_cases h : 0 ≤ szLst szStr1 (n - (l.length : Int)) l
    · have := szLst_down szStr1_le (by omega) h; omega
    · omega
theorem szSL_len {n : Int} {l : List ByteArray} (h : 0 ≤ szSL n l) : (l.length : Int) ≤ n := by
  unfold szSL at h
  split at h <;> omega
theorem szS_neg {n : Int} {l : List Int} (h : szS n l < 0) : szS n l = -1 := by
  unfold szS at h ⊢
  split at h
  · rename_i q; rw [if_pos q]
  · omega
theorem szS_le {n : Int} {l : List Int} (hn : 0 ≤ n) : szS n l ≤ n := by
  unfold szS; split <;> omega
theorem szS_len {n : Int} {l : List Int} (h : 0 ≤ szS n l) : (l.length : Int) ≤ n := by
  unfold szS at h
  split at h <;> omega

def szIncident1 (n : Int) (t : Int × Int × Bool × List ByteArray) : Int := szSL n t.2.2.2
theorem szIncident1_le (n : Int) (t : Int × Int × Bool × List ByteArray) (hn : 0 ≤ n) : szIncident1 n t ≤ n := szSL_le hn
theorem szIncident_lens {n : Int} {l : List (Int × Int × Bool × List ByteArray)} (hn : 0 ≤ n) (h : 0 ≤ szLst szIncident1 n l) : ∀ t ∈ l, (t.2.2.2.length : Int) ≤ n :=
  szLst_le (f := szIncident1) (g := fun t => (t.2.2.2.length : Int)) (fun n x h0 h1 => ⟨szSL_len h1, szIncident1_le n x h0⟩) hn h

set_option maxHeartbeats 1000000 in
theorem szIncident_con (x0 : Int) (x1 : Int) (x2 : Bool) (x3 : List ByteArray) (n : Int) (hn : 0 ≤ n ∧ n ≤ 1048576) (hlx : x3.length ≤ 9223372036854775807) (hlxs : ∀ s ∈ x3, s.size ≤ 9223372036854775807) : Con Tryz.prog 62 [.agg [V.int .i64 x0, V.int .i64 x1, V.bool x2, V.sl (x3.map V.str)], .int .i64 n] [] (.int .i64 (szIncident1 n (x0, x1, x2, x3))) [] := by
 refine v_con [.tmp 4] [] Tryz.func62 rfl rfl rfl (by simp [Tryz.ntmps62]) ?_
 intro Q0 n0 r0
 simp only [Tryz.ntmps62, envFrom, Nat.reduceAdd]
 have T := Tys.mk (And.intro Ty.t3 (And.intro Ty.t4 (And.intro Ty.t9 (And.intro Ty.t54 Ty.t97))))
 have F := Fc.mk True.intro
 refine v_seqR [1,2] ?_; intro K1 k1
 refine zBox ⟨?_⟩
 refine zAssign ⟨?_⟩
 refine k1 _ ?_
 refine zk ⟨?_⟩
 refine v_seqR [1] ?_; intro K2 k2
 refine zFieldAddr ⟨?_⟩
 refine zLoad ⟨?_⟩
 refine zMove ⟨?_⟩
 refine zc ((szStringS_con n x3 hn hlx hlxs : Con _ _ _ _ (.int .i64 (szSL n x3)) _)) ⟨?_⟩
 refine zAssign ⟨?_⟩
 refine k2 _ ?_
 refine zk ⟨?_⟩
 refine v_seq ?_; intro Q3 n3 e3 r3
 refine v_seqR [1,10] ?_; intro K4 k4
 refine zMove ⟨?_⟩
 refine zBinOp ⟨?_⟩
 refine k4 _ ?_
 refine zk ⟨?_⟩
 refine v_condS _ rfl ?_ ?_
 ·intro hc0
  refine v_seqR [4] ?_; intro K6 k6
  refine zAssign ⟨?_⟩
  refine k6 _ ?_
  refine zk ⟨?_⟩
  refine v_ret ?_
  refine r3 _ ?_
  refine r0 _ ?_
  refine zf ⟨?_⟩
  exact ret_pure rfl (by rw [show szIncident1 n (x0, x1, x2, x3) = -1 from szSL_neg hc0]) (.inl rfl)
 ·intro hc0
  refine v_skip ?_
  refine n3 _ _ (weak_keep [1] _) ?_
  refine zk ⟨?_⟩
  refine v_seqR [4] ?_; intro K7 k7
  refine zMove ⟨?_⟩
  refine zAssign ⟨?_⟩
  refine k7 _ ?_
  refine zk ⟨?_⟩
  refine v_ret ?_
  refine r0 _ ?_
  refine zf ⟨?_⟩
  exact ret_pure rfl rfl (.inl rfl)
set_option maxHeartbeats 1000000 in
theorem szIncidentS_con (n : Int) (ll : List (Int × Int × Bool × List ByteArray)) (hn : 0 ≤ n ∧ n ≤ 1048576) (hl : ll.length ≤ 9223372036854775807) (hls : ∀ t ∈ ll, t.2.2.2.length ≤ 9223372036854775807 ∧ ∀ s ∈ t.2.2.2, s.size ≤ 9223372036854775807) : Con Tryz.prog 32 [.sl (ll.map (fun t : Int × Int × Bool × List ByteArray => V.agg [V.int .i64 t.1, V.int .i64 t.2.1, V.bool t.2.2.1, V.sl (t.2.2.2.map V.str)])), .int .i64 n] [] (.int .i64 (if n - ll.length < 0 then -1 else szLst szIncident1 (n - ll.length) ll)) [] := by
 refine v_con [.tmp 4] [] Tryz.func32 rfl rfl rfl (by simp [Tryz.ntmps32]) ?_
 intro Q0 n0 r0
 simp only [Tryz.ntmps32, envFrom, Nat.reduceAdd]
 have T := Tys.mk (And.intro Ty.t3 (And.intro Ty.t4 (And.intro Ty.t9 (And.intro Ty.t26 (And.intro Ty.t54 Ty.t97)))))
 have F := Fc.mk True.intro
 refine v_seqR [0,1] ?_; intro K1 k1
 refine zAssign ⟨?_⟩
 refine k1 _ ?_
 refine zk ⟨?_⟩
 refine v_seqR [0,1] ?_; intro K2 k2
 refine zMove ⟨?_⟩
 refine zMove ⟨?_⟩
 refine zLen ⟨?_⟩
 refine zBinOpW ⟨?_⟩
 refine zAssign ⟨?_⟩
 refine k2 _ ?_
 refine zk ⟨?_⟩
 refine v_seq ?_; intro Q3 n3 e3 r3
 refine v_seqR [0,1,11] ?_; intro K4 k4
 refine zMove ⟨?_⟩
 refine zBinOp ⟨?_⟩
 refine k4 _ ?_
 refine zk ⟨?_⟩
 refine v_condS _ rfl ?_ ?_
 ·intro hc0
  refine v_seqR [4] ?_; intro K6 k6
  refine zAssign ⟨?_⟩
  refine k6 _ ?_
  refine zk ⟨?_⟩
  refine v_ret ?_
  refine r3 _ ?_
  refine r0 _ ?_
  refine zf ⟨?_⟩
  exact ret_pure rfl (by rw [if_pos (by omega)]) (.inl rfl)
 ·intro hc0
  refine v_skip ?_
  refine n3 _ _ (weak_keep [0, 1] _) ?_
  refine zk ⟨?_⟩
  refine v_seq ?_; intro Q7 n7 e7 r7
  refine v_seqR [0,1,5] ?_; intro K8 k8
  refine zAssign ⟨?_⟩
  refine k8 _ ?_
  refine zk ⟨?_⟩
  refine v_block ?_; intro Q9 n9 x9 e9 r9
  refine v_loop (fun p => ⟨[(0, .sl (ll.map (fun t : Int × Int × Bool × List ByteArray => V.agg [V.int .i64 t.1, V.int .i64 t.2.1, V.bool t.2.2.1, V.sl (t.2.2.2.map V.str)]))), (1, .int .i64 p.2), (5, .int .i64 (Nat.cast p.1))], [], false, 27, 0⟩) (fun p => p.1 ≤ ll.length ∧ 0 ≤ p.2 ∧ p.2 ≤ 1048576 ∧ szLst szIncident1 p.2 (ll.drop p.1) = szLst szIncident1 (n - ll.length) ll) (fun p => ll.length - p.1) (0, n - ll.length) ?_ ?_ ?_
  ·refine weak_of [0, 1, 5] ?_
   simp only [keep_mk, keepE_nil, keepE_cons, look_cons, look_nil, Nat.reduceEqDiff, reduceIte]
   rfl
  ·exact ⟨Nat.zero_le _, by omega, by omega, by simp⟩
  ·rintro ⟨i, m⟩ hok10 Q10 n10 e10 r10
   obtain ⟨hi1, hm0, hm1, hR⟩ := hok10
   simp only [] at hi1 hm0 hm1 hR ⊢
   refine v_seq ?_; intro Q11 n11 e11 r11
   refine v_seqR [0,1,5,15] ?_; intro K12 k12
   refine zMove ⟨?_⟩
   refine zMove ⟨?_⟩
   refine zLen ⟨?_⟩
   refine zBinOp ⟨?_⟩
   refine k12 _ ?_
   refine zk ⟨?_⟩
   refine v_condS _ rfl ?_ ?_
   ·intro hc1
    have hlt : i < ll.length := by omega
    obtain ⟨⟨x0, x1, x2, x3⟩, hx⟩ : ∃ x : Int × Int × Bool × List ByteArray, ll[i]? = some x := ⟨ll[i]'(by omega), List.getElem?_eq_getElem (by omega)⟩
    have hlx := hls _ (List.mem_of_getElem? hx)
    simp only [] at hlx
    have hstep : szLst szIncident1 m (ll.drop i) = if szIncident1 m (x0, x1, x2, x3) < 0 then -1 else szLst szIncident1 (szIncident1 m (x0, x1, x2, x3)) (ll.drop (i + 1)) := by rw [getElem_drop_cons hx, szLst]
    have hzle := szIncident1_le m (x0, x1, x2, x3) hm0
    refine v_skip ?_
    refine n11 _ _ (weak_keep [0, 1, 5] _) ?_
    refine zk ⟨?_⟩
    refine v_seq ?_; intro Q14 n14 e14 r14
    refine v_block ?_; intro Q15 n15 x15 e15 r15
    refine v_seqR [0,1,5] ?_; intro K16 k16
    have F := Fc.mk (fun f => getD_map (f := f) hx)
    refine zMove ⟨?_⟩
    refine zMove ⟨?_⟩
    refine zIndexAddr ⟨?_⟩
    refine zLoad ⟨?_⟩
    refine zMove ⟨?_⟩
    refine zc (szIncident_con x0 x1 x2 x3 m ⟨hm0, hm1⟩ hlx.1 hlx.2) ⟨?_⟩
    refine zAssign ⟨?_⟩
    refine k16 _ ?_
    refine zk ⟨?_⟩
    refine v_seqR [0,1,5,25] ?_; intro K17 k17
    refine zMove ⟨?_⟩
    refine zBinOp ⟨?_⟩
    refine k17 _ ?_
    refine zk ⟨?_⟩
    refine v_condS _ rfl ?_ ?_
    ·intro hc2
     refine v_seqR [4] ?_; intro K19 k19
     refine zAssign ⟨?_⟩
     refine k19 _ ?_
     refine zk ⟨?_⟩
     refine v_ret ?_
     refine r15 _ ?_
     refine r14 _ ?_
     refine r10 _ ?_
     refine r9 _ ?_
     refine r7 _ ?_
     refine r0 _ ?_
     refine zf ⟨?_⟩
     exact ret_pure rfl (by rw [if_neg (by omega), ← hR, hstep, if_pos hc2]) (.inl rfl)
    ·intro hc2
     refine v_skip ?_
     refine n15 _ ?_
     refine n14 _ _ (weak_keep [0, 1, 5] _) ?_
     refine zk ⟨?_⟩
     refine v_region ?_; intro K20 k20
     refine zMove ⟨?_⟩
     refine zBinOpW ⟨?_⟩
     refine zAssign ⟨?_⟩
     refine k20 _ ?_
     refine n10 _ (i + 1, szIncident1 m (x0, x1, x2, x3)) ?_ ?_ ?_
     ·refine weak_of [0, 1, 5] ?_
      simp only [keep_mk, keepE_nil, keepE_cons, look_cons, look_nil, Nat.reduceEqDiff, reduceIte]
      rfl
     ·exact ⟨by simp only []; omega, by simp only []; omega, by simp only []; omega, by simp only []; rw [← hR, hstep, if_neg (by omega)]⟩
     ·show _ < _; simp only []; omega
   ·intro hc1
    refine v_exit ?_
    refine e11 _ _ ?_
    refine e10 _ _ ?_
    refine x9 _ ?_
    refine n7 _ _ (weak_keep [1] _) ?_
    refine zk ⟨?_⟩
    refine v_seqR [4] ?_; intro K21 k21
    refine zMove ⟨?_⟩
    refine zAssign ⟨?_⟩
    refine k21 _ ?_
    refine zk ⟨?_⟩
    refine v_ret ?_
    refine r0 _ ?_
    refine zf ⟨?_⟩
    exact ret_pure rfl (by rw [if_neg (by omega), ← hR, List.drop_of_length_le (by omega)]; rfl) (.inl rfl)
set_option maxHeartbeats 1000000 in
theorem toIncident_con (x0 : Int) (x1 : Int) (x2 : Bool) (x3 : List ByteArray) (hlx : x3.length ≤ 1048576) : Con Tryz.prog 71 [.agg [V.int .i64 x0, V.int .i64 x1, V.bool x2, V.sl (x3.map V.str)]] [] (.agg [V.int .i64 x0, V.int .i64 x1, V.bool x2, .ref 0]) [.arr (x3.map V.str) .flat] := by
 refine v_con [.cell 2 69] [] Tryz.func71 rfl rfl rfl (by simp [Tryz.ntmps71]) ?_
 intro Q0 n0 r0
 simp only [Tryz.ntmps71, envFrom, Nat.reduceAdd]
 have T := Tys.mk (And.intro Ty.t3 (And.intro Ty.t4 (And.intro Ty.t9 (And.intro Ty.t54 (And.intro Ty.t69 Ty.t97)))))
 have F := Fc.mk True.intro
 refine v_seqR [1,2] ?_; intro K1 k1
 refine zBox ⟨?_⟩
 refine zAlloc ⟨?_⟩
 refine k1 _ ?_
 refine zk ⟨?_⟩
 refine v_seqR [1,2,3] ?_; intro K2 k2
 refine zAlloc ⟨?_⟩
 refine k2 _ ?_
 refine zk ⟨?_⟩
 refine v_seqR [1,2,3] ?_; intro K3 k3
 refine zFieldAddr ⟨?_⟩
 refine zLoad ⟨?_⟩
 refine zFieldAddr ⟨?_⟩
 refine zStore ⟨?_⟩
 refine k3 _ ?_
 refine zk ⟨?_⟩
 refine v_seqR [1,2,3] ?_; intro K4 k4
 refine zFieldAddr ⟨?_⟩
 refine zLoad ⟨?_⟩
 refine zFieldAddr ⟨?_⟩
 refine zStore ⟨?_⟩
 refine k4 _ ?_
 refine zk ⟨?_⟩
 refine v_seqR [1,2,3] ?_; intro K5 k5
 refine zFieldAddr ⟨?_⟩
 refine zLoad ⟨?_⟩
 refine zFieldAddr ⟨?_⟩
 refine zStore ⟨?_⟩
 refine k5 _ ?_
 refine zk ⟨?_⟩
 refine v_seqR [2,3] ?_; intro K6 k6
 refine zFieldAddr ⟨?_⟩
 refine zLoad ⟨?_⟩
 refine zc (toStringS_con x3 hlx) ⟨?_⟩
 refine zFieldAddr ⟨?_⟩
 refine zStore ⟨?_⟩
 refine k6 _ ?_
 refine zk ⟨?_⟩
 refine v_seqR [2] ?_; intro K7 k7
 refine zLoad ⟨?_⟩
 refine zStore ⟨?_⟩
 refine k7 _ ?_
 refine zk ⟨?_⟩
 refine v_ret ?_
 refine r0 _ ?_
 refine zf ⟨?_⟩
 simp only [zE, zL, zO, zN, aStepM, optable, set_some, Nat.reduceEqDiff, reduceIte, Nat.reduceLT, implies_true, forall_const, reduceCtorEq, V.ofValue, V.ofScalar, V.un, V.gd, aLoad, row_mk, Blk.row, PartOK, Go.Vm.part, V.cells, V.noSl, V.noRef, Nat.reduceAdd, Nat.reduceLeDiff, Nat.reduceMul, Tryz.underlying3, Ty.c3, Ty.a3, Tryz.underlying4, Ty.c4, Ty.a4, Tryz.underlying54, Ty.c54, Ty.a54, Tryz.underlying69, Ty.c69, Ty.a69]
 exact ret_gen [5] rfl rfl (by decide) rfl (by simp) (by simp [Blk.kindIs]) rfl
set_option maxHeartbeats 1000000 in
theorem toIncidentS_con (l : List (Int × Int × Bool × List ByteArray)) (hl : l.length ≤ 1048576) (hls : ∀ t ∈ l, t.2.2.2.length ≤ 1048576) : Con Tryz.prog 39 [.sl (l.map (fun t : Int × Int × Bool × List ByteArray => V.agg [V.int .i64 t.1, V.int .i64 t.2.1, V.bool t.2.2.1, V.sl (t.2.2.2.map V.str)]))] [] (.ref 0) [.arr (l.map (fun t : Int × Int × Bool × List ByteArray => V.agg [V.int .i64 t.1, V.int .i64 t.2.1, V.bool t.2.2.1, V.sl (t.2.2.2.map V.str)])) (fillK l.length)] := by
 refine v_con [.tmp 2] [] Tryz.func39 rfl rfl rfl (by simp [Tryz.ntmps39]) ?_
 intro Q0 n0 r0
 simp only [Tryz.ntmps39, envFrom, Nat.reduceAdd]
 have T := Tys.mk (And.intro Ty.t3 (And.intro Ty.t4 (And.intro Ty.t9 (And.intro Ty.t26 (And.intro Ty.t40 (And.intro Ty.t54 (And.intro Ty.t69 Ty.t97)))))))
 have F := Fc.mk True.intro
 refine v_seqR [0] ?_; intro K1 k1
 refine zAssign ⟨?_⟩
 refine k1 _ ?_
 refine zk ⟨?_⟩
 refine v_seqR [0,3] ?_; intro K2 k2
 refine zMove ⟨?_⟩
 refine zLen ⟨?_⟩
 refine zMakeSlice ⟨?_⟩
 refine zAssign ⟨?_⟩
 refine k2 _ ?_
 refine zk ⟨?_⟩
 refine v_seq ?_; intro Q3 n3 e3 r3
 refine v_seqR [0,3,4] ?_; intro K4 k4
 refine zAssign ⟨?_⟩
 refine k4 _ ?_
 refine zk ⟨?_⟩
 refine v_block ?_; intro Q5 n5 x5 e5 r5
 refine v_loop (fun i => ⟨[(0, .sl (l.map (fun t : Int × Int × Bool × List ByteArray => V.agg [V.int .i64 t.1, V.int .i64 t.2.1, V.bool t.2.2.1, V.sl (t.2.2.2.map V.str)]))), (3, .ref 0), (4, .int .i64 (Nat.cast i))], [.arr (fillTo (fun t : Int × Int × Bool × List ByteArray => V.agg [V.int .i64 t.1, V.int .i64 t.2.1, V.bool t.2.2.1, V.sl (t.2.2.2.map V.str)]) (V.agg [V.int .i64 0, V.int .i64 0, V.bool false, V.sl []]) l i) (fillK i)], false, 23, 0⟩) (fun i => i ≤ l.length) (fun i => l.length - i) 0 ?_ ?_ ?_
 ·refine weak_bothS [0, 3, 4] [1] ⟨?_⟩
  rw [fill_zero]; rfl
 ·exact Nat.zero_le _
 ·rintro i hok6 Q6 n6 e6 r6
  have hi1 : i ≤ l.length := hok6
  refine v_seq ?_; intro Q7 n7 e7 r7
  refine v_seqR [0,3,4,11] ?_; intro K8 k8
  refine zMove ⟨?_⟩
  refine zMove ⟨?_⟩
  refine zLen ⟨?_⟩
  refine zBinOp ⟨?_⟩
  refine k8 _ ?_
  refine zk ⟨?_⟩
  refine v_condS _ rfl ?_ ?_
  ·intro hc0
   have hlt : i < l.length := by omega
   obtain ⟨⟨x0, x1, x2, x3⟩, hx⟩ : ∃ x : Int × Int × Bool × List ByteArray, l[i]? = some x := ⟨l[i]'(by omega), List.getElem?_eq_getElem (by omega)⟩
   have hlx := hls _ (List.mem_of_getElem? hx)
   simp only [] at hlx
   refine v_skip ?_
   refine n7 _ _ (weak_keep [0, 3, 4] _) ?_
   refine zk ⟨?_⟩
   refine v_seq ?_; intro Q10 n10 e10 r10
   refine v_block ?_; intro Q11 n11 x11 e11 r11
   refine v_region ?_; intro K12 k12
   have F := Fc.mk (And.intro (fun f => getD_map (f := f) hx) (And.intro (fun f z => fill_len (f := f) (z := z) hi1) (And.intro (fun f z => fill_get (f := f) (z := z) hlt) (fun f z => fill_set (f := f) (z := z) hx))))
   refine zMove ⟨?_⟩
   refine zMove ⟨?_⟩
   refine zMove ⟨?_⟩
   refine zMove ⟨?_⟩
   refine v_op ?_; intro K k
   simp only [zE, zL, zN, aStepM, optable, set_some, Nat.reduceEqDiff, reduceIte, Nat.reduceLT, implies_true, forall_const, reduceCtorEq, V.ofValue, V.ofScalar, V.un, V.gd, aExec, aop, List.mem_cons, List.not_mem_nil, or_false, forall_eq_or_imp, forall_eq, aIndexAddr, row_mk, Blk.row, Go.Vm.V.cells, List.forall_mem_map, List.length_map, Int.toNat_natCast, Int.reduceToNat, TypeDesc.slice.injEq, Nat.reduceAdd, Nat.reduceLeDiff, Nat.reduceMul, Tryz.underlying26, Ty.c26, Ty.a26, Tryz.underlying97, Ty.c97, Ty.a97, contentL, Value.oneCell', List.all_cons, List.all_nil, Bool.and_self, getD_map hx, fill_len hi1, fill_get hlt, fill_set hx]
   repeat (refine And.intro (by first | omega | (exact fill_all (fun _ => rfl) rfl) | (intros; omega) | (intros; simp_all; done) | (intros; simp_all; omega)) ?_)
   refine k _ ?_; clear k K
   refine zLoad ⟨?_⟩
   refine zc (toIncident_con x0 x1 x2 x3 hlx) ⟨?_⟩
   refine v_op ?_; intro K k
   simp only [zE, zL, zN, aStepM, optable, set_some, Nat.reduceEqDiff, reduceIte, Nat.reduceLT, implies_true, forall_const, reduceCtorEq, V.ofValue, V.ofScalar, V.un, V.gd, aExec, aop, List.mem_cons, List.not_mem_nil, or_false, forall_eq_or_imp, forall_eq, aIndexAddr, row_mk, Blk.row, Go.Vm.V.cells, List.forall_mem_map, List.length_map, Int.toNat_natCast, Int.reduceToNat, TypeDesc.slice.injEq, Nat.reduceAdd, Nat.reduceLeDiff, Nat.reduceMul, Tryz.underlying40, Ty.c40, Ty.a40, Tryz.underlying69, Ty.c69, Ty.a69, contentL, Value.oneCell', List.all_cons, List.all_nil, Bool.and_self, getD_map hx, fill_len hi1, fill_get hlt, fill_set hx]
   repeat (refine And.intro (by first | omega | (exact fill_all (fun _ => rfl) rfl) | (intros; omega) | (intros; simp_all; done) | (intros; simp_all; omega)) ?_)
   refine k _ ?_; clear k K
   refine v_op ?_; intro K k
   simp only [zE, zS, zJ, zL, zO, zN, aStepM, optable, set_some, Nat.reduceEqDiff, reduceIte, Nat.reduceLT, implies_true, forall_const, reduceCtorEq, V.ofValue, V.ofScalar, V.un, V.gd, aExec, aop, aStore, setCells, V.isVal, V.cells, kindOf, kindAll, V.noSl, V.noRef, gt_iff_lt, Nat.reduceAdd, Nat.reduceLeDiff, Nat.reduceMul, takeV, takeCell, takeCells, row_mk, Blk.row, killAll, Nat.reduceBEq, join_t, Tryz.underlying3, Ty.c3, Ty.a3, Tryz.underlying4, Ty.c4, Ty.a4, Tryz.underlying54, Ty.c54, Ty.a54, Tryz.underlying69, Ty.c69, Ty.a69, contentL, Value.oneCell', getD_map hx, fill_len hi1, fill_get hlt, fill_set hx]
   repeat (refine And.intro (by first | omega | (exact fill_all (fun _ => rfl) rfl) | (intros; omega) | (intros; simp_all; done) | (intros; simp_all; omega)) ?_)
   refine k _ ?_; clear k K
   refine k12 _ ?_
   refine n11 _ ?_
   refine n10 _ _ (weak_keep [0, 3, 4] _) ?_
   refine zk ⟨?_⟩
   refine v_region ?_; intro K13 k13
   refine zMove ⟨?_⟩
   refine zBinOpW ⟨?_⟩
   refine zAssign ⟨?_⟩
   refine k13 _ ?_
   refine n6 _ (i + 1) ?_ ?_ ?_
   ·refine weak_bothS [0, 3, 4] [0] ⟨?_⟩
    rfl
   ·exact hlt
   ·show _ < _; omega
  ·intro hc0
   refine v_exit ?_
   refine e7 _ _ ?_
   refine e6 _ _ ?_
   refine x5 _ ?_
   refine n3 _ _ (weak_keep [3] _) ?_
   refine zk ⟨?_⟩
   refine v_seqR [2] ?_; intro K14 k14
   refine zMove ⟨?_⟩
   refine zAssign ⟨?_⟩
   refine k14 _ ?_
   refine zk ⟨?_⟩
   refine v_ret ?_
   refine r0 _ ?_
   refine zf ⟨?_⟩
   have hend : l.length = i := by omega
   rw [← fill_end (f := (fun t : Int × Int × Bool × List ByteArray => V.agg [V.int .i64 t.1, V.int .i64 t.2.1, V.bool t.2.2.1, V.sl (t.2.2.2.map V.str)])) (z := (V.agg [V.int .i64 0, V.int .i64 0, V.bool false, V.sl []])) (show l.length ≤ i by omega), hend]
   exact ret_ref rfl (fillK_or _)
set_option maxHeartbeats 1000000 in
theorem eqIncident_con (x0 : Int) (x1 : Int) (x2 : Bool) (x3 : List ByteArray) (y0 : Int) (y1 : Int) (y2 : Bool) (y3 : List ByteArray) (hlx : x3.length ≤ 1048576) : Con Tryz.prog 89 [.agg [V.int .i64 x0, V.int .i64 x1, V.bool x2, V.sl (x3.map V.str)], .agg [V.int .i64 y0, V.int .i64 y1, V.bool y2, V.sl (y3.map V.str)]] [] (.bool (decide ((x0, x1, x2, x3) = (y0, y1, y2, y3)))) [] := by
 refine v_con [.tmp 4] [] Tryz.func89 rfl rfl rfl (by simp [Tryz.ntmps89]) ?_
 intro Q0 n0 r0
 simp only [Tryz.ntmps89, envFrom, Nat.reduceAdd]
 have T := Tys.mk (And.intro Ty.t3 (And.intro Ty.t4 (And.intro Ty.t9 (And.intro Ty.t54 Ty.t69))))
 have F := Fc.mk True.intro
 refine v_seqR [2,3] ?_; intro K1 k1
 refine zBox ⟨?_⟩
 refine zBox ⟨?_⟩
 refine zAssign ⟨?_⟩
 refine k1 _ ?_
 refine zk ⟨?_⟩
 refine v_seq ?_; intro Q2 n2 e2 r2
 refine v_seqR [2,3,9] ?_; intro K3 k3
 refine zFieldAddr ⟨?_⟩
 refine zLoad ⟨?_⟩
 refine zFieldAddr ⟨?_⟩
 refine zLoad ⟨?_⟩
 refine zBinOp ⟨?_⟩
 refine k3 _ ?_
 refine zk ⟨?_⟩
 refine v_condS _ rfl ?_ ?_
 ·intro hc0
  refine v_seqR [4] ?_; intro K5 k5
  refine zAssign ⟨?_⟩
  refine k5 _ ?_
  refine zk ⟨?_⟩
  refine v_ret ?_
  refine r2 _ ?_
  refine r0 _ ?_
  refine zf ⟨?_⟩
  exact ret_pure rfl (by rw [decide_eq_false (by intro h; simp only [Prod.mk.injEq] at h; exact hc0 h.1)]) (.inl rfl)
 ·intro hc0
  refine v_skip ?_
  refine n2 _ _ (weak_keep [2, 3] _) ?_
  refine zk ⟨?_⟩
  refine v_seq ?_; intro Q6 n6 e6 r6
  refine v_seqR [2,3,14] ?_; intro K7 k7
  refine zFieldAddr ⟨?_⟩
  refine zLoad ⟨?_⟩
  refine zFieldAddr ⟨?_⟩
  refine zLoad ⟨?_⟩
  refine zBinOp ⟨?_⟩
  refine k7 _ ?_
  refine zk ⟨?_⟩
  refine v_condS _ rfl ?_ ?_
  ·intro hc1
   refine v_seqR [4] ?_; intro K9 k9
   refine zAssign ⟨?_⟩
   refine k9 _ ?_
   refine zk ⟨?_⟩
   refine v_ret ?_
   refine r6 _ ?_
   refine r0 _ ?_
   refine zf ⟨?_⟩
   exact ret_pure rfl (by rw [decide_eq_false (by intro h; simp only [Prod.mk.injEq] at h; exact hc1 h.2.1)]) (.inl rfl)
  ·intro hc1
   refine v_skip ?_
   refine n6 _ _ (weak_keep [2, 3] _) ?_
   refine zk ⟨?_⟩
   refine v_seq ?_; intro Q10 n10 e10 r10
   refine v_seqR [2,3,19] ?_; intro K11 k11
   refine zFieldAddr ⟨?_⟩
   refine zLoad ⟨?_⟩
   refine zFieldAddr ⟨?_⟩
   refine zLoad ⟨?_⟩
   refine zBinOp ⟨?_⟩
   refine k11 _ ?_
   refine zk ⟨?_⟩
   refine v_condS _ rfl ?_ ?_
   ·intro hc2
    refine v_seqR [4] ?_; intro K13 k13
    refine zAssign ⟨?_⟩
    refine k13 _ ?_
    refine zk ⟨?_⟩
    refine v_ret ?_
    refine r10 _ ?_
    refine r0 _ ?_
    refine zf ⟨?_⟩
    exact ret_pure rfl (by rw [decide_eq_false (by intro h; simp only [Prod.mk.injEq] at h; have hb := h.2.2.1; rw [hb] at hc2; simp at hc2)]) (.inl rfl)
   ·intro hc2
    refine v_skip ?_
    refine n10 _ _ (weak_keep [2, 3] _) ?_
    refine zk ⟨?_⟩
    refine v_seq ?_; intro Q14 n14 e14 r14
    refine v_seqR [25] ?_; intro K15 k15
    refine zFieldAddr ⟨?_⟩
    refine zLoad ⟨?_⟩
    refine zFieldAddr ⟨?_⟩
    refine zLoad ⟨?_⟩
    refine zc (eqStringS_con x3 y3 hlx) ⟨?_⟩
    refine zUnOp ⟨?_⟩
    refine k15 _ ?_
    refine zk ⟨?_⟩
    refine v_condS _ rfl ?_ ?_
    ·intro hc3
     refine v_seqR [4] ?_; intro K17 k17
     refine zAssign ⟨?_⟩
     refine k17 _ ?_
     refine zk ⟨?_⟩
     refine v_ret ?_
     refine r14 _ ?_
     refine r0 _ ?_
     refine zf ⟨?_⟩
     exact ret_pure rfl (by rw [decide_eq_false (by intro h; simp only [Prod.mk.injEq] at h; (try simp at hc3); exact hc3 h.2.2.2)]) (.inl rfl)
    ·intro hc3
     refine v_skip ?_
     refine n14 _ _ (weak_keep [] _) ?_
     refine zk ⟨?_⟩
     refine v_seqR [4] ?_; intro K18 k18
     refine zAssign ⟨?_⟩
     refine k18 _ ?_
     refine zk ⟨?_⟩
     refine v_ret ?_
     refine r0 _ ?_
     refine zf ⟨?_⟩
     exact ret_pure rfl (by rw [decide_eq_true (by (try simp at hc3); rw [hc0, hc1, (eq_of_beq hc2 : x2 = y2), hc3])]) (.inl rfl)
set_option maxHeartbeats 1000000 in
theorem eqIncidentS_con (a b : List (Int × Int × Bool × List ByteArray)) (ha : a.length ≤ 1048576) (has : ∀ t ∈ a, t.2.2.2.length ≤ 1048576) : Con Tryz.prog 47 [.sl (a.map (fun t : Int × Int × Bool × List ByteArray => V.agg [V.int .i64 t.1, V.int .i64 t.2.1, V.bool t.2.2.1, V.sl (t.2.2.2.map V.str)])), .sl (b.map (fun t : Int × Int × Bool × List ByteArray => V.agg [V.int .i64 t.1, V.int .i64 t.2.1, V.bool t.2.2.1, V.sl (t.2.2.2.map V.str)]))] [] (.bool (decide (a = b))) [] := by
 refine v_con [.tmp 4] [] Tryz.func47 rfl rfl rfl (by simp [Tryz.ntmps47]) ?_
 intro Q0 n0 r0
 simp only [Tryz.ntmps47, envFrom, Nat.reduceAdd]
 have T := Tys.mk (And.intro Ty.t3 (And.intro Ty.t4 (And.intro Ty.t9 (And.intro Ty.t40 (And.intro Ty.t54 Ty.t69)))))
 have F := Fc.mk True.intro
 refine v_seqR [0,1] ?_; intro K1 k1
 refine zAssign ⟨?_⟩
 refine k1 _ ?_
 refine zk ⟨?_⟩
 refine v_seq ?_; intro Q2 n2 e2 r2
 refine v_seqR [0,1,10] ?_; intro K3 k3
 refine zMove ⟨?_⟩
 refine zLen ⟨?_⟩
 refine zMove ⟨?_⟩
 refine zLen ⟨?_⟩
 refine zBinOp ⟨?_⟩
 refine k3 _ ?_
 refine zk ⟨?_⟩
 refine v_condS _ rfl ?_ ?_
 ·intro hc0
  refine v_seqR [4] ?_; intro K5 k5
  refine zAssign ⟨?_⟩
  refine k5 _ ?_
  refine zk ⟨?_⟩
  refine v_ret ?_
  refine r2 _ ?_
  refine r0 _ ?_
  refine zf ⟨?_⟩
  exact ret_pure rfl (by rw [decide_eq_false (fun h => by subst h; simp at hc0)]) (.inl rfl)
 ·intro hc0
  have hab : a.length = b.length := by omega
  refine v_skip ?_
  refine n2 _ _ (weak_keep [0, 1] _) ?_
  refine zk ⟨?_⟩
  refine v_seq ?_; intro Q6 n6 e6 r6
  refine v_seqR [0,1,5] ?_; intro K7 k7
  refine zAssign ⟨?_⟩
  refine k7 _ ?_
  refine zk ⟨?_⟩
  refine v_block ?_; intro Q8 n8 x8 e8 r8
  refine v_loop (fun i => ⟨[(0, .sl (a.map (fun t : Int × Int × Bool × List ByteArray => V.agg [V.int .i64 t.1, V.int .i64 t.2.1, V.bool t.2.2.1, V.sl (t.2.2.2.map V.str)]))), (1, .sl (b.map (fun t : Int × Int × Bool × List ByteArray => V.agg [V.int .i64 t.1, V.int .i64 t.2.1, V.bool t.2.2.1, V.sl (t.2.2.2.map V.str)]))), (5, .int .i64 (Nat.cast i))], [], false, 27, 0⟩) (fun i => i ≤ a.length ∧ ((a = b) ↔ (a.drop i = b.drop i))) (fun i => a.length - i) 0 ?_ ?_ ?_
  ·refine weak_of [0, 1, 5] ?_
   simp only [keep_mk, keepE_nil, keepE_cons, look_cons, look_nil, Nat.reduceEqDiff, reduceIte]
   rfl
  ·exact ⟨Nat.zero_le _, by simp⟩
  ·rintro i hok9 Q9 n9 e9 r9
   obtain ⟨hi1, hR⟩ := hok9
   refine v_seq ?_; intro Q10 n10 e10 r10
   refine v_seqR [0,1,5,14] ?_; intro K11 k11
   refine zMove ⟨?_⟩
   refine zMove ⟨?_⟩
   refine zLen ⟨?_⟩
   refine zBinOp ⟨?_⟩
   refine k11 _ ?_
   refine zk ⟨?_⟩
   refine v_condS _ rfl ?_ ?_
   ·intro hc1
    have hlt : i < a.length := by omega
    obtain ⟨⟨x0, x1, x2, x3⟩, hx⟩ : ∃ x : Int × Int × Bool × List ByteArray, a[i]? = some x := ⟨a[i]'(by omega), List.getElem?_eq_getElem (by omega)⟩
    obtain ⟨⟨y0, y1, y2, y3⟩, hy⟩ : ∃ x : Int × Int × Bool × List ByteArray, b[i]? = some x := ⟨b[i]'(by omega), List.getElem?_eq_getElem (by omega)⟩
    have hstep := eq_drop hab hx hy
    have hlx := has _ (List.mem_of_getElem? hx)
    simp only [] at hlx
    refine v_skip ?_
    refine n10 _ _ (weak_keep [0, 1, 5] _) ?_
    refine zk ⟨?_⟩
    refine v_seq ?_; intro Q13 n13 e13 r13
    refine v_block ?_; intro Q14 n14 x14 e14 r14
    refine v_seq ?_; intro Q15 n15 e15 r15
    refine v_draw (by kernel_rfl) ?_; intro K16 q16 k16
    show aAny _ _ _ _ 10 (Array.replicate 10 false) _
    have F := Fc.mk (And.intro (fun f => getD_map (f := f) hx) (fun f => getD_map (f := f) hy))
    refine zdMove q16 true 0 17 ?_
    refine zdMove q16 true 1 18 ?_
    refine zdIndexAddr q16 true 2 19 ?_
    refine zdLoad q16 true 3 20 ?_
    refine zdMove q16 true 4 21 ?_
    refine zdMove q16 true 5 22 ?_
    refine zdIndexAddr q16 true 6 23 ?_
    refine zdLoad q16 true 7 24 ?_
    refine zoc 8 (eqIncident_con x0 x1 x2 x3 y0 y1 y2 y3 hlx) ⟨?_⟩
    refine zdUnOp q16 true 9 26 ?_
    refine aAny_done (by kernel_rfl) ?_
    refine k16 _ ?_
    refine n15 _ _ (weak_keep [0, 1, 5, 26] _) ?_
    refine zk ⟨?_⟩
    refine v_condS _ rfl ?_ ?_
    ·intro hc2
     refine v_seqR [4] ?_; intro K18 k18
     refine zAssign ⟨?_⟩
     refine k18 _ ?_
     refine zk ⟨?_⟩
     refine v_ret ?_
     refine r14 _ ?_
     refine r13 _ ?_
     refine r9 _ ?_
     refine r8 _ ?_
     refine r6 _ ?_
     refine r0 _ ?_
     refine zf ⟨?_⟩
     exact ret_pure rfl (by rw [decide_eq_false (fun h => hc2 (hstep.1 (hR.1 h)).1)]) (.inl rfl)
    ·intro hc2
     refine v_skip ?_
     refine n14 _ ?_
     refine n13 _ _ (weak_keep [0, 1, 5] _) ?_
     refine zk ⟨?_⟩
     refine v_region ?_; intro K19 k19
     refine zMove ⟨?_⟩
     refine zBinOpW ⟨?_⟩
     refine zAssign ⟨?_⟩
     refine k19 _ ?_
     refine n9 _ (i + 1) ?_ ?_ ?_
     ·refine weak_of [0, 1, 5] ?_
      simp only [keep_mk, keepE_nil, keepE_cons, look_cons, look_nil, Nat.reduceEqDiff, reduceIte]
      rfl
     ·exact ⟨by omega, hR.trans (hstep.trans ⟨fun h => h.2, fun h => ⟨hc2, h⟩⟩)⟩
     ·show _ < _; omega
   ·intro hc1
    refine v_exit ?_
    refine e10 _ _ ?_
    refine e9 _ _ ?_
    refine x8 _ ?_
    refine n6 _ _ (weak_keep [] _) ?_
    refine zk ⟨?_⟩
    refine v_seqR [4] ?_; intro K20 k20
    refine zAssign ⟨?_⟩
    refine k20 _ ?_
    refine zk ⟨?_⟩
    refine v_ret ?_
    refine r0 _ ?_
    refine zf ⟨?_⟩
    exact ret_pure rfl (by rw [decide_eq_true (hR.2 (by rw [List.drop_of_length_le (by omega), List.drop_of_length_le (by omega)]))]) (.inl rfl)
end Go.Proofs.YtdgenniiidgimaaGreat
