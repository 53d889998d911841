/- What functions compute. No condition. -/
import Derived.Test.YtbameklegpgkfaaDoorUty
import Derived.Test.YtbameklegpgkfaaDoorUmG
import Derived.Test.YtbameklegpgkfaaDoorX4
import Derived.Test.YtbameklegpgkfaaDoorX5
import Derived.Test.YtbameklegpgkfaaDoorX1
set_option linter.unusedSimpArgs false
set_option linter.unusedVariables false
set_option linter.defProp false
namespace Go.Proofs.YtbameklegpgkfaaDoor
open Go Go.Vm

def spreadV (d : List (List Int)) (n : Int) : Int := match shiftsOf d n with
  | [] => 0
  | x :: l => IntKind.i64.wrap (mostL l x - leastL l x)
theorem shifts_cons {d : List (List Int)} {n : Int} (h : 1 ≤ n) : ∃ x l, shiftsOf d n = x :: l := by
  have := shiftsOf_len d n
  cases hs : shiftsOf d n with
  | nil => rw [hs] at this; simp at this; omega
  | cons x l => exact ⟨x, l, rfl⟩

set_option maxHeartbeats 1000000 in
theorem implSpread_con (d : List (List Int)) (n : Int) (hd : d.length ≤ 1048576) (hds : ∀ l ∈ d, l.length ≤ 1048576) : Con Tryd.prog 16 [.sl (d.map fun l => V.sl (l.map (V.int .i64))), .int .i64 n] [] (.tup [.int .i64 (if rosterB d n then spreadV d n else 0), .bool (rosterB d n)]) [] := by
 refine v_con [.tmp 4, .tmp 5] [] Tryd.func16 rfl rfl rfl (by simp [Tryd.ntmps16]) ?_
 intro Q0 n0 r0
 simp only [Tryd.ntmps16, envFrom, Nat.reduceAdd]
 have T := Tys.mk (And.intro Ty.t3 (And.intro Ty.t4 (And.intro Ty.t23 Ty.t36)))
 have F := Fc.mk True.intro
 refine v_seqR [0,1] ?_; intro K1 k1
 refine zAssign ⟨?_⟩
 refine zAssign ⟨?_⟩
 refine k1 _ ?_
 refine zk ⟨?_⟩
 refine v_seq ?_; intro Q2 n2 e2 r2
 refine v_seqR [0,1,10] ?_; intro K3 k3
 refine zMove ⟨?_⟩
 refine zMove ⟨?_⟩
 refine zc (isRoster_con d n hd hds) ⟨?_⟩
 refine zUnOp ⟨?_⟩
 refine k3 _ ?_
 refine zk ⟨?_⟩
 refine v_condS _ rfl ?_ ?_
 ·intro hc0
  refine v_seqR [4,5] ?_; intro K5 k5
  refine zAssign ⟨?_⟩
  refine zAssign ⟨?_⟩
  refine k5 _ ?_
  refine zk ⟨?_⟩
  refine v_ret ?_
  refine r2 _ ?_
  refine r0 _ ?_
  refine zf ⟨?_⟩
  rw [if_neg (by rw [hc0]; simp), hc0]
  exact ret_pure rfl rfl (.inl rfl)
 ·intro hc0
  have hro := roster_in hc0
  obtain ⟨x, l, hs⟩ := shifts_cons (d := d) hro.1
  have hsv : spreadV d n = IntKind.i64.wrap (mostL l x - leastL l x) := by rw [spreadV, hs]
  have hlen : (x :: l).length ≤ 1048576 := by have := shiftsOf_len d n; rw [hs] at this; rw [this]; omega
  refine v_skip ?_
  refine n2 _ _ (weak_keep [0, 1] _) ?_
  refine zk ⟨?_⟩
  refine v_seqR [6] ?_; intro K6 k6
  refine zMove ⟨?_⟩
  refine zMove ⟨?_⟩
  refine zc ((hs ▸ shiftsOf_con d n hd hds hro.1 hro.2.1 hro.2.2 : Con _ _ _ _ _ [.arr ((x :: l).map (V.int .i64)) .flat])) ⟨?_⟩
  refine zAssign ⟨?_⟩
  refine k6 _ ?_
  refine zk ⟨?_⟩
  refine v_seqR [4,5] ?_; intro K7 k7
  refine zMove ⟨?_⟩
  refine zc (slMax_con x l hlen) ⟨?_⟩
  refine zMove ⟨?_⟩
  refine zc (slMin_con x l hlen) ⟨?_⟩
  refine zBinOpW ⟨?_⟩
  refine zAssign ⟨?_⟩
  refine zAssign ⟨?_⟩
  refine k7 _ ?_
  refine zk ⟨?_⟩
  refine v_ret ?_
  refine r0 _ ?_
  refine zf ⟨?_⟩
  rw [if_pos hc0, hc0, hsv]
  exact ret_pure rfl rfl (.inl rfl)
set_option maxHeartbeats 1000000 in
theorem specSpread_con (d : List (List Int)) (n : Int) (hd : d.length ≤ 1048576) (hds : ∀ l ∈ d, l.length ≤ 1048576) : Con Tryd.prog 17 [.sl (d.map fun l => V.sl (l.map (V.int .i64))), .int .i64 n] [] (.tup [.int .i64 (if rosterB d n then spreadV d n else 0), .bool (rosterB d n)]) [] := by
 refine v_con [.tmp 4, .tmp 5] [] Tryd.func17 rfl rfl rfl (by simp [Tryd.ntmps17]) ?_
 intro Q0 n0 r0
 simp only [Tryd.ntmps17, envFrom, Nat.reduceAdd]
 have T := Tys.mk (And.intro Ty.t3 (And.intro Ty.t4 (And.intro Ty.t23 Ty.t36)))
 have F := Fc.mk True.intro
 refine v_seqR [0,1] ?_; intro K1 k1
 refine zAssign ⟨?_⟩
 refine zAssign ⟨?_⟩
 refine k1 _ ?_
 refine zk ⟨?_⟩
 refine v_seq ?_; intro Q2 n2 e2 r2
 refine v_seqR [0,1,14] ?_; intro K3 k3
 refine zMove ⟨?_⟩
 refine zMove ⟨?_⟩
 refine zc (duRoster_con d n hd hds) ⟨?_⟩
 refine zUnOp ⟨?_⟩
 refine k3 _ ?_
 refine zk ⟨?_⟩
 refine v_condS _ rfl ?_ ?_
 ·intro hc0
  refine v_seqR [4,5] ?_; intro K5 k5
  refine zAssign ⟨?_⟩
  refine zAssign ⟨?_⟩
  refine k5 _ ?_
  refine zk ⟨?_⟩
  refine v_ret ?_
  refine r2 _ ?_
  refine r0 _ ?_
  refine zf ⟨?_⟩
  rw [if_neg (by rw [hc0]; simp), hc0]
  exact ret_pure rfl rfl (.inl rfl)
 ·intro hc0
  have hro := roster_in hc0
  obtain ⟨x, l, hs⟩ := shifts_cons (d := d) hro.1
  have hsv : spreadV d n = IntKind.i64.wrap (mostL l x - leastL l x) := by rw [spreadV, hs]
  have hlen : (x :: l).length ≤ 1048576 := by have := shiftsOf_len d n; rw [hs] at this; rw [this]; omega
  obtain ⟨xl, hxl⟩ : ∃ xl, xl = x :: l := ⟨_, rfl⟩
  rw [← hxl] at hs hlen
  have h0 : xl[0]? = some x := by rw [hxl]; rfl
  have hm : mostL (xl.drop 0) x = mostL l x := by rw [hxl]; exact most_cons x l
  have hle : leastL (xl.drop 0) x = leastL l x := by rw [hxl]; exact least_cons x l
  have hpos : 0 < xl.length := by rw [hxl]; simp
  refine v_skip ?_
  refine n2 _ _ (weak_keep [0, 1] _) ?_
  refine zk ⟨?_⟩
  refine v_seqR [6] ?_; intro K6 k6
  have F := Fc.mk (fun f => getD_map (f := f) h0)
  refine zMove ⟨?_⟩
  refine zMove ⟨?_⟩
  refine zc ((hs ▸ duShifts_con d n hd hds hro.1 hro.2.1 hro.2.2 : Con _ _ _ _ _ [.arr (xl.map (V.int .i64)) .flat])) ⟨?_⟩
  refine zAssign ⟨?_⟩
  refine k6 _ ?_
  refine zk ⟨?_⟩
  refine v_seq ?_; intro Q7 n7 e7 r7
  refine v_draw (by kernel_rfl) ?_; intro K8 q8 k8
  show aAny _ _ _ _ 8 (Array.replicate 8 false) _
  refine zdMove q8 true 0 18 ?_
  refine zdIndexAddr q8 true 1 19 ?_
  refine zdLoad q8 true 2 20 ?_
  refine zdMove q8 true 3 21 ?_
  refine zdIndexAddr q8 true 4 22 ?_
  refine zdLoad q8 true 5 23 ?_
  refine zoAssign 6 ⟨?_⟩
  refine zoAssign 7 ⟨?_⟩
  refine aAny_done (by kernel_rfl) ?_
  refine k8 _ ?_
  refine n7 _ _ (weak_keep [6, 7, 8] _) ?_
  refine zk ⟨?_⟩
  refine v_seq ?_; intro Q9 n9 e9 r9
  refine v_seqR [7,8,24,25,26] ?_; intro K10 k10
  refine zMove ⟨?_⟩
  refine zLen ⟨?_⟩
  refine zMove ⟨?_⟩
  refine k10 _ ?_
  refine zk ⟨?_⟩
  refine v_block ?_; intro Q11 n11 x11 e11 r11
  refine v_loop (fun p => ⟨[(7, .int .i64 p.2.1), (8, .int .i64 p.2.2), (24, .ref 0), (25, .int .i64 xl.length), (26, .int .i64 (Nat.cast p.1))], [.arr (xl.map (V.int .i64)) .flat], false, 40, 0⟩) (fun p => p.1 ≤ xl.length ∧ leastL (xl.drop p.1) p.2.1 = leastL (xl.drop 0) x ∧ mostL (xl.drop p.1) p.2.2 = mostL (xl.drop 0) x) (fun p => xl.length - p.1) ((0, x, x) : Nat × Int × Int) ?_ ?_ ?_
  ·refine weak_bothS [7, 8, 24, 25, 26] [0] ⟨?_⟩
   rfl
  ·exact ⟨Nat.zero_le _, rfl, rfl⟩
  ·rintro p hok12 Q12 n12 e12 r12
   obtain ⟨hi1, hR1, hR2⟩ := hok12
   refine v_seqR [7,8,24,25,26,27] ?_; intro K13 k13
   refine zBinOp ⟨?_⟩
   refine k13 _ ?_
   refine zk ⟨?_⟩
   refine v_seq ?_; intro Q14 n14 e14 r14
   refine v_condS _ rfl ?_ ?_
   ·intro hc1
    have hlt : p.1 < xl.length := by omega
    obtain ⟨y, hy⟩ : ∃ y, xl[p.1]? = some y := ⟨xl[p.1], List.getElem?_eq_getElem hlt⟩
    refine v_skip ?_
    refine n14 _ _ (weak_keep [7, 8, 24, 25, 26] _) ?_
    refine zk ⟨?_⟩
    refine v_seq ?_; intro Q16 n16 e16 r16
    refine v_block ?_; intro Q17 n17 x17 e17 r17
    refine v_seqR [7,8,10,24,25,26] ?_; intro K18 k18
    have F := Fc.mk (And.intro (fun f => getD_map (f := f) h0) (fun f => getD_map (f := f) hy))
    refine zIndexAddr ⟨?_⟩
    refine zLoad ⟨?_⟩
    refine zAssign ⟨?_⟩
    refine k18 _ ?_
    refine zk ⟨?_⟩
    refine v_seqR [7,8,10,24,25,26] ?_; intro K19 k19
    refine zMove ⟨?_⟩
    refine zMove ⟨?_⟩
    refine zc (l1Least_con p.2.1 y) ⟨?_⟩
    refine zAssign ⟨?_⟩
    refine k19 _ ?_
    refine zk ⟨?_⟩
    refine v_region ?_; intro K20 k20
    refine zMove ⟨?_⟩
    refine zMove ⟨?_⟩
    refine zc (l1Most_con p.2.2 y) ⟨?_⟩
    refine zAssign ⟨?_⟩
    refine k20 _ ?_
    refine n17 _ ?_
    refine n16 _ _ (weak_keep [7, 8, 24, 25, 26] _) ?_
    refine zk ⟨?_⟩
    refine v_region ?_; intro K21 k21
    refine zBinOpW ⟨?_⟩
    refine zMove ⟨?_⟩
    refine k21 _ ?_
    refine n12 _ (p.1 + 1, (if y < p.2.1 then y else p.2.1), (if y > p.2.2 then y else p.2.2)) ?_ ?_ ?_
    ·refine weak_bothS [7, 8, 24, 25, 26] [0] ⟨?_⟩
     rfl
    ·exact ⟨by show p.1 + 1 ≤ _; omega, by show leastL (xl.drop (p.1 + 1)) _ = _; rw [← hR1, least_step hy], by show mostL (xl.drop (p.1 + 1)) _ = _; rw [← hR2, most_step hy]⟩
    ·show _ < _; show xl.length - (p.1 + 1) < _; omega
   ·intro hc1
    refine v_exit ?_
    refine e14 _ _ ?_
    refine e12 _ _ ?_
    refine x11 _ ?_
    refine n9 _ _ (weak_keep [7, 8] _) ?_
    refine zk ⟨?_⟩
    refine v_seqR [4,5] ?_; intro K22 k22
    refine zMove ⟨?_⟩
    refine zMove ⟨?_⟩
    refine zBinOpW ⟨?_⟩
    refine zAssign ⟨?_⟩
    refine zAssign ⟨?_⟩
    refine k22 _ ?_
    refine zk ⟨?_⟩
    refine v_ret ?_
    refine r0 _ ?_
    refine zf ⟨?_⟩
    rw [if_pos hc0, hc0, hsv, ← hm, ← hle, ← hR1, ← hR2, most_end (by omega), least_end (by omega)]
    exact ret_pure rfl rfl (.inl rfl)
def idxFrom (x : Int) : Nat → List Int → Int
  | _, [] => -1
  | i, y :: l => if x = y then i else idxFrom x (i + 1) l
theorem idx_step {x y : Int} {l : List Int} {i : Nat} (h : l[i]? = some y) : idxFrom x i (l.drop i) = if x = y then (i : Int) else idxFrom x (i + 1) (l.drop (i + 1)) := by
  rw [getElem_drop_cons h, idxFrom]
theorem idx_end {x : Int} {l : List Int} {i k : Nat} (h : l.length ≤ i) : idxFrom x k (l.drop i) = -1 := by
  rw [List.drop_of_length_le h, idxFrom]
theorem idx_mem (x : Int) : ∀ (l : List Int) (i : Nat), (0 ≤ idxFrom x i l) ↔ x ∈ l
  | [], i => by simp [idxFrom]
  | y :: l, i => by
    rw [idxFrom, List.mem_cons]
    split
    · rename_i h; simp [h]
    · rename_i h; rw [idx_mem x l (i + 1)]; simp [h]
theorem any_drop {α : Type} {f : α → Bool} {l : List α} {i : Nat} {x : α} (h : l[i]? = some x) : (l.drop i).any f = (f x || (l.drop (i + 1)).any f) := by
  rw [getElem_drop_cons h, List.any_cons]
theorem any_end {α : Type} {f : α → Bool} {l : List α} {i : Nat} (h : l.length ≤ i) : (l.drop i).any f = false := by
  rw [List.drop_of_length_le h]; rfl
theorem find_step {α : Type} {p : α → Bool} {l : List α} {i : Nat} {x : α} (h : l[i]? = some x) : (l.drop i).find? p = if p x then some x else (l.drop (i + 1)).find? p := by
  rw [getElem_drop_cons h, List.find?_cons]
  cases p x <;> rfl
theorem find_end {α : Type} {p : α → Bool} {l : List α} {i : Nat} (h : l.length ≤ i) : (l.drop i).find? p = none := by
  rw [List.drop_of_length_le h]; rfl

set_option maxHeartbeats 1000000 in
theorem slIndex_con (l : List Int) (x : Int) (hl : l.length ≤ 1048576) : Con Tryd.prog 82 [.sl (l.map (V.int .i64)), .int .i64 x] [] (.int .i64 (idxFrom x 0 l)) [] := by
 refine v_con [.tmp 4] [] Tryd.func82 rfl rfl rfl (by simp [Tryd.ntmps82]) ?_
 intro Q0 n0 r0
 simp only [Tryd.ntmps82, envFrom, Nat.reduceAdd]
 have T := Tys.mk (And.intro Ty.t3 Ty.t36)
 have F := Fc.mk True.intro
 refine v_seqR [0,1] ?_; intro K1 k1
 refine zAssign ⟨?_⟩
 refine k1 _ ?_
 refine zk ⟨?_⟩
 refine v_seq ?_; intro Q2 n2 e2 r2
 refine v_seqR [0,1,7,8] ?_; intro K3 k3
 refine zMove ⟨?_⟩
 refine zLen ⟨?_⟩
 refine zMove ⟨?_⟩
 refine k3 _ ?_
 refine zk ⟨?_⟩
 refine v_block ?_; intro Q4 n4 x4 e4 r4
 refine v_loop (fun i => ⟨[(0, .sl (l.map (V.int .i64))), (1, .int .i64 x), (7, .int .i64 l.length), (8, .int .i64 (Nat.cast i))], [], false, 19, 0⟩) (fun i => i ≤ l.length ∧ idxFrom x i (l.drop i) = idxFrom x 0 l) (fun i => l.length - i) 0 ?_ ?_ ?_
 ·refine weak_of [0, 1, 7, 8] ?_
  simp only [keep_mk, keepE_nil, keepE_cons, look_cons, look_nil, Nat.reduceEqDiff, reduceIte]
  rfl
 ·exact ⟨Nat.zero_le _, rfl⟩
 ·rintro i hok5 Q5 n5 e5 r5
  obtain ⟨hi1, hR⟩ := hok5
  refine v_seqR [0,1,7,8,9] ?_; intro K6 k6
  refine zBinOp ⟨?_⟩
  refine k6 _ ?_
  refine zk ⟨?_⟩
  refine v_seq ?_; intro Q7 n7 e7 r7
  refine v_condS _ rfl ?_ ?_
  ·intro hc0
   have hlt : i < l.length := by omega
   obtain ⟨y, hy⟩ : ∃ y, l[i]? = some y := ⟨l[i], List.getElem?_eq_getElem hlt⟩
   have hst := idx_step (x := x) hy
   refine v_skip ?_
   refine n7 _ _ (weak_keep [0, 1, 7, 8] _) ?_
   refine zk ⟨?_⟩
   refine v_seq ?_; intro Q9 n9 e9 r9
   refine v_block ?_; intro Q10 n10 x10 e10 r10
   refine v_seqR [0,1,5,7,8] ?_; intro K11 k11
   have F := Fc.mk (fun f => getD_map (f := f) hy)
   refine zMove ⟨?_⟩
   refine zAssign ⟨?_⟩
   refine k11 _ ?_
   refine zk ⟨?_⟩
   refine v_seqR [0,1,5,7,8,16] ?_; intro K12 k12
   refine zMove ⟨?_⟩
   refine zMove ⟨?_⟩
   refine zMove ⟨?_⟩
   refine zIndexAddr ⟨?_⟩
   refine zLoad ⟨?_⟩
   refine zBinOp ⟨?_⟩
   refine k12 _ ?_
   refine zk ⟨?_⟩
   refine v_condS _ rfl ?_ ?_
   ·intro hc1
    refine v_seqR [4] ?_; intro K14 k14
    refine zMove ⟨?_⟩
    refine zAssign ⟨?_⟩
    refine k14 _ ?_
    refine zk ⟨?_⟩
    refine v_ret ?_
    refine r10 _ ?_
    refine r9 _ ?_
    refine r5 _ ?_
    refine r4 _ ?_
    refine r2 _ ?_
    refine r0 _ ?_
    refine zf ⟨?_⟩
    exact ret_pure rfl (by rw [← hR, hst, if_pos hc1]) (.inl rfl)
   ·intro hc1
    refine v_skip ?_
    refine n10 _ ?_
    refine n9 _ _ (weak_keep [0, 1, 7, 8] _) ?_
    refine zk ⟨?_⟩
    refine v_region ?_; intro K15 k15
    refine zBinOpW ⟨?_⟩
    refine zMove ⟨?_⟩
    refine k15 _ ?_
    refine n5 _ (i + 1) ?_ ?_ ?_
    ·refine weak_of [0, 1, 7, 8] ?_
     simp only [keep_mk, keepE_nil, keepE_cons, look_cons, look_nil, Nat.reduceEqDiff, reduceIte]
     rfl
    ·exact ⟨by omega, by rw [← hR, hst, if_neg hc1]⟩
    ·show _ < _; omega
  ·intro hc0
   refine v_exit ?_
   refine e7 _ _ ?_
   refine e5 _ _ ?_
   refine x4 _ ?_
   refine n2 _ _ (weak_keep [] _) ?_
   refine zk ⟨?_⟩
   refine v_seqR [4] ?_; intro K16 k16
   refine zAssign ⟨?_⟩
   refine k16 _ ?_
   refine zk ⟨?_⟩
   refine v_ret ?_
   refine r0 _ ?_
   refine zf ⟨?_⟩
   exact ret_pure rfl (by rw [← hR, idx_end (by omega)]) (.inl rfl)
set_option maxHeartbeats 1000000 in
theorem slContains_con (l : List Int) (x : Int) (hl : l.length ≤ 1048576) : Con Tryd.prog 80 [.sl (l.map (V.int .i64)), .int .i64 x] [] (.bool (decide (x ∈ l))) [] := by
 refine v_con [.tmp 4] [] Tryd.func80 rfl rfl rfl (by simp [Tryd.ntmps80]) ?_
 intro Q0 n0 r0
 simp only [Tryd.ntmps80, envFrom, Nat.reduceAdd]
 have T := Tys.mk (And.intro Ty.t3 Ty.t36)
 have F := Fc.mk True.intro
 refine v_seqR [0,1] ?_; intro K1 k1
 refine zAssign ⟨?_⟩
 refine k1 _ ?_
 refine zk ⟨?_⟩
 refine v_seqR [4] ?_; intro K2 k2
 refine zMove ⟨?_⟩
 refine zMove ⟨?_⟩
 refine zc (slIndex_con l x hl) ⟨?_⟩
 refine zBinOp ⟨?_⟩
 refine zAssign ⟨?_⟩
 refine k2 _ ?_
 refine zk ⟨?_⟩
 refine v_ret ?_
 refine r0 _ ?_
 refine zf ⟨?_⟩
 exact ret_pure rfl (by congr 1; exact decide_eq_decide.2 (idx_mem x l 0)) (.inl rfl)
set_option maxHeartbeats 1000000 in
theorem l1Has_con (l : List Int) (x : Int) (hl : l.length ≤ 1048576) : Con Tryd.prog 88 [.sl (l.map (V.int .i64)), .int .i64 x] [] (.bool (decide (x ∈ l))) [] := by
 refine v_con [.tmp 4] [] Tryd.func88 rfl rfl rfl (by simp [Tryd.ntmps88]) ?_
 intro Q0 n0 r0
 simp only [Tryd.ntmps88, envFrom, Nat.reduceAdd]
 have T := Tys.mk (And.intro Ty.t3 Ty.t36)
 have F := Fc.mk True.intro
 refine v_seqR [0,1] ?_; intro K1 k1
 refine zAssign ⟨?_⟩
 refine k1 _ ?_
 refine zk ⟨?_⟩
 refine v_seq ?_; intro Q2 n2 e2 r2
 refine v_seqR [1,7,8,9] ?_; intro K3 k3
 refine zMove ⟨?_⟩
 refine zLen ⟨?_⟩
 refine zMove ⟨?_⟩
 refine k3 _ ?_
 refine zk ⟨?_⟩
 refine v_block ?_; intro Q4 n4 x4 e4 r4
 refine v_loop (fun i => ⟨[(1, .int .i64 x), (7, .sl (l.map (V.int .i64))), (8, .int .i64 l.length), (9, .int .i64 (Nat.cast i))], [], false, 17, 0⟩) (fun i => i ≤ l.length ∧ (x ∈ l.drop i ↔ x ∈ l)) (fun i => l.length - i) 0 ?_ ?_ ?_
 ·refine weak_of [1, 7, 8, 9] ?_
  simp only [keep_mk, keepE_nil, keepE_cons, look_cons, look_nil, Nat.reduceEqDiff, reduceIte]
  rfl
 ·exact ⟨Nat.zero_le _, Iff.rfl⟩
 ·rintro i hok5 Q5 n5 e5 r5
  obtain ⟨hi1, hR⟩ := hok5
  refine v_seqR [1,7,8,9,10] ?_; intro K6 k6
  refine zBinOp ⟨?_⟩
  refine k6 _ ?_
  refine zk ⟨?_⟩
  refine v_seq ?_; intro Q7 n7 e7 r7
  refine v_condS _ rfl ?_ ?_
  ·intro hc0
   have hlt : i < l.length := by omega
   obtain ⟨y, hy⟩ : ∃ y, l[i]? = some y := ⟨l[i], List.getElem?_eq_getElem hlt⟩
   have hst : x ∈ l.drop i ↔ (x = y ∨ x ∈ l.drop (i + 1)) := by rw [getElem_drop_cons hy, List.mem_cons]
   refine v_skip ?_
   refine n7 _ _ (weak_keep [1, 7, 8, 9] _) ?_
   refine zk ⟨?_⟩
   refine v_seq ?_; intro Q9 n9 e9 r9
   refine v_block ?_; intro Q10 n10 x10 e10 r10
   refine v_seqR [1,6,7,8,9] ?_; intro K11 k11
   have F := Fc.mk (fun f => getD_map (f := f) hy)
   refine zIndexAddr ⟨?_⟩
   refine zLoad ⟨?_⟩
   refine zAssign ⟨?_⟩
   refine k11 _ ?_
   refine zk ⟨?_⟩
   refine v_seqR [1,7,8,9,15] ?_; intro K12 k12
   refine zMove ⟨?_⟩
   refine zMove ⟨?_⟩
   refine zBinOp ⟨?_⟩
   refine k12 _ ?_
   refine zk ⟨?_⟩
   refine v_condS _ rfl ?_ ?_
   ·intro hc1
    refine v_seqR [4] ?_; intro K14 k14
    refine zAssign ⟨?_⟩
    refine k14 _ ?_
    refine zk ⟨?_⟩
    refine v_ret ?_
    refine r10 _ ?_
    refine r9 _ ?_
    refine r5 _ ?_
    refine r4 _ ?_
    refine r2 _ ?_
    refine r0 _ ?_
    refine zf ⟨?_⟩
    exact ret_pure rfl (by rw [decide_eq_true (hR.1 (hst.2 (.inl hc1.symm)))]) (.inl rfl)
   ·intro hc1
    refine v_skip ?_
    refine n10 _ ?_
    refine n9 _ _ (weak_keep [1, 7, 8, 9] _) ?_
    refine zk ⟨?_⟩
    refine v_region ?_; intro K15 k15
    refine zBinOpW ⟨?_⟩
    refine zMove ⟨?_⟩
    refine k15 _ ?_
    refine n5 _ (i + 1) ?_ ?_ ?_
    ·refine weak_of [1, 7, 8, 9] ?_
     simp only [keep_mk, keepE_nil, keepE_cons, look_cons, look_nil, Nat.reduceEqDiff, reduceIte]
     rfl
    ·exact ⟨by omega, hR.symm.trans (hst.trans ⟨fun h => h.elim (fun q => absurd q.symm hc1) id, .inr⟩) |>.symm⟩
    ·show _ < _; omega
  ·intro hc0
   refine v_exit ?_
   refine e7 _ _ ?_
   refine e5 _ _ ?_
   refine x4 _ ?_
   refine n2 _ _ (weak_keep [] _) ?_
   refine zk ⟨?_⟩
   refine v_seqR [4] ?_; intro K16 k16
   refine zAssign ⟨?_⟩
   refine k16 _ ?_
   refine zk ⟨?_⟩
   refine v_ret ?_
   refine r0 _ ?_
   refine zf ⟨?_⟩
   exact ret_pure rfl (by rw [decide_eq_false (fun h => by have := hR.2 h; rw [List.drop_of_length_le (by omega)] at this; cases this)]) (.inl rfl)
def mayB (d : List (List Int)) (a b c x : Int) : Bool := !((d.drop (d.length - c.toNat)).any fun l => decide (x ∈ l)) && decide ((shiftsOf d a).getD x.toNat 0 < b)
def breachFrom (M : Nat → Int → Bool) : Nat → List (List Int) → Option (Nat × Int)
  | _, [] => none
  | k, l :: ll => match l.find? (fun x => !M k x) with
    | some x => some (k, x)
    | none => breachFrom M (k + 1) ll
theorem breach_step {M : Nat → Int → Bool} {d : List (List Int)} {i : Nat} {l : List Int} (h : d[i]? = some l) : breachFrom M i (d.drop i) = match l.find? (fun x => !M i x) with
    | some x => some (i, x)
    | none => breachFrom M (i + 1) (d.drop (i + 1)) := by
  rw [getElem_drop_cons h, breachFrom]
theorem breach_end {M : Nat → Int → Bool} {d : List (List Int)} {i : Nat} (h : d.length ≤ i) : breachFrom M i (d.drop i) = none := by
  rw [List.drop_of_length_le h, breachFrom]
def breachOf (d : List (List Int)) (a b c : Int) : Option (Nat × Int) := breachFrom (fun k x => mayB (d.take k) a b c x) 0 d
def brI (o : Option (Nat × Int)) : Int := match o with | some p => p.1 | none => 0
def brX (o : Option (Nat × Int)) : Int := match o with | some p => p.2 | none => 0

set_option maxHeartbeats 1000000 in
theorem duMay_con (d : List (List Int)) (a b c x : Int) (hd : d.length ≤ 1048576) (hds : ∀ l ∈ d, l.length ≤ 1048576) (hn1 : 1 ≤ a) (hn9 : a ≤ 9) (hc : 0 ≤ c ∧ c ≤ 5) (hro : ∀ l ∈ d, ∀ y ∈ l, 0 ≤ y ∧ y < a) (hx : 0 ≤ x ∧ x < a) : Con Tryd.prog 153 [.sl (d.map fun l => V.sl (l.map (V.int .i64))), .agg [.int .i64 a, .int .i64 b, .int .i64 c], .int .i64 x] [] (.bool (mayB d a b c x)) [] := by
 have hlen := shiftsOf_len d a
 obtain ⟨z, hz⟩ : ∃ z, (shiftsOf d a)[x.toNat]? = some z := ⟨(shiftsOf d a)[x.toNat]'(by omega), List.getElem?_eq_getElem (by omega)⟩
 have hzd : (shiftsOf d a).getD x.toNat 0 = z := by rw [List.getD_eq_getElem?_getD, hz]; rfl
 have hk0 : (if (d.length : Int) - c > 0 then (d.length : Int) - c else 0) = ((d.length - c.toNat : Nat) : Int) := by split <;> omega
 refine v_con [.tmp 6] [] Tryd.func153 rfl rfl rfl (by simp [Tryd.ntmps153]) ?_
 intro Q0 n0 r0
 simp only [Tryd.ntmps153, envFrom, Nat.reduceAdd]
 have T := Tys.mk (And.intro Ty.t3 (And.intro Ty.t4 (And.intro Ty.t23 (And.intro Ty.t25 Ty.t36))))
 have F := Fc.mk True.intro
 refine v_seqR [0,2,4] ?_; intro K1 k1
 have F := Fc.mk (And.intro (fun f => getD_map (f := f) hz) hlen)
 refine zBox ⟨?_⟩
 refine zAssign ⟨?_⟩
 refine k1 _ ?_
 refine zk ⟨?_⟩
 refine v_seq ?_; intro Q2 n2 e2 r2
 refine v_seqR [0,2,4,7] ?_; intro K3 k3
 refine zMove ⟨?_⟩
 refine zLen ⟨?_⟩
 refine zFieldAddr ⟨?_⟩
 refine zLoad ⟨?_⟩
 refine zBinOpW ⟨?_⟩
 refine zc (l1Most_con 0 ((d.length : Int) - c)) ⟨?_⟩
 refine zAssign ⟨?_⟩
 refine k3 _ ?_
 refine zk ⟨?_⟩
 refine v_block ?_; intro Q4 n4 x4 e4 r4
 refine v_loop (fun i => ⟨[(0, .sl (d.map fun l => V.sl (l.map (V.int .i64)))), (2, .int .i64 x), (4, .ptr 0 0 0), (7, .int .i64 (Nat.cast i))], [.box (.agg [.int .i64 a, .int .i64 b, .int .i64 c]) .flat], false, 36, 0⟩) (fun i => i ≤ d.length ∧ (d.drop i).any (fun l => decide (x ∈ l)) = (d.drop (d.length - c.toNat)).any (fun l => decide (x ∈ l))) (fun i => d.length - i) (d.length - c.toNat) ?_ ?_ ?_
 ·refine weak_bothS [0, 2, 4, 7] [0] ⟨?_⟩
  first | (rw [hk0]; done) | (rw [hk0]; rfl)
 ·exact ⟨Nat.sub_le _ _, rfl⟩
 ·rintro i hok5 Q5 n5 e5 r5
  obtain ⟨hi1, hR⟩ := hok5
  refine v_seq ?_; intro Q6 n6 e6 r6
  refine v_seqR [0,2,4,7,17] ?_; intro K7 k7
  refine zMove ⟨?_⟩
  refine zMove ⟨?_⟩
  refine zLen ⟨?_⟩
  refine zBinOp ⟨?_⟩
  refine k7 _ ?_
  refine zk ⟨?_⟩
  refine v_condS _ rfl ?_ ?_
  ·intro hc0
   have hlt : i < d.length := by omega
   obtain ⟨l, hl⟩ : ∃ l, d[i]? = some l := ⟨d[i], List.getElem?_eq_getElem hlt⟩
   have hlx : l.length ≤ 1048576 := hds l (List.mem_of_getElem? hl)
   have hst := any_drop (f := (fun l => decide (x ∈ l))) hl
   refine v_skip ?_
   refine n6 _ _ (weak_keep [0, 2, 4, 7] _) ?_
   refine zk ⟨?_⟩
   refine v_seq ?_; intro Q9 n9 e9 r9
   refine v_block ?_; intro Q10 n10 x10 e10 r10
   refine v_seqR [0,2,4,7,25] ?_; intro K11 k11
   have F := Fc.mk (And.intro (fun f => getD_map (f := f) hz) (And.intro hlen (fun f => getD_map (f := f) hl)))
   refine zMove ⟨?_⟩
   refine zMove ⟨?_⟩
   refine zIndexAddr ⟨?_⟩
   refine zLoad ⟨?_⟩
   refine zMove ⟨?_⟩
   refine zc (l1Has_con l x hlx) ⟨?_⟩
   refine k11 _ ?_
   refine zk ⟨?_⟩
   refine v_condS _ rfl ?_ ?_
   ·intro hc1
    refine v_seqR [6] ?_; intro K13 k13
    refine zAssign ⟨?_⟩
    refine k13 _ ?_
    refine zk ⟨?_⟩
    refine v_ret ?_
    refine r10 _ ?_
    refine r9 _ ?_
    refine r5 _ ?_
    refine r4 _ ?_
    refine r2 _ ?_
    refine r0 _ ?_
    refine zf ⟨?_⟩
    exact ret_pure rfl (by rw [mayB, ← hR, hst]; simp [hc1]) (.inl rfl)
   ·intro hc1
    refine v_skip ?_
    refine n10 _ ?_
    refine n9 _ _ (weak_keep [0, 2, 4, 7] _) ?_
    refine zk ⟨?_⟩
    refine v_region ?_; intro K14 k14
    refine zMove ⟨?_⟩
    refine zBinOpW ⟨?_⟩
    refine zAssign ⟨?_⟩
    refine k14 _ ?_
    refine n5 _ (i + 1) ?_ ?_ ?_
    ·refine weak_bothS [0, 2, 4, 7] [0] ⟨?_⟩
     rfl
    ·exact ⟨by omega, by rw [← hR, hst]; simp [hc1]⟩
    ·show _ < _; omega
  ·intro hc0
   refine v_exit ?_
   refine e6 _ _ ?_
   refine e5 _ _ ?_
   refine x4 _ ?_
   refine n2 _ _ (weak_keep [0, 2, 4] _) ?_
   refine zk ⟨?_⟩
   refine v_seq ?_; intro Q15 n15 e15 r15
   refine v_draw (by kernel_rfl) ?_; intro K16 q16 k16
   show aAny _ _ _ _ 11 (Array.replicate 11 false) _
   refine zdMove q16 true 0 26 ?_
   refine zdFieldAddr q16 true 1 27 ?_
   refine zdLoad q16 true 2 28 ?_
   refine zdMove q16 true 4 30 ?_
   refine zdFieldAddr q16 true 7 33 ?_
   refine zdLoad q16 true 8 34 ?_
   refine zoc 3 (duShifts_con d a hd hds hn1 hn9 hro) ⟨?_⟩
   refine zdIndexAddr q16 true 5 31 ?_
   refine zdLoad q16 true 6 32 ?_
   refine zdBinOp q16 true 9 35 ?_
   refine zoAssign 10 ⟨?_⟩
   refine aAny_done (by kernel_rfl) ?_
   refine k16 _ ?_
   refine n15 _ _ (weak_keep [6] _) ?_
   refine zk ⟨?_⟩
   refine v_ret ?_
   refine r0 _ ?_
   refine zf ⟨?_⟩
   exact ret_pure rfl (by rw [mayB, ← hR, any_end (by omega), hzd]; simp) (.inl rfl)
set_option maxHeartbeats 1000000 in
theorem mayWork_con (d : List (List Int)) (a b c x : Int) (hd : d.length ≤ 1048576) (hds : ∀ l ∈ d, l.length ≤ 1048576) (hn1 : 1 ≤ a) (hn9 : a ≤ 9) (hc : 0 ≤ c ∧ c ≤ 5) (hro : ∀ l ∈ d, ∀ y ∈ l, 0 ≤ y ∧ y < a) (hx : 0 ≤ x ∧ x < a) : Con Tryd.prog 150 [.sl (d.map fun l => V.sl (l.map (V.int .i64))), .agg [.int .i64 a, .int .i64 b, .int .i64 c], .int .i64 x] [] (.bool (mayB d a b c x)) [] := by
 have hlen := shiftsOf_len d a
 obtain ⟨z, hz⟩ : ∃ z, (shiftsOf d a)[x.toNat]? = some z := ⟨(shiftsOf d a)[x.toNat]'(by omega), List.getElem?_eq_getElem (by omega)⟩
 have hzd : (shiftsOf d a).getD x.toNat 0 = z := by rw [List.getD_eq_getElem?_getD, hz]; rfl
 have hk0 : (if (d.length : Int) - c > 0 then (d.length : Int) - c else 0) = ((d.length - c.toNat : Nat) : Int) := by split <;> omega
 have hdl : (d.drop (d.length - c.toNat)).length ≤ 1048576 := by rw [List.length_drop]; omega
 refine v_con [.tmp 6] [] Tryd.func150 rfl rfl rfl (by simp [Tryd.ntmps150]) ?_
 intro Q0 n0 r0
 simp only [Tryd.ntmps150, envFrom, Nat.reduceAdd]
 have T := Tys.mk (And.intro Ty.t3 (And.intro Ty.t4 (And.intro Ty.t23 (And.intro Ty.t25 Ty.t36))))
 have F := Fc.mk True.intro
 refine v_seqR [0,2,4] ?_; intro K1 k1
 have F := Fc.mk (And.intro (fun f => getD_map (f := f) hz) (And.intro hlen hk0))
 refine zBox ⟨?_⟩
 refine zAssign ⟨?_⟩
 refine k1 _ ?_
 refine zk ⟨?_⟩
 refine v_seq ?_; intro Q2 n2 e2 r2
 refine v_seqR [0,2,4,16,17,18] ?_; intro K3 k3
 refine zMove ⟨?_⟩
 refine zMove ⟨?_⟩
 refine zLen ⟨?_⟩
 refine zFieldAddr ⟨?_⟩
 refine zLoad ⟨?_⟩
 refine zBinOpW ⟨?_⟩
 refine zMax ⟨?_⟩
 refine zSlice ⟨?_⟩
 refine zLen ⟨?_⟩
 refine zMove ⟨?_⟩
 refine k3 _ ?_
 refine zk ⟨?_⟩
 refine v_block ?_; intro Q4 n4 x4 e4 r4
 refine v_loop (fun i => ⟨[(0, .sl (d.map fun l => V.sl (l.map (V.int .i64)))), (2, .int .i64 x), (4, .ptr 0 0 0), (16, .sl ((d.drop (d.length - c.toNat)).map fun l => V.sl (l.map (V.int .i64)))), (17, .int .i64 (d.drop (d.length - c.toNat)).length), (18, .int .i64 (Nat.cast i))], [.box (.agg [.int .i64 a, .int .i64 b, .int .i64 c]) .flat], false, 36, 0⟩) (fun i => i ≤ (d.drop (d.length - c.toNat)).length ∧ ((d.drop (d.length - c.toNat)).drop i).any (fun l => decide (x ∈ l)) = ((d.drop (d.length - c.toNat)).drop 0).any (fun l => decide (x ∈ l))) (fun i => (d.drop (d.length - c.toNat)).length - i) 0 ?_ ?_ ?_
 ·refine weak_bothS [0, 2, 4, 16, 17, 18] [0] ⟨?_⟩
  rfl
 ·exact ⟨Nat.zero_le _, rfl⟩
 ·rintro i hok5 Q5 n5 e5 r5
  obtain ⟨hi1, hR⟩ := hok5
  refine v_seqR [0,2,4,16,17,18,19] ?_; intro K6 k6
  refine zBinOp ⟨?_⟩
  refine k6 _ ?_
  refine zk ⟨?_⟩
  refine v_seq ?_; intro Q7 n7 e7 r7
  refine v_condS _ rfl ?_ ?_
  ·intro hc0
   have hlt : i < (d.drop (d.length - c.toNat)).length := by omega
   obtain ⟨l, hl⟩ : ∃ l, (d.drop (d.length - c.toNat))[i]? = some l := ⟨(d.drop (d.length - c.toNat))[i], List.getElem?_eq_getElem hlt⟩
   have hlx : l.length ≤ 1048576 := hds l (List.mem_of_mem_drop (List.mem_of_getElem? hl))
   have hst := any_drop (f := (fun l => decide (x ∈ l))) hl
   refine v_skip ?_
   refine n7 _ _ (weak_keep [0, 2, 4, 16, 17, 18] _) ?_
   refine zk ⟨?_⟩
   refine v_seq ?_; intro Q9 n9 e9 r9
   refine v_block ?_; intro Q10 n10 x10 e10 r10
   refine v_seqR [0,2,4,8,16,17,18] ?_; intro K11 k11
   have F := Fc.mk (And.intro (fun f => getD_map (f := f) hz) (And.intro hlen (And.intro hk0 (fun f => getD_map (f := f) hl))))
   refine zIndexAddr ⟨?_⟩
   refine zLoad ⟨?_⟩
   refine zAssign ⟨?_⟩
   refine k11 _ ?_
   refine zk ⟨?_⟩
   refine v_seqR [0,2,4,16,17,18,24] ?_; intro K12 k12
   refine zMove ⟨?_⟩
   refine zMove ⟨?_⟩
   refine zc (slContains_con l x hlx) ⟨?_⟩
   refine k12 _ ?_
   refine zk ⟨?_⟩
   refine v_condS _ rfl ?_ ?_
   ·intro hc1
    refine v_seqR [6] ?_; intro K14 k14
    refine zAssign ⟨?_⟩
    refine k14 _ ?_
    refine zk ⟨?_⟩
    refine v_ret ?_
    refine r10 _ ?_
    refine r9 _ ?_
    refine r5 _ ?_
    refine r4 _ ?_
    refine r2 _ ?_
    refine r0 _ ?_
    refine zf ⟨?_⟩
    exact ret_pure rfl (by rw [mayB, ← List.drop_zero (l := d.drop (d.length - c.toNat)), ← hR, hst]; simp [hc1]) (.inl rfl)
   ·intro hc1
    refine v_skip ?_
    refine n10 _ ?_
    refine n9 _ _ (weak_keep [0, 2, 4, 16, 17, 18] _) ?_
    refine zk ⟨?_⟩
    refine v_region ?_; intro K15 k15
    refine zBinOpW ⟨?_⟩
    refine zMove ⟨?_⟩
    refine k15 _ ?_
    refine n5 _ (i + 1) ?_ ?_ ?_
    ·refine weak_bothS [0, 2, 4, 16, 17, 18] [0] ⟨?_⟩
     rfl
    ·exact ⟨by omega, by rw [← hR, hst]; simp [hc1]⟩
    ·show _ < _; omega
  ·intro hc0
   refine v_exit ?_
   refine e7 _ _ ?_
   refine e5 _ _ ?_
   refine x4 _ ?_
   refine n2 _ _ (weak_keep [0, 2, 4] _) ?_
   refine zk ⟨?_⟩
   refine v_seq ?_; intro Q16 n16 e16 r16
   refine v_draw (by kernel_rfl) ?_; intro K17 q17 k17
   show aAny _ _ _ _ 11 (Array.replicate 11 false) _
   refine zdMove q17 true 0 26 ?_
   refine zdFieldAddr q17 true 1 27 ?_
   refine zdLoad q17 true 2 28 ?_
   refine zdMove q17 true 4 30 ?_
   refine zdFieldAddr q17 true 7 33 ?_
   refine zdLoad q17 true 8 34 ?_
   refine zoc 3 (shiftsOf_con d a hd hds hn1 hn9 hro) ⟨?_⟩
   refine zdIndexAddr q17 true 5 31 ?_
   refine zdLoad q17 true 6 32 ?_
   refine zdBinOp q17 true 9 35 ?_
   refine zoAssign 10 ⟨?_⟩
   refine aAny_done (by kernel_rfl) ?_
   refine k17 _ ?_
   refine n16 _ _ (weak_keep [6] _) ?_
   refine zk ⟨?_⟩
   refine v_ret ?_
   refine r0 _ ?_
   refine zf ⟨?_⟩
   exact ret_pure rfl (by rw [mayB, ← List.drop_zero (l := d.drop (d.length - c.toNat)), ← hR, any_end (by omega), hzd]; simp) (.inl rfl)
set_option maxHeartbeats 1000000 in
theorem duBreach_con (d : List (List Int)) (a b c : Int) (hd : d.length ≤ 1048576) (hds : ∀ l ∈ d, l.length ≤ 1048576) (hn1 : 1 ≤ a) (hn9 : a ≤ 9) (hc : 0 ≤ c ∧ c ≤ 5) (hro : ∀ l ∈ d, ∀ y ∈ l, 0 ≤ y ∧ y < a) : Con Tryd.prog 92 [.sl (d.map fun l => V.sl (l.map (V.int .i64))), .agg [.int .i64 a, .int .i64 b, .int .i64 c]] [] (.tup [.int .i64 (brI (breachOf d a b c)), .int .i64 (brX (breachOf d a b c)), .bool ((breachOf d a b c)).isSome]) [] := by
 refine v_con [.tmp 4, .tmp 5, .tmp 6] [] Tryd.func92 rfl rfl rfl (by simp [Tryd.ntmps92]) ?_
 intro Q0 n0 r0
 simp only [Tryd.ntmps92, envFrom, Nat.reduceAdd]
 have T := Tys.mk (And.intro Ty.t3 (And.intro Ty.t4 (And.intro Ty.t23 (And.intro Ty.t25 Ty.t36))))
 have F := Fc.mk True.intro
 refine v_seqR [0,3] ?_; intro K1 k1
 refine zBox ⟨?_⟩
 refine zAssign ⟨?_⟩
 refine zAssign ⟨?_⟩
 refine zAssign ⟨?_⟩
 refine k1 _ ?_
 refine zk ⟨?_⟩
 refine v_seq ?_; intro Q2 n2 e2 r2
 refine v_seqR [0,3,11,12,13] ?_; intro K3 k3
 refine zMove ⟨?_⟩
 refine zLen ⟨?_⟩
 refine zMove ⟨?_⟩
 refine k3 _ ?_
 refine zk ⟨?_⟩
 refine v_block ?_; intro Q4 n4 x4 e4 r4
 refine v_loop (fun i => ⟨[(0, .sl (d.map fun l => V.sl (l.map (V.int .i64)))), (3, .ptr 0 0 0), (11, .sl (d.map fun l => V.sl (l.map (V.int .i64)))), (12, .int .i64 d.length), (13, .int .i64 (Nat.cast i))], [.box (.agg [.int .i64 a, .int .i64 b, .int .i64 c]) .flat], false, 35, 0⟩) (fun i => i ≤ d.length ∧ breachFrom (fun k x => mayB (d.take k) a b c x) i (d.drop i) = breachFrom (fun k x => mayB (d.take k) a b c x) 0 d) (fun i => d.length - i) 0 ?_ ?_ ?_
 ·refine weak_bothS [0, 3, 11, 12, 13] [0] ⟨?_⟩
  rfl
 ·exact ⟨Nat.zero_le _, rfl⟩
 ·rintro i hok5 Q5 n5 e5 r5
  obtain ⟨hi1, hR⟩ := hok5
  refine v_seqR [0,3,11,12,13,14] ?_; intro K6 k6
  refine zBinOp ⟨?_⟩
  refine k6 _ ?_
  refine zk ⟨?_⟩
  refine v_seq ?_; intro Q7 n7 e7 r7
  refine v_condS _ rfl ?_ ?_
  ·intro hc0
   have hlt : i < d.length := by omega
   obtain ⟨l, hx⟩ : ∃ l, d[i]? = some l := ⟨d[i], List.getElem?_eq_getElem hlt⟩
   have hlx : l.length ≤ 1048576 := hds l (List.mem_of_getElem? hx)
   have hst := breach_step (M := (fun k x => mayB (d.take k) a b c x)) hx
   refine v_skip ?_
   refine n7 _ _ (weak_keep [0, 3, 11, 12, 13] _) ?_
   refine zk ⟨?_⟩
   refine v_seq ?_; intro Q9 n9 e9 r9
   refine v_block ?_; intro Q10 n10 x10 e10 r10
   refine v_seqR [0,3,7,8,11,12,13] ?_; intro K11 k11
   have F := Fc.mk (fun f => getD_map (f := f) hx)
   refine zMove ⟨?_⟩
   refine zIndexAddr ⟨?_⟩
   refine zLoad ⟨?_⟩
   refine zAssign ⟨?_⟩
   refine zAssign ⟨?_⟩
   refine k11 _ ?_
   refine zk ⟨?_⟩
   refine v_seqR [0,3,7,11,12,13,18,19,20] ?_; intro K12 k12
   refine zMove ⟨?_⟩
   refine zLen ⟨?_⟩
   refine zMove ⟨?_⟩
   refine k12 _ ?_
   refine zk ⟨?_⟩
   refine v_block ?_; intro Q13 n13 x13 e13 r13
   refine v_loop (fun j => ⟨[(0, .sl (d.map fun l => V.sl (l.map (V.int .i64)))), (3, .ptr 0 0 0), (7, .int .i64 (Nat.cast i)), (11, .sl (d.map fun l => V.sl (l.map (V.int .i64)))), (12, .int .i64 d.length), (13, .int .i64 (Nat.cast i)), (18, .sl (l.map (V.int .i64))), (19, .int .i64 l.length), (20, .int .i64 (Nat.cast j))], [.box (.agg [.int .i64 a, .int .i64 b, .int .i64 c]) .flat], false, 35, 0⟩) (fun j => j ≤ l.length ∧ (l.drop j).find? (fun x => !(fun k x => mayB (d.take k) a b c x) i x) = l.find? (fun x => !(fun k x => mayB (d.take k) a b c x) i x)) (fun j => l.length - j) 0 ?_ ?_ ?_
   ·refine weak_bothS [0, 3, 7, 11, 12, 13, 18, 19, 20] [0] ⟨?_⟩
    rfl
   ·exact ⟨Nat.zero_le _, rfl⟩
   ·rintro j hok14 Q14 n14 e14 r14
    obtain ⟨hj1, hR2⟩ := hok14
    refine v_seqR [0,3,7,11,12,13,18,19,20,21] ?_; intro K15 k15
    refine zBinOp ⟨?_⟩
    refine k15 _ ?_
    refine zk ⟨?_⟩
    refine v_seq ?_; intro Q16 n16 e16 r16
    refine v_condS _ rfl ?_ ?_
    ·intro hc1
     have hltj : j < l.length := by omega
     obtain ⟨y, hy⟩ : ∃ y, l[j]? = some y := ⟨l[j], List.getElem?_eq_getElem hltj⟩
     have hst2 := find_step (p := fun x => !(fun k x => mayB (d.take k) a b c x) i x) hy
     have hyr := hro l (List.mem_of_getElem? hx) y (List.mem_of_getElem? hy)
     refine v_skip ?_
     refine n16 _ _ (weak_keep [0, 3, 7, 11, 12, 13, 18, 19, 20] _) ?_
     refine zk ⟨?_⟩
     refine v_seq ?_; intro Q18 n18 e18 r18
     refine v_block ?_; intro Q19 n19 x19 e19 r19
     refine v_seqR [0,3,7,10,11,12,13,18,19,20] ?_; intro K20 k20
     have F := Fc.mk (And.intro (fun f => getD_map (f := f) hx) (fun f => getD_map (f := f) hy))
     refine zIndexAddr ⟨?_⟩
     refine zLoad ⟨?_⟩
     refine zAssign ⟨?_⟩
     refine k20 _ ?_
     refine zk ⟨?_⟩
     refine v_seq ?_; intro Q21 n21 e21 r21
     refine v_draw (by kernel_rfl) ?_; intro K22 q22 k22
     show aAny _ _ _ _ 7 (Array.replicate 7 false) _
     refine zdMove q22 true 0 24 ?_
     refine zdMove q22 true 1 25 ?_
     refine zdSlice q22 true 2 26 ?_
     refine zdLoad q22 true 3 27 ?_
     refine zdMove q22 true 4 28 ?_
     refine zoc 5 (duMay_con (d.take i) a b c y (by rw [List.length_take]; omega) (fun l h => hds l (List.mem_of_mem_take h)) hn1 hn9 hc (fun l h => hro l (List.mem_of_mem_take h)) hyr) ⟨?_⟩
     refine zdUnOp q22 true 6 30 ?_
     refine aAny_done (by kernel_rfl) ?_
     refine k22 _ ?_
     refine n21 _ _ (weak_keep [0, 3, 7, 10, 11, 12, 13, 18, 19, 20, 30] _) ?_
     refine zk ⟨?_⟩
     refine v_condS _ rfl ?_ ?_
     ·intro hc2
      refine v_seqR [4,5,6] ?_; intro K24 k24
      refine zMove ⟨?_⟩
      refine zMove ⟨?_⟩
      refine zAssign ⟨?_⟩
      refine zAssign ⟨?_⟩
      refine zAssign ⟨?_⟩
      refine k24 _ ?_
      refine zk ⟨?_⟩
      refine v_ret ?_
      refine r19 _ ?_
      refine r18 _ ?_
      refine r14 _ ?_
      refine r13 _ ?_
      refine r10 _ ?_
      refine r9 _ ?_
      refine r5 _ ?_
      refine r4 _ ?_
      refine r2 _ ?_
      refine r0 _ ?_
      refine zf ⟨?_⟩
      have hres : breachOf d a b c = some (i, y) := by rw [breachOf, ← hR, hst, ← hR2, hst2]; simp [hc2]
      rw [hres]
      exact ret_pure rfl rfl (.inl rfl)
     ·intro hc2
      refine v_skip ?_
      refine n19 _ ?_
      refine n18 _ _ (weak_keep [0, 3, 7, 11, 12, 13, 18, 19, 20] _) ?_
      refine zk ⟨?_⟩
      refine v_region ?_; intro K25 k25
      refine zBinOpW ⟨?_⟩
      refine zMove ⟨?_⟩
      refine k25 _ ?_
      refine n14 _ (j + 1) ?_ ?_ ?_
      ·refine weak_bothS [0, 3, 7, 11, 12, 13, 18, 19, 20] [0] ⟨?_⟩
       rfl
      ·exact ⟨by omega, by rw [← hR2, hst2]; simp [hc2]⟩
      ·show _ < _; omega
    ·intro hc1
     refine v_exit ?_
     refine e16 _ _ ?_
     refine e14 _ _ ?_
     refine x13 _ ?_
     refine n10 _ ?_
     refine n9 _ _ (weak_keep [0, 3, 11, 12, 13] _) ?_
     refine zk ⟨?_⟩
     refine v_region ?_; intro K26 k26
     refine zBinOpW ⟨?_⟩
     refine zMove ⟨?_⟩
     refine k26 _ ?_
     refine n5 _ (i + 1) ?_ ?_ ?_
     ·refine weak_bothS [0, 3, 11, 12, 13] [0] ⟨?_⟩
      rfl
     ·exact ⟨by omega, by rw [← hR, hst, ← hR2, find_end (by omega)]⟩
     ·show _ < _; omega
  ·intro hc0
   refine v_exit ?_
   refine e7 _ _ ?_
   refine e5 _ _ ?_
   refine x4 _ ?_
   refine n2 _ _ (weak_keep [] _) ?_
   refine zk ⟨?_⟩
   refine v_seqR [4,5,6] ?_; intro K27 k27
   refine zAssign ⟨?_⟩
   refine zAssign ⟨?_⟩
   refine zAssign ⟨?_⟩
   refine k27 _ ?_
   refine zk ⟨?_⟩
   refine v_ret ?_
   refine r0 _ ?_
   refine zf ⟨?_⟩
   have hres : breachOf d a b c = none := by rw [breachOf, ← hR, breach_end (by omega)]
   rw [hres]
   exact ret_pure rfl rfl (.inl rfl)
set_option maxHeartbeats 1000000 in
theorem firstBreach_con (d : List (List Int)) (a b c : Int) (hd : d.length ≤ 1048576) (hds : ∀ l ∈ d, l.length ≤ 1048576) (hn1 : 1 ≤ a) (hn9 : a ≤ 9) (hc : 0 ≤ c ∧ c ≤ 5) (hro : ∀ l ∈ d, ∀ y ∈ l, 0 ≤ y ∧ y < a) : Con Tryd.prog 84 [.sl (d.map fun l => V.sl (l.map (V.int .i64))), .agg [.int .i64 a, .int .i64 b, .int .i64 c]] [] (.tup [.int .i64 (brI (breachOf d a b c)), .int .i64 (brX (breachOf d a b c)), .bool ((breachOf d a b c)).isSome]) [] := by
 refine v_con [.tmp 4, .tmp 5, .tmp 6] [] Tryd.func84 rfl rfl rfl (by simp [Tryd.ntmps84]) ?_
 intro Q0 n0 r0
 simp only [Tryd.ntmps84, envFrom, Nat.reduceAdd]
 have T := Tys.mk (And.intro Ty.t3 (And.intro Ty.t4 (And.intro Ty.t23 (And.intro Ty.t25 Ty.t36))))
 have F := Fc.mk True.intro
 refine v_seqR [0,3] ?_; intro K1 k1
 refine zBox ⟨?_⟩
 refine zAssign ⟨?_⟩
 refine zAssign ⟨?_⟩
 refine zAssign ⟨?_⟩
 refine k1 _ ?_
 refine zk ⟨?_⟩
 refine v_seq ?_; intro Q2 n2 e2 r2
 refine v_seqR [0,3,11,12,13] ?_; intro K3 k3
 refine zMove ⟨?_⟩
 refine zLen ⟨?_⟩
 refine zMove ⟨?_⟩
 refine k3 _ ?_
 refine zk ⟨?_⟩
 refine v_block ?_; intro Q4 n4 x4 e4 r4
 refine v_loop (fun i => ⟨[(0, .sl (d.map fun l => V.sl (l.map (V.int .i64)))), (3, .ptr 0 0 0), (11, .sl (d.map fun l => V.sl (l.map (V.int .i64)))), (12, .int .i64 d.length), (13, .int .i64 (Nat.cast i))], [.box (.agg [.int .i64 a, .int .i64 b, .int .i64 c]) .flat], false, 35, 0⟩) (fun i => i ≤ d.length ∧ breachFrom (fun k x => mayB (d.take k) a b c x) i (d.drop i) = breachFrom (fun k x => mayB (d.take k) a b c x) 0 d) (fun i => d.length - i) 0 ?_ ?_ ?_
 ·refine weak_bothS [0, 3, 11, 12, 13] [0] ⟨?_⟩
  rfl
 ·exact ⟨Nat.zero_le _, rfl⟩
 ·rintro i hok5 Q5 n5 e5 r5
  obtain ⟨hi1, hR⟩ := hok5
  refine v_seqR [0,3,11,12,13,14] ?_; intro K6 k6
  refine zBinOp ⟨?_⟩
  refine k6 _ ?_
  refine zk ⟨?_⟩
  refine v_seq ?_; intro Q7 n7 e7 r7
  refine v_condS _ rfl ?_ ?_
  ·intro hc0
   have hlt : i < d.length := by omega
   obtain ⟨l, hx⟩ : ∃ l, d[i]? = some l := ⟨d[i], List.getElem?_eq_getElem hlt⟩
   have hlx : l.length ≤ 1048576 := hds l (List.mem_of_getElem? hx)
   have hst := breach_step (M := (fun k x => mayB (d.take k) a b c x)) hx
   refine v_skip ?_
   refine n7 _ _ (weak_keep [0, 3, 11, 12, 13] _) ?_
   refine zk ⟨?_⟩
   refine v_seq ?_; intro Q9 n9 e9 r9
   refine v_block ?_; intro Q10 n10 x10 e10 r10
   refine v_seqR [0,3,7,8,11,12,13] ?_; intro K11 k11
   have F := Fc.mk (fun f => getD_map (f := f) hx)
   refine zMove ⟨?_⟩
   refine zIndexAddr ⟨?_⟩
   refine zLoad ⟨?_⟩
   refine zAssign ⟨?_⟩
   refine zAssign ⟨?_⟩
   refine k11 _ ?_
   refine zk ⟨?_⟩
   refine v_seqR [0,3,7,11,12,13,18,19,20] ?_; intro K12 k12
   refine zMove ⟨?_⟩
   refine zLen ⟨?_⟩
   refine zMove ⟨?_⟩
   refine k12 _ ?_
   refine zk ⟨?_⟩
   refine v_block ?_; intro Q13 n13 x13 e13 r13
   refine v_loop (fun j => ⟨[(0, .sl (d.map fun l => V.sl (l.map (V.int .i64)))), (3, .ptr 0 0 0), (7, .int .i64 (Nat.cast i)), (11, .sl (d.map fun l => V.sl (l.map (V.int .i64)))), (12, .int .i64 d.length), (13, .int .i64 (Nat.cast i)), (18, .sl (l.map (V.int .i64))), (19, .int .i64 l.length), (20, .int .i64 (Nat.cast j))], [.box (.agg [.int .i64 a, .int .i64 b, .int .i64 c]) .flat], false, 35, 0⟩) (fun j => j ≤ l.length ∧ (l.drop j).find? (fun x => !(fun k x => mayB (d.take k) a b c x) i x) = l.find? (fun x => !(fun k x => mayB (d.take k) a b c x) i x)) (fun j => l.length - j) 0 ?_ ?_ ?_
   ·refine weak_bothS [0, 3, 7, 11, 12, 13, 18, 19, 20] [0] ⟨?_⟩
    rfl
   ·exact ⟨Nat.zero_le _, rfl⟩
   ·rintro j hok14 Q14 n14 e14 r14
    obtain ⟨hj1, hR2⟩ := hok14
    refine v_seqR [0,3,7,11,12,13,18,19,20,21] ?_; intro K15 k15
    refine zBinOp ⟨?_⟩
    refine k15 _ ?_
    refine zk ⟨?_⟩
    refine v_seq ?_; intro Q16 n16 e16 r16
    refine v_condS _ rfl ?_ ?_
    ·intro hc1
     have hltj : j < l.length := by omega
     obtain ⟨y, hy⟩ : ∃ y, l[j]? = some y := ⟨l[j], List.getElem?_eq_getElem hltj⟩
     have hst2 := find_step (p := fun x => !(fun k x => mayB (d.take k) a b c x) i x) hy
     have hyr := hro l (List.mem_of_getElem? hx) y (List.mem_of_getElem? hy)
     refine v_skip ?_
     refine n16 _ _ (weak_keep [0, 3, 7, 11, 12, 13, 18, 19, 20] _) ?_
     refine zk ⟨?_⟩
     refine v_seq ?_; intro Q18 n18 e18 r18
     refine v_block ?_; intro Q19 n19 x19 e19 r19
     refine v_seqR [0,3,7,10,11,12,13,18,19,20] ?_; intro K20 k20
     have F := Fc.mk (And.intro (fun f => getD_map (f := f) hx) (fun f => getD_map (f := f) hy))
     refine zIndexAddr ⟨?_⟩
     refine zLoad ⟨?_⟩
     refine zAssign ⟨?_⟩
     refine k20 _ ?_
     refine zk ⟨?_⟩
     refine v_seq ?_; intro Q21 n21 e21 r21
     refine v_draw (by kernel_rfl) ?_; intro K22 q22 k22
     show aAny _ _ _ _ 7 (Array.replicate 7 false) _
     refine zdMove q22 true 0 24 ?_
     refine zdMove q22 true 1 25 ?_
     refine zdSlice q22 true 2 26 ?_
     refine zdLoad q22 true 3 27 ?_
     refine zdMove q22 true 4 28 ?_
     refine zoc 5 (mayWork_con (d.take i) a b c y (by rw [List.length_take]; omega) (fun l h => hds l (List.mem_of_mem_take h)) hn1 hn9 hc (fun l h => hro l (List.mem_of_mem_take h)) hyr) ⟨?_⟩
     refine zdUnOp q22 true 6 30 ?_
     refine aAny_done (by kernel_rfl) ?_
     refine k22 _ ?_
     refine n21 _ _ (weak_keep [0, 3, 7, 10, 11, 12, 13, 18, 19, 20, 30] _) ?_
     refine zk ⟨?_⟩
     refine v_condS _ rfl ?_ ?_
     ·intro hc2
      refine v_seqR [4,5,6] ?_; intro K24 k24
      refine zMove ⟨?_⟩
      refine zMove ⟨?_⟩
      refine zAssign ⟨?_⟩
      refine zAssign ⟨?_⟩
      refine zAssign ⟨?_⟩
      refine k24 _ ?_
      refine zk ⟨?_⟩
      refine v_ret ?_
      refine r19 _ ?_
      refine r18 _ ?_
      refine r14 _ ?_
      refine r13 _ ?_
      refine r10 _ ?_
      refine r9 _ ?_
      refine r5 _ ?_
      refine r4 _ ?_
      refine r2 _ ?_
      refine r0 _ ?_
      refine zf ⟨?_⟩
      have hres : breachOf d a b c = some (i, y) := by rw [breachOf, ← hR, hst, ← hR2, hst2]; simp [hc2]
      rw [hres]
      exact ret_pure rfl rfl (.inl rfl)
     ·intro hc2
      refine v_skip ?_
      refine n19 _ ?_
      refine n18 _ _ (weak_keep [0, 3, 7, 11, 12, 13, 18, 19, 20] _) ?_
      refine zk ⟨?_⟩
      refine v_region ?_; intro K25 k25
      refine zBinOpW ⟨?_⟩
      refine zMove ⟨?_⟩
      refine k25 _ ?_
      refine n14 _ (j + 1) ?_ ?_ ?_
      ·refine weak_bothS [0, 3, 7, 11, 12, 13, 18, 19, 20] [0] ⟨?_⟩
       rfl
      ·exact ⟨by omega, by rw [← hR2, hst2]; simp [hc2]⟩
      ·show _ < _; omega
    ·intro hc1
     refine v_exit ?_
     refine e16 _ _ ?_
     refine e14 _ _ ?_
     refine x13 _ ?_
     refine n10 _ ?_
     refine n9 _ _ (weak_keep [0, 3, 11, 12, 13] _) ?_
     refine zk ⟨?_⟩
     refine v_region ?_; intro K26 k26
     refine zBinOpW ⟨?_⟩
     refine zMove ⟨?_⟩
     refine k26 _ ?_
     refine n5 _ (i + 1) ?_ ?_ ?_
     ·refine weak_bothS [0, 3, 11, 12, 13] [0] ⟨?_⟩
      rfl
     ·exact ⟨by omega, by rw [← hR, hst, ← hR2, find_end (by omega)]⟩
     ·show _ < _; omega
  ·intro hc0
   refine v_exit ?_
   refine e7 _ _ ?_
   refine e5 _ _ ?_
   refine x4 _ ?_
   refine n2 _ _ (weak_keep [] _) ?_
   refine zk ⟨?_⟩
   refine v_seqR [4,5,6] ?_; intro K27 k27
   refine zAssign ⟨?_⟩
   refine zAssign ⟨?_⟩
   refine zAssign ⟨?_⟩
   refine k27 _ ?_
   refine zk ⟨?_⟩
   refine v_ret ?_
   refine r0 _ ?_
   refine zf ⟨?_⟩
   have hres : breachOf d a b c = none := by rw [breachOf, ← hR, breach_end (by omega)]
   rw [hres]
   exact ret_pure rfl rfl (.inl rfl)
theorem duty_in {a b c : Int} (h : dutyB a b c = true) : 1 ≤ a ∧ a ≤ 9 ∧ 0 ≤ c ∧ c ≤ 5 := by
  simp [dutyB] at h; omega
def breachR (d : List (List Int)) (a b c : Int) : Option (Nat × Int) := if (dutyB a b c && rosterB d a) = true then breachOf d a b c else none

set_option maxHeartbeats 1000000 in
theorem specFirstBreach_con (d : List (List Int)) (a b c : Int) (hd : d.length ≤ 1048576) (hds : ∀ l ∈ d, l.length ≤ 1048576) : Con Tryd.prog 12 [.sl (d.map fun l => V.sl (l.map (V.int .i64))), .agg [.int .i64 a, .int .i64 b, .int .i64 c]] [] (.tup [.int .i64 (brI (breachR d a b c)), .int .i64 (brX (breachR d a b c)), .bool ((breachR d a b c)).isSome]) [] := by
 refine v_con [.tmp 4, .tmp 5, .tmp 6] [] Tryd.func12 rfl rfl rfl (by simp [Tryd.ntmps12]) ?_
 intro Q0 n0 r0
 simp only [Tryd.ntmps12, envFrom, Nat.reduceAdd]
 have T := Tys.mk (And.intro Ty.t3 (And.intro Ty.t4 (And.intro Ty.t23 (And.intro Ty.t25 Ty.t36))))
 have F := Fc.mk True.intro
 refine v_seqR [0,3] ?_; intro K1 k1
 refine zBox ⟨?_⟩
 refine zAssign ⟨?_⟩
 refine zAssign ⟨?_⟩
 refine zAssign ⟨?_⟩
 refine k1 _ ?_
 refine zk ⟨?_⟩
 refine v_seq ?_; intro Q2 n2 e2 r2
 refine v_seqR [0,3,16] ?_; intro K3 k3
 refine zLoad ⟨?_⟩
 refine zc (duGood_con a b c) ⟨?_⟩
 refine zUnOp ⟨?_⟩
 refine zMove ⟨?_⟩
 refine zgMove ⟨?_⟩
 refine zgFieldAddr ⟨?_⟩
 refine zgLoad ⟨?_⟩
 refine zgc (duRoster_con d a hd hds) ⟨?_⟩
 refine zgUnOp ⟨?_⟩
 refine zPick ⟨?_⟩
 refine k3 _ ?_
 refine zk ⟨?_⟩
 refine v_condS _ rfl ?_ ?_
 ·intro hc0
  refine v_seqR [4,5,6] ?_; intro K5 k5
  refine zAssign ⟨?_⟩
  refine zAssign ⟨?_⟩
  refine zAssign ⟨?_⟩
  refine k5 _ ?_
  refine zk ⟨?_⟩
  refine v_ret ?_
  refine r2 _ ?_
  refine r0 _ ?_
  refine zf ⟨?_⟩
  have hg : (dutyB a b c && rosterB d a) = false := by rcases hc0 with h | h <;> simp [h]
  have hbr : breachR d a b c = none := by rw [breachR, hg]; rfl
  rw [hbr]
  exact ret_pure rfl rfl (.inl rfl)
 ·intro hc0
  have hdi := duty_in hc0.1
  have hroi := roster_in hc0.2
  have hg : (dutyB a b c && rosterB d a) = true := by rw [hc0.1, hc0.2]; rfl
  have hbr : breachR d a b c = breachOf d a b c := by rw [breachR, hg]; rfl
  refine v_skip ?_
  refine n2 _ _ (weak_keep [0, 3] _) ?_
  refine zk ⟨?_⟩
  refine v_seqR [4,5,6] ?_; intro K6 k6
  refine zMove ⟨?_⟩
  refine zLoad ⟨?_⟩
  refine zc (duBreach_con d a b c hd hds hroi.1 hroi.2.1 hdi.2.2 hroi.2.2) ⟨?_⟩
  refine zExtract ⟨?_⟩
  refine zExtract ⟨?_⟩
  refine zExtract ⟨?_⟩
  refine zAssign ⟨?_⟩
  refine zAssign ⟨?_⟩
  refine zAssign ⟨?_⟩
  refine k6 _ ?_
  refine zk ⟨?_⟩
  refine v_ret ?_
  refine r0 _ ?_
  refine zf ⟨?_⟩
  rw [hbr]
  exact ret_pure rfl rfl (.inl rfl)
set_option maxHeartbeats 1000000 in
theorem specKeepsRules_con (d : List (List Int)) (a b c : Int) (hd : d.length ≤ 1048576) (hds : ∀ l ∈ d, l.length ≤ 1048576) : Con Tryd.prog 10 [.sl (d.map fun l => V.sl (l.map (V.int .i64))), .agg [.int .i64 a, .int .i64 b, .int .i64 c]] [] (.tup [.bool ((dutyB a b c && rosterB d a) && !(breachR d a b c).isSome), .bool (dutyB a b c && rosterB d a)]) [] := by
 refine v_con [.tmp 4, .tmp 5] [] Tryd.func10 rfl rfl rfl (by simp [Tryd.ntmps10]) ?_
 intro Q0 n0 r0
 simp only [Tryd.ntmps10, envFrom, Nat.reduceAdd]
 have T := Tys.mk (And.intro Ty.t3 (And.intro Ty.t4 (And.intro Ty.t23 (And.intro Ty.t25 Ty.t36))))
 have F := Fc.mk True.intro
 refine v_seqR [0,3] ?_; intro K1 k1
 refine zBox ⟨?_⟩
 refine zAssign ⟨?_⟩
 refine zAssign ⟨?_⟩
 refine k1 _ ?_
 refine zk ⟨?_⟩
 refine v_seq ?_; intro Q2 n2 e2 r2
 refine v_seqR [0,3,18] ?_; intro K3 k3
 refine zLoad ⟨?_⟩
 refine zc (duGood_con a b c) ⟨?_⟩
 refine zUnOp ⟨?_⟩
 refine zMove ⟨?_⟩
 refine zgMove ⟨?_⟩
 refine zgFieldAddr ⟨?_⟩
 refine zgLoad ⟨?_⟩
 refine zgc (duRoster_con d a hd hds) ⟨?_⟩
 refine zgUnOp ⟨?_⟩
 refine zPick ⟨?_⟩
 refine k3 _ ?_
 refine zk ⟨?_⟩
 refine v_condS _ rfl ?_ ?_
 ·intro hc0
  refine v_seqR [4,5] ?_; intro K5 k5
  refine zAssign ⟨?_⟩
  refine zAssign ⟨?_⟩
  refine k5 _ ?_
  refine zk ⟨?_⟩
  refine v_ret ?_
  refine r2 _ ?_
  refine r0 _ ?_
  refine zf ⟨?_⟩
  have hg : (dutyB a b c && rosterB d a) = false := by rcases hc0 with h | h <;> simp [h]
  have hbr : breachR d a b c = none := by rw [breachR, hg]; rfl
  rw [hbr]
  rw [hg]
  exact ret_pure rfl rfl (.inl rfl)
 ·intro hc0
  have hdi := duty_in hc0.1
  have hroi := roster_in hc0.2
  have hg : (dutyB a b c && rosterB d a) = true := by rw [hc0.1, hc0.2]; rfl
  have hbr : breachR d a b c = breachOf d a b c := by rw [breachR, hg]; rfl
  refine v_skip ?_
  refine n2 _ _ (weak_keep [0, 3] _) ?_
  refine zk ⟨?_⟩
  refine v_seqR [8] ?_; intro K6 k6
  refine zMove ⟨?_⟩
  refine zLoad ⟨?_⟩
  refine zc (duBreach_con d a b c hd hds hroi.1 hroi.2.1 hdi.2.2 hroi.2.2) ⟨?_⟩
  refine zMove ⟨?_⟩
  refine zExtract ⟨?_⟩
  refine zExtract ⟨?_⟩
  refine zExtract ⟨?_⟩
  refine zAssign ⟨?_⟩
  refine zAssign ⟨?_⟩
  refine zAssign ⟨?_⟩
  refine k6 _ ?_
  refine zk ⟨?_⟩
  refine v_seqR [4,5] ?_; intro K7 k7
  refine zMove ⟨?_⟩
  refine zUnOp ⟨?_⟩
  refine zAssign ⟨?_⟩
  refine zAssign ⟨?_⟩
  refine k7 _ ?_
  refine zk ⟨?_⟩
  refine v_ret ?_
  refine r0 _ ?_
  refine zf ⟨?_⟩
  rw [hbr, hg]
  exact ret_pure rfl rfl (.inl rfl)
set_option maxHeartbeats 1000000 in
theorem implFirstBreach_con (d : List (List Int)) (a b c : Int) (hd : d.length ≤ 1048576) (hds : ∀ l ∈ d, l.length ≤ 1048576) : Con Tryd.prog 11 [.sl (d.map fun l => V.sl (l.map (V.int .i64))), .agg [.int .i64 a, .int .i64 b, .int .i64 c]] [] (.tup [.int .i64 (brI (breachR d a b c)), .int .i64 (brX (breachR d a b c)), .bool ((breachR d a b c)).isSome]) [] := by
 refine v_con [.tmp 4, .tmp 5, .tmp 6] [] Tryd.func11 rfl rfl rfl (by simp [Tryd.ntmps11]) ?_
 intro Q0 n0 r0
 simp only [Tryd.ntmps11, envFrom, Nat.reduceAdd]
 have T := Tys.mk (And.intro Ty.t3 (And.intro Ty.t4 (And.intro Ty.t23 (And.intro Ty.t25 Ty.t36))))
 have F := Fc.mk True.intro
 refine v_seqR [0,3] ?_; intro K1 k1
 refine zBox ⟨?_⟩
 refine zAssign ⟨?_⟩
 refine zAssign ⟨?_⟩
 refine zAssign ⟨?_⟩
 refine k1 _ ?_
 refine zk ⟨?_⟩
 refine v_seq ?_; intro Q2 n2 e2 r2
 refine v_seqR [0,3,16] ?_; intro K3 k3
 refine zLoad ⟨?_⟩
 refine zc (isDuty_con a b c) ⟨?_⟩
 refine zUnOp ⟨?_⟩
 refine zMove ⟨?_⟩
 refine zgMove ⟨?_⟩
 refine zgFieldAddr ⟨?_⟩
 refine zgLoad ⟨?_⟩
 refine zgc (isRoster_con d a hd hds) ⟨?_⟩
 refine zgUnOp ⟨?_⟩
 refine zPick ⟨?_⟩
 refine k3 _ ?_
 refine zk ⟨?_⟩
 refine v_condS _ rfl ?_ ?_
 ·intro hc0
  refine v_seqR [4,5,6] ?_; intro K5 k5
  refine zAssign ⟨?_⟩
  refine zAssign ⟨?_⟩
  refine zAssign ⟨?_⟩
  refine k5 _ ?_
  refine zk ⟨?_⟩
  refine v_ret ?_
  refine r2 _ ?_
  refine r0 _ ?_
  refine zf ⟨?_⟩
  have hg : (dutyB a b c && rosterB d a) = false := by rcases hc0 with h | h <;> simp [h]
  have hbr : breachR d a b c = none := by rw [breachR, hg]; rfl
  rw [hbr]
  exact ret_pure rfl rfl (.inl rfl)
 ·intro hc0
  have hdi := duty_in hc0.1
  have hroi := roster_in hc0.2
  have hg : (dutyB a b c && rosterB d a) = true := by rw [hc0.1, hc0.2]; rfl
  have hbr : breachR d a b c = breachOf d a b c := by rw [breachR, hg]; rfl
  refine v_skip ?_
  refine n2 _ _ (weak_keep [0, 3] _) ?_
  refine zk ⟨?_⟩
  refine v_seqR [4,5,6] ?_; intro K6 k6
  refine zMove ⟨?_⟩
  refine zLoad ⟨?_⟩
  refine zc (firstBreach_con d a b c hd hds hroi.1 hroi.2.1 hdi.2.2 hroi.2.2) ⟨?_⟩
  refine zExtract ⟨?_⟩
  refine zExtract ⟨?_⟩
  refine zExtract ⟨?_⟩
  refine zAssign ⟨?_⟩
  refine zAssign ⟨?_⟩
  refine zAssign ⟨?_⟩
  refine k6 _ ?_
  refine zk ⟨?_⟩
  refine v_ret ?_
  refine r0 _ ?_
  refine zf ⟨?_⟩
  rw [hbr]
  exact ret_pure rfl rfl (.inl rfl)
set_option maxHeartbeats 1000000 in
theorem implKeepsRules_con (d : List (List Int)) (a b c : Int) (hd : d.length ≤ 1048576) (hds : ∀ l ∈ d, l.length ≤ 1048576) : Con Tryd.prog 9 [.sl (d.map fun l => V.sl (l.map (V.int .i64))), .agg [.int .i64 a, .int .i64 b, .int .i64 c]] [] (.tup [.bool ((dutyB a b c && rosterB d a) && !(breachR d a b c).isSome), .bool (dutyB a b c && rosterB d a)]) [] := by
 refine v_con [.tmp 4, .tmp 5] [] Tryd.func9 rfl rfl rfl (by simp [Tryd.ntmps9]) ?_
 intro Q0 n0 r0
 simp only [Tryd.ntmps9, envFrom, Nat.reduceAdd]
 have T := Tys.mk (And.intro Ty.t3 (And.intro Ty.t4 (And.intro Ty.t23 (And.intro Ty.t25 Ty.t36))))
 have F := Fc.mk True.intro
 refine v_seqR [0,3] ?_; intro K1 k1
 refine zBox ⟨?_⟩
 refine zAssign ⟨?_⟩
 refine zAssign ⟨?_⟩
 refine k1 _ ?_
 refine zk ⟨?_⟩
 refine v_seq ?_; intro Q2 n2 e2 r2
 refine v_seqR [0,3,18] ?_; intro K3 k3
 refine zLoad ⟨?_⟩
 refine zc (isDuty_con a b c) ⟨?_⟩
 refine zUnOp ⟨?_⟩
 refine zMove ⟨?_⟩
 refine zgMove ⟨?_⟩
 refine zgFieldAddr ⟨?_⟩
 refine zgLoad ⟨?_⟩
 refine zgc (isRoster_con d a hd hds) ⟨?_⟩
 refine zgUnOp ⟨?_⟩
 refine zPick ⟨?_⟩
 refine k3 _ ?_
 refine zk ⟨?_⟩
 refine v_condS _ rfl ?_ ?_
 ·intro hc0
  refine v_seqR [4,5] ?_; intro K5 k5
  refine zAssign ⟨?_⟩
  refine zAssign ⟨?_⟩
  refine k5 _ ?_
  refine zk ⟨?_⟩
  refine v_ret ?_
  refine r2 _ ?_
  refine r0 _ ?_
  refine zf ⟨?_⟩
  have hg : (dutyB a b c && rosterB d a) = false := by rcases hc0 with h | h <;> simp [h]
  have hbr : breachR d a b c = none := by rw [breachR, hg]; rfl
  rw [hbr]
  rw [hg]
  exact ret_pure rfl rfl (.inl rfl)
 ·intro hc0
  have hdi := duty_in hc0.1
  have hroi := roster_in hc0.2
  have hg : (dutyB a b c && rosterB d a) = true := by rw [hc0.1, hc0.2]; rfl
  have hbr : breachR d a b c = breachOf d a b c := by rw [breachR, hg]; rfl
  refine v_skip ?_
  refine n2 _ _ (weak_keep [0, 3] _) ?_
  refine zk ⟨?_⟩
  refine v_seqR [8] ?_; intro K6 k6
  refine zMove ⟨?_⟩
  refine zLoad ⟨?_⟩
  refine zc (firstBreach_con d a b c hd hds hroi.1 hroi.2.1 hdi.2.2 hroi.2.2) ⟨?_⟩
  refine zMove ⟨?_⟩
  refine zExtract ⟨?_⟩
  refine zExtract ⟨?_⟩
  refine zExtract ⟨?_⟩
  refine zAssign ⟨?_⟩
  refine zAssign ⟨?_⟩
  refine zAssign ⟨?_⟩
  refine k6 _ ?_
  refine zk ⟨?_⟩
  refine v_seqR [4,5] ?_; intro K7 k7
  refine zMove ⟨?_⟩
  refine zUnOp ⟨?_⟩
  refine zAssign ⟨?_⟩
  refine zAssign ⟨?_⟩
  refine k7 _ ?_
  refine zk ⟨?_⟩
  refine v_ret ?_
  refine r0 _ ?_
  refine zf ⟨?_⟩
  rw [hbr, hg]
  exact ret_pure rfl rfl (.inl rfl)
end Go.Proofs.YtbameklegpgkfaaDoor
