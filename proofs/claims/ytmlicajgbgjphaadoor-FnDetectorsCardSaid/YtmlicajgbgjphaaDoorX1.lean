/- What functions compute. No condition. -/
import Derived.Test.YtmlicajgbgjphaaDoorUty
import Derived.Test.YtmlicajgbgjphaaDoorUmG
set_option linter.unusedSimpArgs false
set_option linter.unusedVariables false
set_option linter.defProp false
namespace Go.Proofs.YtmlicajgbgjphaaDoor
open Go Go.Vm

set_option maxHeartbeats 1000000 in
theorem inside_con (n lo hi : Int) : Con Tryd.prog 130 [.int .i64 n, .int .i64 lo, .int .i64 hi] [] (.bool (decide (lo ≤ n) && decide (n ≤ hi))) [] := by
 refine v_con [.tmp 6] [] Tryd.func130 rfl rfl rfl (by simp [Tryd.ntmps130]) ?_
 intro Q0 n0 r0
 simp only [Tryd.ntmps130, envFrom, Nat.reduceAdd]
 have T := Tys.mk Ty.t3
 have F := Fc.mk True.intro
 refine v_seqR [0,1,2] ?_; intro K1 k1
 refine zAssign ⟨?_⟩
 refine k1 _ ?_
 refine zk ⟨?_⟩
 refine v_seqR [6] ?_; intro K2 k2
 refine zMove ⟨?_⟩
 refine zMove ⟨?_⟩
 refine zBinOp ⟨?_⟩
 refine zMove ⟨?_⟩
 refine zgMove ⟨?_⟩
 refine zgMove ⟨?_⟩
 refine zgBinOp ⟨?_⟩
 refine zPick ⟨?_⟩
 refine zAssign ⟨?_⟩
 refine k2 _ ?_
 refine zk ⟨?_⟩
 refine v_ret ?_
 refine r0 _ ?_
 refine zf ⟨?_⟩
 exact ret_pure rfl (by first | rfl | simp) (.inl rfl)
set_option maxHeartbeats 1000000 in
theorem l1In_con (n lo hi : Int) : Con Tryd.prog 133 [.int .i64 n, .int .i64 lo, .int .i64 hi] [] (.bool (decide (lo ≤ n) && decide (n ≤ hi))) [] := by
 refine v_con [.tmp 6] [] Tryd.func133 rfl rfl rfl (by simp [Tryd.ntmps133]) ?_
 intro Q0 n0 r0
 simp only [Tryd.ntmps133, envFrom, Nat.reduceAdd]
 have T := Tys.mk Ty.t3
 have F := Fc.mk True.intro
 refine v_seqR [0,1,2] ?_; intro K1 k1
 refine zAssign ⟨?_⟩
 refine k1 _ ?_
 refine zk ⟨?_⟩
 refine v_seqR [6] ?_; intro K2 k2
 refine zMove ⟨?_⟩
 refine zMove ⟨?_⟩
 refine zBinOp ⟨?_⟩
 refine zMove ⟨?_⟩
 refine zgMove ⟨?_⟩
 refine zgMove ⟨?_⟩
 refine zgBinOp ⟨?_⟩
 refine zPick ⟨?_⟩
 refine zAssign ⟨?_⟩
 refine k2 _ ?_
 refine zk ⟨?_⟩
 refine v_ret ?_
 refine r0 _ ?_
 refine zf ⟨?_⟩
 exact ret_pure rfl (by first | rfl | simp) (.inl rfl)
theorem getElem_drop_cons {α : Type} {l : List α} {i : Nat} {x : α} (h : l[i]? = some x) : l.drop i = x :: l.drop (i + 1) := by
  obtain ⟨hi, rfl⟩ := List.getElem?_eq_some_iff.1 h
  exact List.drop_eq_getElem_cons hi
theorem eq_drop {α : Type} [DecidableEq α] {a b : List α} {i : Nat} (h : a.length = b.length) {x y : α} (hx : a[i]? = some x) (hy : b[i]? = some y) : (a.drop i = b.drop i) ↔ (x = y ∧ a.drop (i + 1) = b.drop (i + 1)) := by
  rw [getElem_drop_cons hx, getElem_drop_cons hy, List.cons.injEq]
theorem all_drop {α : Type} {f : α → Bool} {l : List α} {i : Nat} {x : α} (h : l[i]? = some x) : (l.drop i).all f = (f x && (l.drop (i + 1)).all f) := by
  rw [getElem_drop_cons h, List.all_cons]
theorem foldl_drop {α β : Type} {f : β → α → β} {l : List α} {i : Nat} {x : α} (h : l[i]? = some x) (b : β) : (l.drop i).foldl f b = (l.drop (i + 1)).foldl f (f b x) := by
  rw [getElem_drop_cons h, List.foldl_cons]
theorem foldl_end {α β : Type} {f : β → α → β} {l : List α} {i : Nat} (h : l.length ≤ i) (b : β) : (l.drop i).foldl f b = b := by
  rw [List.drop_of_length_le h]; rfl
theorem set_map {α : Type} {f : α → V} {l : List α} {i : Nat} {x : α} : (l.map f).set i (f x) = (l.set i x).map f := (List.map_set).symm

def idxFrom (x : Int) : Nat → List Int → Int
  | _, [] => -1
  | i, y :: l => if x = y then i else idxFrom x (i + 1) l
theorem idx_step {x y : Int} {l : List Int} {i : Nat} (h : l[i]? = some y) : idxFrom x i (l.drop i) = if x = y then (i : Int) else idxFrom x (i + 1) (l.drop (i + 1)) := by
  rw [getElem_drop_cons h, idxFrom]
theorem idx_end {x : Int} {l : List Int} {i k : Nat} (h : l.length ≤ i) : idxFrom x k (l.drop i) = -1 := by
  rw [List.drop_of_length_le h, idxFrom]
theorem idx_mem (x : Int) : ∀ (l : List Int) (i : Nat), (0 ≤ idxFrom x i l) ↔ x ∈ l
  | [], i => by simp [idxFrom]
  | y :: l, i => by
    rw [idxFrom, List.mem_cons]
    split
    · rename_i h; simp [h]
    · rename_i h; rw [idx_mem x l (i + 1)]; simp [h]
theorem any_drop {α : Type} {f : α → Bool} {l : List α} {i : Nat} {x : α} (h : l[i]? = some x) : (l.drop i).any f = (f x || (l.drop (i + 1)).any f) := by
  rw [getElem_drop_cons h, List.any_cons]
theorem any_end {α : Type} {f : α → Bool} {l : List α} {i : Nat} (h : l.length ≤ i) : (l.drop i).any f = false := by
  rw [List.drop_of_length_le h]; rfl
theorem find_step {α : Type} {p : α → Bool} {l : List α} {i : Nat} {x : α} (h : l[i]? = some x) : (l.drop i).find? p = if p x then some x else (l.drop (i + 1)).find? p := by
  rw [getElem_drop_cons h, List.find?_cons]
  cases p x <;> rfl
theorem find_end {α : Type} {p : α → Bool} {l : List α} {i : Nat} (h : l.length ≤ i) : (l.drop i).find? p = none := by
  rw [List.drop_of_length_le h]; rfl

set_option maxHeartbeats 1000000 in
theorem slIndex_con (l : List Int) (x : Int) (hl : l.length ≤ 1048576) : Con Tryd.prog 182 [.sl (l.map (V.int .i64)), .int .i64 x] [] (.int .i64 (idxFrom x 0 l)) [] := by
 refine v_con [.tmp 4] [] Tryd.func182 rfl rfl rfl (by simp [Tryd.ntmps182]) ?_
 intro Q0 n0 r0
 simp only [Tryd.ntmps182, envFrom, Nat.reduceAdd]
 have T := Tys.mk (And.intro Ty.t3 Ty.t48)
 have F := Fc.mk True.intro
 refine v_seqR [0,1] ?_; intro K1 k1
 refine zAssign ⟨?_⟩
 refine k1 _ ?_
 refine zk ⟨?_⟩
 refine v_seq ?_; intro Q2 n2 e2 r2
 refine v_seqR [0,1,7,8] ?_; intro K3 k3
 refine zMove ⟨?_⟩
 refine zLen ⟨?_⟩
 refine zMove ⟨?_⟩
 refine k3 _ ?_
 refine zk ⟨?_⟩
 refine v_block ?_; intro Q4 n4 x4 e4 r4
 refine v_loop (fun i => ⟨[(0, .sl (l.map (V.int .i64))), (1, .int .i64 x), (7, .int .i64 l.length), (8, .int .i64 (Nat.cast i))], [], false, 19, 0⟩) (fun i => i ≤ l.length ∧ idxFrom x i (l.drop i) = idxFrom x 0 l) (fun i => l.length - i) 0 ?_ ?_ ?_
 ·refine weak_of [0, 1, 7, 8] ?_
  simp only [keep_mk, keepE_nil, keepE_cons, look_cons, look_nil, Nat.reduceEqDiff, reduceIte]
  rfl
 ·exact ⟨Nat.zero_le _, rfl⟩
 ·rintro i hok5 Q5 n5 e5 r5
  obtain ⟨hi1, hR⟩ := hok5
  refine v_seqR [0,1,7,8,9] ?_; intro K6 k6
  refine zBinOp ⟨?_⟩
  refine k6 _ ?_
  refine zk ⟨?_⟩
  refine v_seq ?_; intro Q7 n7 e7 r7
  refine v_condS _ rfl ?_ ?_
  ·intro hc0
   have hlt : i < l.length := by omega
   obtain ⟨y, hy⟩ : ∃ y, l[i]? = some y := ⟨l[i], List.getElem?_eq_getElem hlt⟩
   have hst := idx_step (x := x) hy
   refine v_skip ?_
   refine n7 _ _ (weak_keep [0, 1, 7, 8] _) ?_
   refine zk ⟨?_⟩
   refine v_seq ?_; intro Q9 n9 e9 r9
   refine v_block ?_; intro Q10 n10 x10 e10 r10
   refine v_seqR [0,1,5,7,8] ?_; intro K11 k11
   have F := Fc.mk (fun f => getD_map (f := f) hy)
   refine zMove ⟨?_⟩
   refine zAssign ⟨?_⟩
   refine k11 _ ?_
   refine zk ⟨?_⟩
   refine v_seqR [0,1,5,7,8,16] ?_; intro K12 k12
   refine zMove ⟨?_⟩
   refine zMove ⟨?_⟩
   refine zMove ⟨?_⟩
   refine zIndexAddr ⟨?_⟩
   refine zLoad ⟨?_⟩
   refine zBinOp ⟨?_⟩
   refine k12 _ ?_
   refine zk ⟨?_⟩
   refine v_condS _ rfl ?_ ?_
   ·intro hc1
    refine v_seqR [4] ?_; intro K14 k14
    refine zMove ⟨?_⟩
    refine zAssign ⟨?_⟩
    refine k14 _ ?_
    refine zk ⟨?_⟩
    refine v_ret ?_
    refine r10 _ ?_
    refine r9 _ ?_
    refine r5 _ ?_
    refine r4 _ ?_
    refine r2 _ ?_
    refine r0 _ ?_
    refine zf ⟨?_⟩
    exact ret_pure rfl (by rw [← hR, hst, if_pos hc1]) (.inl rfl)
   ·intro hc1
    refine v_skip ?_
    refine n10 _ ?_
    refine n9 _ _ (weak_keep [0, 1, 7, 8] _) ?_
    refine zk ⟨?_⟩
    refine v_region ?_; intro K15 k15
    refine zBinOpW ⟨?_⟩
    refine zMove ⟨?_⟩
    refine k15 _ ?_
    refine n5 _ (i + 1) ?_ ?_ ?_
    ·refine weak_of [0, 1, 7, 8] ?_
     simp only [keep_mk, keepE_nil, keepE_cons, look_cons, look_nil, Nat.reduceEqDiff, reduceIte]
     rfl
    ·exact ⟨by omega, by rw [← hR, hst, if_neg hc1]⟩
    ·show _ < _; omega
  ·intro hc0
   refine v_exit ?_
   refine e7 _ _ ?_
   refine e5 _ _ ?_
   refine x4 _ ?_
   refine n2 _ _ (weak_keep [] _) ?_
   refine zk ⟨?_⟩
   refine v_seqR [4] ?_; intro K16 k16
   refine zAssign ⟨?_⟩
   refine k16 _ ?_
   refine zk ⟨?_⟩
   refine v_ret ?_
   refine r0 _ ?_
   refine zf ⟨?_⟩
   exact ret_pure rfl (by rw [← hR, idx_end (by omega)]) (.inl rfl)
set_option maxHeartbeats 1000000 in
theorem slContains_con (l : List Int) (x : Int) (hl : l.length ≤ 1048576) : Con Tryd.prog 180 [.sl (l.map (V.int .i64)), .int .i64 x] [] (.bool (decide (x ∈ l))) [] := by
 refine v_con [.tmp 4] [] Tryd.func180 rfl rfl rfl (by simp [Tryd.ntmps180]) ?_
 intro Q0 n0 r0
 simp only [Tryd.ntmps180, envFrom, Nat.reduceAdd]
 have T := Tys.mk (And.intro Ty.t3 Ty.t48)
 have F := Fc.mk True.intro
 refine v_seqR [0,1] ?_; intro K1 k1
 refine zAssign ⟨?_⟩
 refine k1 _ ?_
 refine zk ⟨?_⟩
 refine v_seqR [4] ?_; intro K2 k2
 refine zMove ⟨?_⟩
 refine zMove ⟨?_⟩
 refine zc (slIndex_con l x hl) ⟨?_⟩
 refine zBinOp ⟨?_⟩
 refine zAssign ⟨?_⟩
 refine k2 _ ?_
 refine zk ⟨?_⟩
 refine v_ret ?_
 refine r0 _ ?_
 refine zf ⟨?_⟩
 exact ret_pure rfl (by congr 1; exact decide_eq_decide.2 (idx_mem x l 0)) (.inl rfl)
set_option maxHeartbeats 1000000 in
theorem l1Has_con (l : List Int) (x : Int) (hl : l.length ≤ 1048576) : Con Tryd.prog 185 [.sl (l.map (V.int .i64)), .int .i64 x] [] (.bool (decide (x ∈ l))) [] := by
 refine v_con [.tmp 4] [] Tryd.func185 rfl rfl rfl (by simp [Tryd.ntmps185]) ?_
 intro Q0 n0 r0
 simp only [Tryd.ntmps185, envFrom, Nat.reduceAdd]
 have T := Tys.mk (And.intro Ty.t3 Ty.t48)
 have F := Fc.mk True.intro
 refine v_seqR [0,1] ?_; intro K1 k1
 refine zAssign ⟨?_⟩
 refine k1 _ ?_
 refine zk ⟨?_⟩
 refine v_seq ?_; intro Q2 n2 e2 r2
 refine v_seqR [1,7,8,9] ?_; intro K3 k3
 refine zMove ⟨?_⟩
 refine zLen ⟨?_⟩
 refine zMove ⟨?_⟩
 refine k3 _ ?_
 refine zk ⟨?_⟩
 refine v_block ?_; intro Q4 n4 x4 e4 r4
 refine v_loop (fun i => ⟨[(1, .int .i64 x), (7, .sl (l.map (V.int .i64))), (8, .int .i64 l.length), (9, .int .i64 (Nat.cast i))], [], false, 17, 0⟩) (fun i => i ≤ l.length ∧ (x ∈ l.drop i ↔ x ∈ l)) (fun i => l.length - i) 0 ?_ ?_ ?_
 ·refine weak_of [1, 7, 8, 9] ?_
  simp only [keep_mk, keepE_nil, keepE_cons, look_cons, look_nil, Nat.reduceEqDiff, reduceIte]
  rfl
 ·exact ⟨Nat.zero_le _, Iff.rfl⟩
 ·rintro i hok5 Q5 n5 e5 r5
  obtain ⟨hi1, hR⟩ := hok5
  refine v_seqR [1,7,8,9,10] ?_; intro K6 k6
  refine zBinOp ⟨?_⟩
  refine k6 _ ?_
  refine zk ⟨?_⟩
  refine v_seq ?_; intro Q7 n7 e7 r7
  refine v_condS _ rfl ?_ ?_
  ·intro hc0
   have hlt : i < l.length := by omega
   obtain ⟨y, hy⟩ : ∃ y, l[i]? = some y := ⟨l[i], List.getElem?_eq_getElem hlt⟩
   have hst : x ∈ l.drop i ↔ (x = y ∨ x ∈ l.drop (i + 1)) := by rw [getElem_drop_cons hy, List.mem_cons]
   refine v_skip ?_
   refine n7 _ _ (weak_keep [1, 7, 8, 9] _) ?_
   refine zk ⟨?_⟩
   refine v_seq ?_; intro Q9 n9 e9 r9
   refine v_block ?_; intro Q10 n10 x10 e10 r10
   refine v_seqR [1,6,7,8,9] ?_; intro K11 k11
   have F := Fc.mk (fun f => getD_map (f := f) hy)
   refine zIndexAddr ⟨?_⟩
   refine zLoad ⟨?_⟩
   refine zAssign ⟨?_⟩
   refine k11 _ ?_
   refine zk ⟨?_⟩
   refine v_seqR [1,7,8,9,15] ?_; intro K12 k12
   refine zMove ⟨?_⟩
   refine zMove ⟨?_⟩
   refine zBinOp ⟨?_⟩
   refine k12 _ ?_
   refine zk ⟨?_⟩
   refine v_condS _ rfl ?_ ?_
   ·intro hc1
    refine v_seqR [4] ?_; intro K14 k14
    refine zAssign ⟨?_⟩
    refine k14 _ ?_
    refine zk ⟨?_⟩
    refine v_ret ?_
    refine r10 _ ?_
    refine r9 _ ?_
    refine r5 _ ?_
    refine r4 _ ?_
    refine r2 _ ?_
    refine r0 _ ?_
    refine zf ⟨?_⟩
    exact ret_pure rfl (by rw [decide_eq_true (hR.1 (hst.2 (.inl hc1.symm)))]) (.inl rfl)
   ·intro hc1
    refine v_skip ?_
    refine n10 _ ?_
    refine n9 _ _ (weak_keep [1, 7, 8, 9] _) ?_
    refine zk ⟨?_⟩
    refine v_region ?_; intro K15 k15
    refine zBinOpW ⟨?_⟩
    refine zMove ⟨?_⟩
    refine k15 _ ?_
    refine n5 _ (i + 1) ?_ ?_ ?_
    ·refine weak_of [1, 7, 8, 9] ?_
     simp only [keep_mk, keepE_nil, keepE_cons, look_cons, look_nil, Nat.reduceEqDiff, reduceIte]
     rfl
    ·exact ⟨by omega, hR.symm.trans (hst.trans ⟨fun h => h.elim (fun q => absurd q.symm hc1) id, .inr⟩) |>.symm⟩
    ·show _ < _; omega
  ·intro hc0
   refine v_exit ?_
   refine e7 _ _ ?_
   refine e5 _ _ ?_
   refine x4 _ ?_
   refine n2 _ _ (weak_keep [] _) ?_
   refine zk ⟨?_⟩
   refine v_seqR [4] ?_; intro K16 k16
   refine zAssign ⟨?_⟩
   refine k16 _ ?_
   refine zk ⟨?_⟩
   refine v_ret ?_
   refine r0 _ ?_
   refine zf ⟨?_⟩
   exact ret_pure rfl (by rw [decide_eq_false (fun h => by have := hR.2 h; rw [List.drop_of_length_le (by omega)] at this; cases this)]) (.inl rfl)
def chainFrom {α : Type} (ok : α → Bool) (bf : α → α → Bool) : Option α → List α → Bool
  | _, [] => true
  | none, x :: l => ok x && chainFrom ok bf (some x) l
  | some p, x :: l => ok x && bf p x && chainFrom ok bf (some x) l
def chainAt {α : Type} (ok : α → Bool) (bf : α → α → Bool) (l : List α) (i : Nat) : Bool := chainFrom ok bf (if i = 0 then none else l[i - 1]?) (l.drop i)
theorem chain_zero {α : Type} {ok : α → Bool} {bf : α → α → Bool} {l : List α} {x : α} (h : l[0]? = some x) : chainAt ok bf l 0 = (ok x && chainAt ok bf l 1) := by
  simp only [chainAt, getElem_drop_cons h, if_true, chainFrom]
  simp [h]
theorem chain_succ {α : Type} {ok : α → Bool} {bf : α → α → Bool} {l : List α} {x y : α} {i : Nat} (h0 : 0 < i) (hy : l[i - 1]? = some y) (h : l[i]? = some x) : chainAt ok bf l i = (ok x && bf y x && chainAt ok bf l (i + 1)) := by
  simp only [chainAt, getElem_drop_cons h, hy, show ¬ i = 0 by omega, if_false, chainFrom]
  simp [h]
theorem chain_end {α : Type} {ok : α → Bool} {bf : α → α → Bool} {l : List α} {i : Nat} (h : l.length ≤ i) : chainAt ok bf l i = true := by
  simp only [chainAt, List.drop_of_length_le h]
  split <;> rfl
theorem chainFrom_ok {α : Type} {ok : α → Bool} {bf : α → α → Bool} : ∀ {l : List α} {p : Option α}, chainFrom ok bf p l = true → ∀ x ∈ l, ok x = true
  | [], _, _, x, hx => by cases hx
  | y :: l, p, h, x, hx => by
    have h2 : ok y = true ∧ chainFrom ok bf (some y) l = true := by
      cases p <;> simp [chainFrom] at h <;> simp [h]
    rcases List.mem_cons.1 hx with rfl | h3
    · exact h2.1
    · exact chainFrom_ok h2.2 x h3
theorem chain_ok {α : Type} {ok : α → Bool} {bf : α → α → Bool} {l : List α} (h : chainAt ok bf l 0 = true) : ∀ x ∈ l, ok x = true := chainFrom_ok h

def dOne (x : (Int × Int × Int × Bool)) : Bool := (decide (1 ≤ x.1) && decide (x.1 ≤ 999)) && (decide (1 ≤ x.2.1) && decide (x.2.1 ≤ 9)) && (decide (0 ≤ x.2.2.1) && decide (x.2.2.1 ≤ 2))
def dBefore (x y : (Int × Int × Int × Bool)) : Bool := decide (x.1 < y.1)
def dsB (l : List (Int × Int × Int × Bool)) : Bool := chainAt dOne dBefore l 0 && decide ((l.length : Int) ≤ 20)
def sOne (x : (Int × Int)) : Bool := (decide (0 ≤ x.1) && decide (x.1 ≤ 86399)) && (decide (1 ≤ x.2) && decide (x.2 ≤ 999))
def sBefore (x y : (Int × Int)) : Bool := decide (x.1 ≤ y.1)
def ssB (l : List (Int × Int)) : Bool := chainAt sOne sBefore l 0 && decide ((l.length : Int) ≤ 60)
def findD (n : Int) : Nat → List (Int × Int × Int × Bool) → Int
  | _, [] => -1
  | i, d :: l => if d.1 = n then i else findD n (i + 1) l
theorem find_stepD {n : Int} {l : List (Int × Int × Int × Bool)} {i : Nat} {d : (Int × Int × Int × Bool)} (h : l[i]? = some d) : findD n i (l.drop i) = if d.1 = n then (i : Int) else findD n (i + 1) (l.drop (i + 1)) := by
  rw [getElem_drop_cons h, findD]
theorem find_endD {n : Int} {l : List (Int × Int × Int × Bool)} {i k : Nat} (h : l.length ≤ i) : findD n k (l.drop i) = -1 := by
  rw [List.drop_of_length_le h, findD]
theorem findD_cases (n : Int) : ∀ (l : List (Int × Int × Int × Bool)) (i : Nat), findD n i l = -1 ∨ ∃ (j : Nat) (d : (Int × Int × Int × Bool)), findD n i l = ((i + j : Nat) : Int) ∧ l[j]? = some d ∧ d.1 = n
  | [], i => .inl rfl
  | d :: l, i => by
    rw [findD]
    by_cases h : d.1 = n
    · rw [if_pos h]; exact .inr ⟨0, d, rfl, rfl, h⟩
    · rw [if_neg h]
      rcases findD_cases n l (i + 1) with q | ⟨j, e, q1, q2, q3⟩
      · exact .inl q
      · exact .inr ⟨j + 1, e, by rw [q1]; congr 1; omega, by simpa using q2, q3⟩
def detOf (l : List (Int × Int × Int × Bool)) (n : Int) : Option (Int × Int × Int × Bool) := l.find? fun d => decide (d.1 = n)
theorem findD_det (n : Int) : ∀ (l : List (Int × Int × Int × Bool)) (i : Nat), (findD n i l = -1 ∧ detOf l n = none) ∨ ∃ (j : Nat) (d : (Int × Int × Int × Bool)), findD n i l = ((i + j : Nat) : Int) ∧ l[j]? = some d ∧ detOf l n = some d
  | [], i => .inl ⟨rfl, rfl⟩
  | d :: l, i => by
    rw [findD, detOf, List.find?_cons]
    by_cases h : d.1 = n
    · rw [if_pos h]; right; exact ⟨0, d, rfl, rfl, by simp [h]⟩
    · rw [if_neg h]
      simp only [h, decide_false]
      rcases findD_det n l (i + 1) with ⟨q1, q2⟩ | ⟨j, e, q1, q2, q3⟩
      · exact .inl ⟨q1, q2⟩
      · exact .inr ⟨j + 1, e, by rw [q1]; congr 1; omega, by simpa using q2, q3⟩
def liveB (l : List (Int × Int × Int × Bool)) (s : (Int × Int)) : Bool := match detOf l s.2 with | some d => !d.2.2.2 | none => false

set_option maxHeartbeats 1000000 in
theorem alZone_con (n : Int) : Con Tryd.prog 202 [.int .i64 n] [] (.bool (decide (1 ≤ n) && decide (n ≤ 9))) [] := by
 refine v_con [.tmp 2] [] Tryd.func202 rfl rfl rfl (by simp [Tryd.ntmps202]) ?_
 intro Q0 n0 r0
 simp only [Tryd.ntmps202, envFrom, Nat.reduceAdd]
 have T := Tys.mk (And.intro Ty.t3 Ty.t4)
 have F := Fc.mk True.intro
 refine v_seqR [0] ?_; intro K1 k1
 refine zAssign ⟨?_⟩
 refine k1 _ ?_
 refine zk ⟨?_⟩
 refine v_seqR [2] ?_; intro K2 k2
 refine zMove ⟨?_⟩
 refine zc (l1In_con _ _ _) ⟨?_⟩
 refine zAssign ⟨?_⟩
 refine k2 _ ?_
 refine zk ⟨?_⟩
 refine v_ret ?_
 refine r0 _ ?_
 refine zf ⟨?_⟩
 exact ret_pure rfl (by first | rfl | simp) (.inl rfl)
set_option maxHeartbeats 1000000 in
theorem alGood_con (l : List (Int × Int × Int × Bool)) (hl : l.length ≤ 1048576) : Con Tryd.prog 110 [.sl (l.map (fun t : Int × Int × Int × Bool => V.agg [V.int .i64 t.1, V.int .i64 t.2.1, V.int .i64 t.2.2.1, V.bool t.2.2.2]))] [] (.bool (dsB l)) [] := by
 refine v_con [.tmp 2] [] Tryd.func110 rfl rfl rfl (by simp [Tryd.ntmps110]) ?_
 intro Q0 n0 r0
 simp only [Tryd.ntmps110, envFrom, Nat.reduceAdd]
 have T := Tys.mk (And.intro Ty.t3 (And.intro Ty.t4 (And.intro Ty.t33 Ty.t61)))
 have F := Fc.mk True.intro
 refine v_seqR [0] ?_; intro K1 k1
 refine zAssign ⟨?_⟩
 refine k1 _ ?_
 refine zk ⟨?_⟩
 refine v_seq ?_; intro Q2 n2 e2 r2
 refine v_seqR [0,5,6,7] ?_; intro K3 k3
 refine zMove ⟨?_⟩
 refine zLen ⟨?_⟩
 refine zMove ⟨?_⟩
 refine k3 _ ?_
 refine zk ⟨?_⟩
 refine v_block ?_; intro Q4 n4 x4 e4 r4
 refine v_loop (fun i => ⟨[(0, .sl (l.map (fun t : Int × Int × Int × Bool => V.agg [V.int .i64 t.1, V.int .i64 t.2.1, V.int .i64 t.2.2.1, V.bool t.2.2.2]))), (5, .sl (l.map (fun t : Int × Int × Int × Bool => V.agg [V.int .i64 t.1, V.int .i64 t.2.1, V.int .i64 t.2.2.1, V.bool t.2.2.2]))), (6, .int .i64 l.length), (7, .int .i64 (Nat.cast i))], [], false, 47, 0⟩) (fun i => i ≤ l.length ∧ chainAt dOne dBefore l i = chainAt dOne dBefore l 0) (fun i => l.length - i) 0 ?_ ?_ ?_
 ·refine weak_of [0, 5, 6, 7] ?_
  simp only [keep_mk, keepE_nil, keepE_cons, look_cons, look_nil, Nat.reduceEqDiff, reduceIte]
  rfl
 ·exact ⟨Nat.zero_le _, rfl⟩
 ·rintro i hok5 Q5 n5 e5 r5
  obtain ⟨hi1, hR⟩ := hok5
  refine v_seqR [0,5,6,7,8] ?_; intro K6 k6
  refine zBinOp ⟨?_⟩
  refine k6 _ ?_
  refine zk ⟨?_⟩
  refine v_seq ?_; intro Q7 n7 e7 r7
  refine v_condS _ rfl ?_ ?_
  ·intro hc0
   have hlt : i < l.length := by omega
   obtain ⟨⟨x0, x1, x2, x3⟩, hx⟩ : ∃ x : Int × Int × Int × Bool, l[i]? = some x := ⟨l[i]'(by omega), List.getElem?_eq_getElem (by omega)⟩
   rcases Nat.eq_zero_or_pos i with h0 | h0
   ·skip
    have hi0 : ¬ ((0 : Int) < (i : Int)) := by omega
    have hst : chainAt dOne dBefore l i = (dOne (x0, x1, x2, x3) && chainAt dOne dBefore l (i + 1)) := by subst h0; exact chain_zero hx
    refine v_skip ?_
    refine n7 _ _ (weak_keep [0, 5, 6, 7] _) ?_
    refine zk ⟨?_⟩
    refine v_seq ?_; intro Q9 n9 e9 r9
    refine v_block ?_; intro Q10 n10 x10 e10 r10
    refine v_seqR [0,3,4,5,6,7] ?_; intro K11 k11
    have F := Fc.mk (And.intro (fun f => getD_map (f := f) hx) (And.intro hi0 (And.intro @decide_false @Bool.and_false)))
    refine zMove ⟨?_⟩
    refine zIndexAddr ⟨?_⟩
    refine zLoad ⟨?_⟩
    refine zAlloc ⟨?_⟩
    refine zAssign ⟨?_⟩
    refine zStore ⟨?_⟩
    refine k11 _ ?_
    refine zk ⟨?_⟩
    refine v_seq ?_; intro Q12 n12 e12 r12
    refine v_draw (by kernel_rfl) ?_; intro K13 q13 k13
    show aAny _ _ _ _ 31 (Array.replicate 31 false) _
    refine zdFieldAddr q13 true 0 12 ?_
    refine zdLoad q13 true 1 13 ?_
    refine zoc 2 (l1In_con _ _ _) ⟨?_⟩
    refine zdUnOp q13 true 3 15 ?_
    refine zdMove q13 true 4 16 ?_
    refine zdgFieldAddr q13 true 5 17 ?_
    refine zdgLoad q13 true 6 18 ?_
    first
    |refine zogc 7 (alZone_con _) ⟨?_⟩
    |(refine aAny_pass 7 19 4 false rfl rfl (show 19 < 47 by decide) (by kernel_rfl) rfl ?_ ?_; (focus first | rfl | (simp only [zV, guardV, Nat.reduceEqDiff, reduceIte]; done)); simp only [zW, set_some, Nat.reduceEqDiff, reduceIte])
    refine zdgUnOp q13 true 8 20 ?_
    refine zdPick q13 true 9 21 ?_
    refine zdMove q13 true 10 22 ?_
    refine zdgFieldAddr q13 true 11 23 ?_
    refine zdgLoad q13 true 12 24 ?_
    first
    |refine zogc 13 (l1In_con _ _ _) ⟨?_⟩
    |(refine aAny_pass 13 25 10 false rfl rfl (show 25 < 47 by decide) (by kernel_rfl) rfl ?_ ?_; (focus first | rfl | (simp only [zV, guardV, Nat.reduceEqDiff, reduceIte]; done)); simp only [zW, set_some, Nat.reduceEqDiff, reduceIte])
    refine zdgUnOp q13 true 14 26 ?_
    refine zdPick q13 true 15 27 ?_
    refine zdMove q13 true 16 28 ?_
    refine zdgMove q13 true 17 29 ?_
    refine zdgBinOp q13 true 18 30 ?_
    refine zdgMove q13 true 19 31 ?_
    refine zdgMove q13 true 20 32 ?_
    refine zdgMove q13 true 21 33 ?_
    refine zdgBinOpW q13 true 22 34 ?_
    refine zdgIndexAddr q13 true 23 35 ?_
    refine zdgFieldAddr q13 true 24 36 ?_
    refine zdgLoad q13 true 25 37 ?_
    refine zdgFieldAddr q13 true 26 38 ?_
    refine zdgLoad q13 true 27 39 ?_
    refine zdgBinOp q13 true 28 40 ?_
    refine zdgPick q13 true 29 41 ?_
    refine zdPick q13 true 30 42 ?_
    refine aAny_done (by kernel_rfl) ?_
    refine k13 _ ?_
    refine n12 _ _ (weak_keep [0, 5, 6, 7, 42] _) ?_
    refine zk ⟨?_⟩
    refine v_condS _ rfl ?_ ?_
    ·intro hc1
     refine v_seqR [2] ?_; intro K15 k15
     refine zAssign ⟨?_⟩
     refine k15 _ ?_
     refine zk ⟨?_⟩
     refine v_ret ?_
     refine r10 _ ?_
     refine r9 _ ?_
     refine r5 _ ?_
     refine r4 _ ?_
     refine r2 _ ?_
     refine r0 _ ?_
     refine zf ⟨?_⟩
     exact ret_pure rfl (by rw [dsB, ← hR, hst]; clear hR hst; simp [dOne, dBefore] at *; intros; omega) (.inl rfl)
    ·intro hc1
     refine v_skip ?_
     refine n10 _ ?_
     refine n9 _ _ (weak_keep [0, 5, 6, 7] _) ?_
     refine zk ⟨?_⟩
     refine v_region ?_; intro K16 k16
     refine zBinOpW ⟨?_⟩
     refine zMove ⟨?_⟩
     refine k16 _ ?_
     refine n5 _ (i + 1) ?_ ?_ ?_
     ·refine weak_bothS [0, 5, 6, 7] [] ⟨?_⟩
      rfl
     ·exact ⟨by omega, by rw [← hR, hst]; clear hR hst; have hone : dOne (x0, x1, x2, x3) = true := (by simp [dOne] at *; omega); first | (simp [hone]; done) | (have hbt : dBefore (y0, y1, y2, y3) (x0, x1, x2, x3) = true := (by simp [dBefore] at *; omega); simp [hone, hbt])⟩
     ·show _ < _; omega
   ·skip
    obtain ⟨⟨y0, y1, y2, y3⟩, hy⟩ : ∃ x : Int × Int × Int × Bool, l[i - 1]? = some x := ⟨l[i - 1]'(by omega), List.getElem?_eq_getElem (by omega)⟩
    have hi0 : (0 : Int) < i := by omega
    have hk : ((i : Int) - 1).toNat = i - 1 := by omega
    have hst := chain_succ (ok := dOne) (bf := dBefore) h0 hy hx
    refine v_skip ?_
    refine n7 _ _ (weak_keep [0, 5, 6, 7] _) ?_
    refine zk ⟨?_⟩
    refine v_seq ?_; intro Q17 n17 e17 r17
    refine v_block ?_; intro Q18 n18 x18 e18 r18
    refine v_seqR [0,3,4,5,6,7] ?_; intro K19 k19
    have F := Fc.mk (And.intro (fun f => getD_map (f := f) hx) (And.intro hi0 (And.intro hk (And.intro (fun f => getD_map (f := f) hy) (And.intro @decide_true @Bool.and_true)))))
    refine zMove ⟨?_⟩
    refine zIndexAddr ⟨?_⟩
    refine zLoad ⟨?_⟩
    refine zAlloc ⟨?_⟩
    refine zAssign ⟨?_⟩
    refine zStore ⟨?_⟩
    refine k19 _ ?_
    refine zk ⟨?_⟩
    refine v_seq ?_; intro Q20 n20 e20 r20
    refine v_draw (by kernel_rfl) ?_; intro K21 q21 k21
    show aAny _ _ _ _ 31 (Array.replicate 31 false) _
    refine zdFieldAddr q21 true 0 12 ?_
    refine zdLoad q21 true 1 13 ?_
    refine zoc 2 (l1In_con _ _ _) ⟨?_⟩
    refine zdUnOp q21 true 3 15 ?_
    refine zdMove q21 true 4 16 ?_
    refine zdgFieldAddr q21 true 5 17 ?_
    refine zdgLoad q21 true 6 18 ?_
    first
    |refine zogc 7 (alZone_con _) ⟨?_⟩
    |(refine aAny_pass 7 19 4 false rfl rfl (show 19 < 47 by decide) (by kernel_rfl) rfl ?_ ?_; (focus first | rfl | (simp only [zV, guardV, Nat.reduceEqDiff, reduceIte]; done)); simp only [zW, set_some, Nat.reduceEqDiff, reduceIte])
    refine zdgUnOp q21 true 8 20 ?_
    refine zdPick q21 true 9 21 ?_
    refine zdMove q21 true 10 22 ?_
    refine zdgFieldAddr q21 true 11 23 ?_
    refine zdgLoad q21 true 12 24 ?_
    first
    |refine zogc 13 (l1In_con _ _ _) ⟨?_⟩
    |(refine aAny_pass 13 25 10 false rfl rfl (show 25 < 47 by decide) (by kernel_rfl) rfl ?_ ?_; (focus first | rfl | (simp only [zV, guardV, Nat.reduceEqDiff, reduceIte]; done)); simp only [zW, set_some, Nat.reduceEqDiff, reduceIte])
    refine zdgUnOp q21 true 14 26 ?_
    refine zdPick q21 true 15 27 ?_
    refine zdMove q21 true 16 28 ?_
    refine zdgMove q21 true 17 29 ?_
    refine zdgBinOp q21 true 18 30 ?_
    refine zdgMove q21 true 19 31 ?_
    refine zdgMove q21 true 20 32 ?_
    refine zdgMove q21 true 21 33 ?_
    refine zdgBinOpW q21 true 22 34 ?_
    refine zdgIndexAddr q21 true 23 35 ?_
    refine zdgFieldAddr q21 true 24 36 ?_
    refine zdgLoad q21 true 25 37 ?_
    refine zdgFieldAddr q21 true 26 38 ?_
    refine zdgLoad q21 true 27 39 ?_
    refine zdgBinOp q21 true 28 40 ?_
    refine zdgPick q21 true 29 41 ?_
    refine zdPick q21 true 30 42 ?_
    refine aAny_done (by kernel_rfl) ?_
    refine k21 _ ?_
    refine n20 _ _ (weak_keep [0, 5, 6, 7, 42] _) ?_
    refine zk ⟨?_⟩
    refine v_condS _ rfl ?_ ?_
    ·intro hc1
     refine v_seqR [2] ?_; intro K23 k23
     refine zAssign ⟨?_⟩
     refine k23 _ ?_
     refine zk ⟨?_⟩
     refine v_ret ?_
     refine r18 _ ?_
     refine r17 _ ?_
     refine r5 _ ?_
     refine r4 _ ?_
     refine r2 _ ?_
     refine r0 _ ?_
     refine zf ⟨?_⟩
     exact ret_pure rfl (by rw [dsB, ← hR, hst]; clear hR hst; simp [dOne, dBefore] at *; intros; omega) (.inl rfl)
    ·intro hc1
     refine v_skip ?_
     refine n18 _ ?_
     refine n17 _ _ (weak_keep [0, 5, 6, 7] _) ?_
     refine zk ⟨?_⟩
     refine v_region ?_; intro K24 k24
     refine zBinOpW ⟨?_⟩
     refine zMove ⟨?_⟩
     refine k24 _ ?_
     refine n5 _ (i + 1) ?_ ?_ ?_
     ·refine weak_bothS [0, 5, 6, 7] [] ⟨?_⟩
      rfl
     ·exact ⟨by omega, by rw [← hR, hst]; clear hR hst; have hone : dOne (x0, x1, x2, x3) = true := (by simp [dOne] at *; omega); first | (simp [hone]; done) | (have hbt : dBefore (y0, y1, y2, y3) (x0, x1, x2, x3) = true := (by simp [dBefore] at *; omega); simp [hone, hbt])⟩
     ·show _ < _; omega
  ·intro hc0
   refine v_exit ?_
   refine e7 _ _ ?_
   refine e5 _ _ ?_
   refine x4 _ ?_
   refine n2 _ _ (weak_keep [0] _) ?_
   refine zk ⟨?_⟩
   refine v_seqR [2] ?_; intro K25 k25
   refine zMove ⟨?_⟩
   refine zLen ⟨?_⟩
   refine zBinOp ⟨?_⟩
   refine zAssign ⟨?_⟩
   refine k25 _ ?_
   refine zk ⟨?_⟩
   refine v_ret ?_
   refine r0 _ ?_
   refine zf ⟨?_⟩
   exact ret_pure rfl (by rw [dsB, ← hR, chain_end (by omega)]; simp) (.inl rfl)
set_option maxHeartbeats 1000000 in
theorem alSignals_con (l : List (Int × Int)) (hl : l.length ≤ 1048576) : Con Tryd.prog 136 [.sl (l.map (fun t : Int × Int => V.agg [V.int .i64 t.1, V.int .i64 t.2]))] [] (.bool (ssB l)) [] := by
 refine v_con [.tmp 2] [] Tryd.func136 rfl rfl rfl (by simp [Tryd.ntmps136]) ?_
 intro Q0 n0 r0
 simp only [Tryd.ntmps136, envFrom, Nat.reduceAdd]
 have T := Tys.mk (And.intro Ty.t3 (And.intro Ty.t4 (And.intro Ty.t51 Ty.t65)))
 have F := Fc.mk True.intro
 refine v_seqR [0] ?_; intro K1 k1
 refine zAssign ⟨?_⟩
 refine k1 _ ?_
 refine zk ⟨?_⟩
 refine v_seq ?_; intro Q2 n2 e2 r2
 refine v_seqR [0,5,6,7] ?_; intro K3 k3
 refine zMove ⟨?_⟩
 refine zLen ⟨?_⟩
 refine zMove ⟨?_⟩
 refine k3 _ ?_
 refine zk ⟨?_⟩
 refine v_block ?_; intro Q4 n4 x4 e4 r4
 refine v_loop (fun i => ⟨[(0, .sl (l.map (fun t : Int × Int => V.agg [V.int .i64 t.1, V.int .i64 t.2]))), (5, .sl (l.map (fun t : Int × Int => V.agg [V.int .i64 t.1, V.int .i64 t.2]))), (6, .int .i64 l.length), (7, .int .i64 (Nat.cast i))], [], false, 41, 0⟩) (fun i => i ≤ l.length ∧ chainAt sOne sBefore l i = chainAt sOne sBefore l 0) (fun i => l.length - i) 0 ?_ ?_ ?_
 ·refine weak_of [0, 5, 6, 7] ?_
  simp only [keep_mk, keepE_nil, keepE_cons, look_cons, look_nil, Nat.reduceEqDiff, reduceIte]
  rfl
 ·exact ⟨Nat.zero_le _, rfl⟩
 ·rintro i hok5 Q5 n5 e5 r5
  obtain ⟨hi1, hR⟩ := hok5
  refine v_seqR [0,5,6,7,8] ?_; intro K6 k6
  refine zBinOp ⟨?_⟩
  refine k6 _ ?_
  refine zk ⟨?_⟩
  refine v_seq ?_; intro Q7 n7 e7 r7
  refine v_condS _ rfl ?_ ?_
  ·intro hc0
   have hlt : i < l.length := by omega
   obtain ⟨⟨x0, x1⟩, hx⟩ : ∃ x : Int × Int, l[i]? = some x := ⟨l[i]'(by omega), List.getElem?_eq_getElem (by omega)⟩
   rcases Nat.eq_zero_or_pos i with h0 | h0
   ·skip
    have hi0 : ¬ ((0 : Int) < (i : Int)) := by omega
    have hst : chainAt sOne sBefore l i = (sOne (x0, x1) && chainAt sOne sBefore l (i + 1)) := by subst h0; exact chain_zero hx
    refine v_skip ?_
    refine n7 _ _ (weak_keep [0, 5, 6, 7] _) ?_
    refine zk ⟨?_⟩
    refine v_seq ?_; intro Q9 n9 e9 r9
    refine v_block ?_; intro Q10 n10 x10 e10 r10
    refine v_seqR [0,3,4,5,6,7] ?_; intro K11 k11
    have F := Fc.mk (And.intro (fun f => getD_map (f := f) hx) (And.intro hi0 (And.intro @decide_false @Bool.and_false)))
    refine zMove ⟨?_⟩
    refine zIndexAddr ⟨?_⟩
    refine zLoad ⟨?_⟩
    refine zAlloc ⟨?_⟩
    refine zAssign ⟨?_⟩
    refine zStore ⟨?_⟩
    refine k11 _ ?_
    refine zk ⟨?_⟩
    refine v_seq ?_; intro Q12 n12 e12 r12
    refine v_draw (by kernel_rfl) ?_; intro K13 q13 k13
    show aAny _ _ _ _ 25 (Array.replicate 25 false) _
    refine zdFieldAddr q13 true 0 12 ?_
    refine zdLoad q13 true 1 13 ?_
    refine zoc 2 (l1In_con _ _ _) ⟨?_⟩
    refine zdUnOp q13 true 3 15 ?_
    refine zdMove q13 true 4 16 ?_
    refine zdgFieldAddr q13 true 5 17 ?_
    refine zdgLoad q13 true 6 18 ?_
    first
    |refine zogc 7 (l1In_con _ _ _) ⟨?_⟩
    |(refine aAny_pass 7 19 4 false rfl rfl (show 19 < 41 by decide) (by kernel_rfl) rfl ?_ ?_; (focus first | rfl | (simp only [zV, guardV, Nat.reduceEqDiff, reduceIte]; done)); simp only [zW, set_some, Nat.reduceEqDiff, reduceIte])
    refine zdgUnOp q13 true 8 20 ?_
    refine zdPick q13 true 9 21 ?_
    refine zdMove q13 true 10 22 ?_
    refine zdgMove q13 true 11 23 ?_
    refine zdgBinOp q13 true 12 24 ?_
    refine zdgMove q13 true 13 25 ?_
    refine zdgMove q13 true 14 26 ?_
    refine zdgMove q13 true 15 27 ?_
    refine zdgBinOpW q13 true 16 28 ?_
    refine zdgIndexAddr q13 true 17 29 ?_
    refine zdgFieldAddr q13 true 18 30 ?_
    refine zdgLoad q13 true 19 31 ?_
    refine zdgFieldAddr q13 true 20 32 ?_
    refine zdgLoad q13 true 21 33 ?_
    refine zdgBinOp q13 true 22 34 ?_
    refine zdgPick q13 true 23 35 ?_
    refine zdPick q13 true 24 36 ?_
    refine aAny_done (by kernel_rfl) ?_
    refine k13 _ ?_
    refine n12 _ _ (weak_keep [0, 5, 6, 7, 36] _) ?_
    refine zk ⟨?_⟩
    refine v_condS _ rfl ?_ ?_
    ·intro hc1
     refine v_seqR [2] ?_; intro K15 k15
     refine zAssign ⟨?_⟩
     refine k15 _ ?_
     refine zk ⟨?_⟩
     refine v_ret ?_
     refine r10 _ ?_
     refine r9 _ ?_
     refine r5 _ ?_
     refine r4 _ ?_
     refine r2 _ ?_
     refine r0 _ ?_
     refine zf ⟨?_⟩
     exact ret_pure rfl (by rw [ssB, ← hR, hst]; clear hR hst; simp [sOne, sBefore] at *; intros; omega) (.inl rfl)
    ·intro hc1
     refine v_skip ?_
     refine n10 _ ?_
     refine n9 _ _ (weak_keep [0, 5, 6, 7] _) ?_
     refine zk ⟨?_⟩
     refine v_region ?_; intro K16 k16
     refine zBinOpW ⟨?_⟩
     refine zMove ⟨?_⟩
     refine k16 _ ?_
     refine n5 _ (i + 1) ?_ ?_ ?_
     ·refine weak_bothS [0, 5, 6, 7] [] ⟨?_⟩
      rfl
     ·exact ⟨by omega, by rw [← hR, hst]; clear hR hst; have hone : sOne (x0, x1) = true := (by simp [sOne] at *; omega); first | (simp [hone]; done) | (have hbt : sBefore (y0, y1) (x0, x1) = true := (by simp [sBefore] at *; omega); simp [hone, hbt])⟩
     ·show _ < _; omega
   ·skip
    obtain ⟨⟨y0, y1⟩, hy⟩ : ∃ x : Int × Int, l[i - 1]? = some x := ⟨l[i - 1]'(by omega), List.getElem?_eq_getElem (by omega)⟩
    have hi0 : (0 : Int) < i := by omega
    have hk : ((i : Int) - 1).toNat = i - 1 := by omega
    have hst := chain_succ (ok := sOne) (bf := sBefore) h0 hy hx
    refine v_skip ?_
    refine n7 _ _ (weak_keep [0, 5, 6, 7] _) ?_
    refine zk ⟨?_⟩
    refine v_seq ?_; intro Q17 n17 e17 r17
    refine v_block ?_; intro Q18 n18 x18 e18 r18
    refine v_seqR [0,3,4,5,6,7] ?_; intro K19 k19
    have F := Fc.mk (And.intro (fun f => getD_map (f := f) hx) (And.intro hi0 (And.intro hk (And.intro (fun f => getD_map (f := f) hy) (And.intro @decide_true @Bool.and_true)))))
    refine zMove ⟨?_⟩
    refine zIndexAddr ⟨?_⟩
    refine zLoad ⟨?_⟩
    refine zAlloc ⟨?_⟩
    refine zAssign ⟨?_⟩
    refine zStore ⟨?_⟩
    refine k19 _ ?_
    refine zk ⟨?_⟩
    refine v_seq ?_; intro Q20 n20 e20 r20
    refine v_draw (by kernel_rfl) ?_; intro K21 q21 k21
    show aAny _ _ _ _ 25 (Array.replicate 25 false) _
    refine zdFieldAddr q21 true 0 12 ?_
    refine zdLoad q21 true 1 13 ?_
    refine zoc 2 (l1In_con _ _ _) ⟨?_⟩
    refine zdUnOp q21 true 3 15 ?_
    refine zdMove q21 true 4 16 ?_
    refine zdgFieldAddr q21 true 5 17 ?_
    refine zdgLoad q21 true 6 18 ?_
    first
    |refine zogc 7 (l1In_con _ _ _) ⟨?_⟩
    |(refine aAny_pass 7 19 4 false rfl rfl (show 19 < 41 by decide) (by kernel_rfl) rfl ?_ ?_; (focus first | rfl | (simp only [zV, guardV, Nat.reduceEqDiff, reduceIte]; done)); simp only [zW, set_some, Nat.reduceEqDiff, reduceIte])
    refine zdgUnOp q21 true 8 20 ?_
    refine zdPick q21 true 9 21 ?_
    refine zdMove q21 true 10 22 ?_
    refine zdgMove q21 true 11 23 ?_
    refine zdgBinOp q21 true 12 24 ?_
    refine zdgMove q21 true 13 25 ?_
    refine zdgMove q21 true 14 26 ?_
    refine zdgMove q21 true 15 27 ?_
    refine zdgBinOpW q21 true 16 28 ?_
    refine zdgIndexAddr q21 true 17 29 ?_
    refine zdgFieldAddr q21 true 18 30 ?_
    refine zdgLoad q21 true 19 31 ?_
    refine zdgFieldAddr q21 true 20 32 ?_
    refine zdgLoad q21 true 21 33 ?_
    refine zdgBinOp q21 true 22 34 ?_
    refine zdgPick q21 true 23 35 ?_
    refine zdPick q21 true 24 36 ?_
    refine aAny_done (by kernel_rfl) ?_
    refine k21 _ ?_
    refine n20 _ _ (weak_keep [0, 5, 6, 7, 36] _) ?_
    refine zk ⟨?_⟩
    refine v_condS _ rfl ?_ ?_
    ·intro hc1
     refine v_seqR [2] ?_; intro K23 k23
     refine zAssign ⟨?_⟩
     refine k23 _ ?_
     refine zk ⟨?_⟩
     refine v_ret ?_
     refine r18 _ ?_
     refine r17 _ ?_
     refine r5 _ ?_
     refine r4 _ ?_
     refine r2 _ ?_
     refine r0 _ ?_
     refine zf ⟨?_⟩
     exact ret_pure rfl (by rw [ssB, ← hR, hst]; clear hR hst; simp [sOne, sBefore] at *; intros; omega) (.inl rfl)
    ·intro hc1
     refine v_skip ?_
     refine n18 _ ?_
     refine n17 _ _ (weak_keep [0, 5, 6, 7] _) ?_
     refine zk ⟨?_⟩
     refine v_region ?_; intro K24 k24
     refine zBinOpW ⟨?_⟩
     refine zMove ⟨?_⟩
     refine k24 _ ?_
     refine n5 _ (i + 1) ?_ ?_ ?_
     ·refine weak_bothS [0, 5, 6, 7] [] ⟨?_⟩
      rfl
     ·exact ⟨by omega, by rw [← hR, hst]; clear hR hst; have hone : sOne (x0, x1) = true := (by simp [sOne] at *; omega); first | (simp [hone]; done) | (have hbt : sBefore (y0, y1) (x0, x1) = true := (by simp [sBefore] at *; omega); simp [hone, hbt])⟩
     ·show _ < _; omega
  ·intro hc0
   refine v_exit ?_
   refine e7 _ _ ?_
   refine e5 _ _ ?_
   refine x4 _ ?_
   refine n2 _ _ (weak_keep [0] _) ?_
   refine zk ⟨?_⟩
   refine v_seqR [2] ?_; intro K25 k25
   refine zMove ⟨?_⟩
   refine zLen ⟨?_⟩
   refine zBinOp ⟨?_⟩
   refine zAssign ⟨?_⟩
   refine k25 _ ?_
   refine zk ⟨?_⟩
   refine v_ret ?_
   refine r0 _ ?_
   refine zf ⟨?_⟩
   exact ret_pure rfl (by rw [ssB, ← hR, chain_end (by omega)]; simp) (.inl rfl)
set_option maxHeartbeats 1000000 in
theorem alFind_con (l : List (Int × Int × Int × Bool)) (n : Int) (hl : l.length ≤ 1048576) : Con Tryd.prog 126 [.sl (l.map (fun t : Int × Int × Int × Bool => V.agg [V.int .i64 t.1, V.int .i64 t.2.1, V.int .i64 t.2.2.1, V.bool t.2.2.2])), .int .i64 n] [] (.int .i64 (findD n 0 l)) [] := by
 refine v_con [.tmp 4] [] Tryd.func126 rfl rfl rfl (by simp [Tryd.ntmps126]) ?_
 intro Q0 n0 r0
 simp only [Tryd.ntmps126, envFrom, Nat.reduceAdd]
 have T := Tys.mk (And.intro Ty.t3 (And.intro Ty.t4 (And.intro Ty.t33 Ty.t61)))
 have F := Fc.mk True.intro
 refine v_seqR [0,1] ?_; intro K1 k1
 refine zAssign ⟨?_⟩
 refine k1 _ ?_
 refine zk ⟨?_⟩
 refine v_seq ?_; intro Q2 n2 e2 r2
 refine v_seqR [1,7,8,9] ?_; intro K3 k3
 refine zMove ⟨?_⟩
 refine zLen ⟨?_⟩
 refine zMove ⟨?_⟩
 refine k3 _ ?_
 refine zk ⟨?_⟩
 refine v_block ?_; intro Q4 n4 x4 e4 r4
 refine v_loop (fun i => ⟨[(1, .int .i64 n), (7, .sl (l.map (fun t : Int × Int × Int × Bool => V.agg [V.int .i64 t.1, V.int .i64 t.2.1, V.int .i64 t.2.2.1, V.bool t.2.2.2]))), (8, .int .i64 l.length), (9, .int .i64 (Nat.cast i))], [], false, 20, 0⟩) (fun i => i ≤ l.length ∧ findD n i (l.drop i) = findD n 0 l) (fun i => l.length - i) 0 ?_ ?_ ?_
 ·refine weak_of [1, 7, 8, 9] ?_
  simp only [keep_mk, keepE_nil, keepE_cons, look_cons, look_nil, Nat.reduceEqDiff, reduceIte]
  rfl
 ·exact ⟨Nat.zero_le _, rfl⟩
 ·rintro i hok5 Q5 n5 e5 r5
  obtain ⟨hi1, hR⟩ := hok5
  refine v_seqR [1,7,8,9,10] ?_; intro K6 k6
  refine zBinOp ⟨?_⟩
  refine k6 _ ?_
  refine zk ⟨?_⟩
  refine v_seq ?_; intro Q7 n7 e7 r7
  refine v_condS _ rfl ?_ ?_
  ·intro hc0
   have hlt : i < l.length := by omega
   obtain ⟨⟨x0, x1, x2, x3⟩, hx⟩ : ∃ x : Int × Int × Int × Bool, l[i]? = some x := ⟨l[i]'(by omega), List.getElem?_eq_getElem (by omega)⟩
   have hst := find_stepD (n := n) hx
   refine v_skip ?_
   refine n7 _ _ (weak_keep [1, 7, 8, 9] _) ?_
   refine zk ⟨?_⟩
   refine v_seq ?_; intro Q9 n9 e9 r9
   refine v_block ?_; intro Q10 n10 x10 e10 r10
   refine v_seqR [1,5,6,7,8,9] ?_; intro K11 k11
   have F := Fc.mk (fun f => getD_map (f := f) hx)
   refine zMove ⟨?_⟩
   refine zIndexAddr ⟨?_⟩
   refine zLoad ⟨?_⟩
   refine zAlloc ⟨?_⟩
   refine zAssign ⟨?_⟩
   refine zStore ⟨?_⟩
   refine k11 _ ?_
   refine zk ⟨?_⟩
   refine v_seqR [1,5,7,8,9,17] ?_; intro K12 k12
   refine zFieldAddr ⟨?_⟩
   refine zLoad ⟨?_⟩
   refine zMove ⟨?_⟩
   refine zBinOp ⟨?_⟩
   refine k12 _ ?_
   refine zk ⟨?_⟩
   refine v_condS _ rfl ?_ ?_
   ·intro hc1
    refine v_seqR [4] ?_; intro K14 k14
    refine zMove ⟨?_⟩
    refine zAssign ⟨?_⟩
    refine k14 _ ?_
    refine zk ⟨?_⟩
    refine v_ret ?_
    refine r10 _ ?_
    refine r9 _ ?_
    refine r5 _ ?_
    refine r4 _ ?_
    refine r2 _ ?_
    refine r0 _ ?_
    refine zf ⟨?_⟩
    exact ret_pure rfl (by rw [← hR, hst, if_pos hc1]) (.inl rfl)
   ·intro hc1
    refine v_skip ?_
    refine n10 _ ?_
    refine n9 _ _ (weak_keep [1, 7, 8, 9] _) ?_
    refine zk ⟨?_⟩
    refine v_region ?_; intro K15 k15
    refine zBinOpW ⟨?_⟩
    refine zMove ⟨?_⟩
    refine k15 _ ?_
    refine n5 _ (i + 1) ?_ ?_ ?_
    ·refine weak_bothS [1, 7, 8, 9] [] ⟨?_⟩
     rfl
    ·exact ⟨by omega, by rw [← hR, hst, if_neg hc1]⟩
    ·show _ < _; omega
  ·intro hc0
   refine v_exit ?_
   refine e7 _ _ ?_
   refine e5 _ _ ?_
   refine x4 _ ?_
   refine n2 _ _ (weak_keep [] _) ?_
   refine zk ⟨?_⟩
   refine v_seqR [4] ?_; intro K16 k16
   refine zAssign ⟨?_⟩
   refine k16 _ ?_
   refine zk ⟨?_⟩
   refine v_ret ?_
   refine r0 _ ?_
   refine zf ⟨?_⟩
   exact ret_pure rfl (by rw [← hR, find_endD (by omega)]) (.inl rfl)
set_option maxHeartbeats 1000000 in
theorem areDetectors_con (l : List (Int × Int × Int × Bool)) (hl : l.length ≤ 1048576) : Con Tryd.prog 112 [.sl (l.map (fun t : Int × Int × Int × Bool => V.agg [V.int .i64 t.1, V.int .i64 t.2.1, V.int .i64 t.2.2.1, V.bool t.2.2.2]))] [] (.bool (dsB l)) [] := by
 refine v_con [.tmp 2] [] Tryd.func112 rfl rfl rfl (by simp [Tryd.ntmps112]) ?_
 intro Q0 n0 r0
 simp only [Tryd.ntmps112, envFrom, Nat.reduceAdd]
 have T := Tys.mk (And.intro Ty.t3 (And.intro Ty.t4 (And.intro Ty.t33 Ty.t61)))
 have F := Fc.mk True.intro
 refine v_seqR [0] ?_; intro K1 k1
 refine zAssign ⟨?_⟩
 refine k1 _ ?_
 refine zk ⟨?_⟩
 refine v_seq ?_; intro Q2 n2 e2 r2
 refine v_seqR [0,5,6,7] ?_; intro K3 k3
 refine zMove ⟨?_⟩
 refine zLen ⟨?_⟩
 refine zMove ⟨?_⟩
 refine k3 _ ?_
 refine zk ⟨?_⟩
 refine v_block ?_; intro Q4 n4 x4 e4 r4
 refine v_loop (fun i => ⟨[(0, .sl (l.map (fun t : Int × Int × Int × Bool => V.agg [V.int .i64 t.1, V.int .i64 t.2.1, V.int .i64 t.2.2.1, V.bool t.2.2.2]))), (5, .sl (l.map (fun t : Int × Int × Int × Bool => V.agg [V.int .i64 t.1, V.int .i64 t.2.1, V.int .i64 t.2.2.1, V.bool t.2.2.2]))), (6, .int .i64 l.length), (7, .int .i64 (Nat.cast i))], [], false, 47, 0⟩) (fun i => i ≤ l.length ∧ chainAt dOne dBefore l i = chainAt dOne dBefore l 0) (fun i => l.length - i) 0 ?_ ?_ ?_
 ·refine weak_of [0, 5, 6, 7] ?_
  simp only [keep_mk, keepE_nil, keepE_cons, look_cons, look_nil, Nat.reduceEqDiff, reduceIte]
  rfl
 ·exact ⟨Nat.zero_le _, rfl⟩
 ·rintro i hok5 Q5 n5 e5 r5
  obtain ⟨hi1, hR⟩ := hok5
  refine v_seqR [0,5,6,7,8] ?_; intro K6 k6
  refine zBinOp ⟨?_⟩
  refine k6 _ ?_
  refine zk ⟨?_⟩
  refine v_seq ?_; intro Q7 n7 e7 r7
  refine v_condS _ rfl ?_ ?_
  ·intro hc0
   have hlt : i < l.length := by omega
   obtain ⟨⟨x0, x1, x2, x3⟩, hx⟩ : ∃ x : Int × Int × Int × Bool, l[i]? = some x := ⟨l[i]'(by omega), List.getElem?_eq_getElem (by omega)⟩
   rcases Nat.eq_zero_or_pos i with h0 | h0
   ·skip
    have hi0 : ¬ ((0 : Int) < (i : Int)) := by omega
    have hst : chainAt dOne dBefore l i = (dOne (x0, x1, x2, x3) && chainAt dOne dBefore l (i + 1)) := by subst h0; exact chain_zero hx
    refine v_skip ?_
    refine n7 _ _ (weak_keep [0, 5, 6, 7] _) ?_
    refine zk ⟨?_⟩
    refine v_seq ?_; intro Q9 n9 e9 r9
    refine v_block ?_; intro Q10 n10 x10 e10 r10
    refine v_seqR [0,3,4,5,6,7] ?_; intro K11 k11
    have F := Fc.mk (And.intro (fun f => getD_map (f := f) hx) (And.intro hi0 (And.intro @decide_false @Bool.and_false)))
    refine zMove ⟨?_⟩
    refine zIndexAddr ⟨?_⟩
    refine zLoad ⟨?_⟩
    refine zAlloc ⟨?_⟩
    refine zAssign ⟨?_⟩
    refine zStore ⟨?_⟩
    refine k11 _ ?_
    refine zk ⟨?_⟩
    refine v_seq ?_; intro Q12 n12 e12 r12
    refine v_draw (by kernel_rfl) ?_; intro K13 q13 k13
    show aAny _ _ _ _ 31 (Array.replicate 31 false) _
    refine zdFieldAddr q13 true 0 12 ?_
    refine zdLoad q13 true 1 13 ?_
    refine zoc 2 (inside_con _ _ _) ⟨?_⟩
    refine zdUnOp q13 true 3 15 ?_
    refine zdMove q13 true 4 16 ?_
    refine zdgFieldAddr q13 true 5 17 ?_
    refine zdgLoad q13 true 6 18 ?_
    first
    |refine zogc 7 (inside_con _ _ _) ⟨?_⟩
    |(refine aAny_pass 7 19 4 false rfl rfl (show 19 < 47 by decide) (by kernel_rfl) rfl ?_ ?_; (focus first | rfl | (simp only [zV, guardV, Nat.reduceEqDiff, reduceIte]; done)); simp only [zW, set_some, Nat.reduceEqDiff, reduceIte])
    refine zdgUnOp q13 true 8 20 ?_
    refine zdPick q13 true 9 21 ?_
    refine zdMove q13 true 10 22 ?_
    refine zdgFieldAddr q13 true 11 23 ?_
    refine zdgLoad q13 true 12 24 ?_
    first
    |refine zogc 13 (inside_con _ _ _) ⟨?_⟩
    |(refine aAny_pass 13 25 10 false rfl rfl (show 25 < 47 by decide) (by kernel_rfl) rfl ?_ ?_; (focus first | rfl | (simp only [zV, guardV, Nat.reduceEqDiff, reduceIte]; done)); simp only [zW, set_some, Nat.reduceEqDiff, reduceIte])
    refine zdgUnOp q13 true 14 26 ?_
    refine zdPick q13 true 15 27 ?_
    refine zdMove q13 true 16 28 ?_
    refine zdgMove q13 true 17 29 ?_
    refine zdgBinOp q13 true 18 30 ?_
    refine zdgMove q13 true 19 31 ?_
    refine zdgMove q13 true 20 32 ?_
    refine zdgMove q13 true 21 33 ?_
    refine zdgBinOpW q13 true 22 34 ?_
    refine zdgIndexAddr q13 true 23 35 ?_
    refine zdgFieldAddr q13 true 24 36 ?_
    refine zdgLoad q13 true 25 37 ?_
    refine zdgFieldAddr q13 true 26 38 ?_
    refine zdgLoad q13 true 27 39 ?_
    refine zdgBinOp q13 true 28 40 ?_
    refine zdgPick q13 true 29 41 ?_
    refine zdPick q13 true 30 42 ?_
    refine aAny_done (by kernel_rfl) ?_
    refine k13 _ ?_
    refine n12 _ _ (weak_keep [0, 5, 6, 7, 42] _) ?_
    refine zk ⟨?_⟩
    refine v_condS _ rfl ?_ ?_
    ·intro hc1
     refine v_seqR [2] ?_; intro K15 k15
     refine zAssign ⟨?_⟩
     refine k15 _ ?_
     refine zk ⟨?_⟩
     refine v_ret ?_
     refine r10 _ ?_
     refine r9 _ ?_
     refine r5 _ ?_
     refine r4 _ ?_
     refine r2 _ ?_
     refine r0 _ ?_
     refine zf ⟨?_⟩
     exact ret_pure rfl (by rw [dsB, ← hR, hst]; clear hR hst; simp [dOne, dBefore] at *; intros; omega) (.inl rfl)
    ·intro hc1
     refine v_skip ?_
     refine n10 _ ?_
     refine n9 _ _ (weak_keep [0, 5, 6, 7] _) ?_
     refine zk ⟨?_⟩
     refine v_region ?_; intro K16 k16
     refine zBinOpW ⟨?_⟩
     refine zMove ⟨?_⟩
     refine k16 _ ?_
     refine n5 _ (i + 1) ?_ ?_ ?_
     ·refine weak_bothS [0, 5, 6, 7] [] ⟨?_⟩
      rfl
     ·exact ⟨by omega, by rw [← hR, hst]; clear hR hst; have hone : dOne (x0, x1, x2, x3) = true := (by simp [dOne] at *; omega); first | (simp [hone]; done) | (have hbt : dBefore (y0, y1, y2, y3) (x0, x1, x2, x3) = true := (by simp [dBefore] at *; omega); simp [hone, hbt])⟩
     ·show _ < _; omega
   ·skip
    obtain ⟨⟨y0, y1, y2, y3⟩, hy⟩ : ∃ x : Int × Int × Int × Bool, l[i - 1]? = some x := ⟨l[i - 1]'(by omega), List.getElem?_eq_getElem (by omega)⟩
    have hi0 : (0 : Int) < i := by omega
    have hk : ((i : Int) - 1).toNat = i - 1 := by omega
    have hst := chain_succ (ok := dOne) (bf := dBefore) h0 hy hx
    refine v_skip ?_
    refine n7 _ _ (weak_keep [0, 5, 6, 7] _) ?_
    refine zk ⟨?_⟩
    refine v_seq ?_; intro Q17 n17 e17 r17
    refine v_block ?_; intro Q18 n18 x18 e18 r18
    refine v_seqR [0,3,4,5,6,7] ?_; intro K19 k19
    have F := Fc.mk (And.intro (fun f => getD_map (f := f) hx) (And.intro hi0 (And.intro hk (And.intro (fun f => getD_map (f := f) hy) (And.intro @decide_true @Bool.and_true)))))
    refine zMove ⟨?_⟩
    refine zIndexAddr ⟨?_⟩
    refine zLoad ⟨?_⟩
    refine zAlloc ⟨?_⟩
    refine zAssign ⟨?_⟩
    refine zStore ⟨?_⟩
    refine k19 _ ?_
    refine zk ⟨?_⟩
    refine v_seq ?_; intro Q20 n20 e20 r20
    refine v_draw (by kernel_rfl) ?_; intro K21 q21 k21
    show aAny _ _ _ _ 31 (Array.replicate 31 false) _
    refine zdFieldAddr q21 true 0 12 ?_
    refine zdLoad q21 true 1 13 ?_
    refine zoc 2 (inside_con _ _ _) ⟨?_⟩
    refine zdUnOp q21 true 3 15 ?_
    refine zdMove q21 true 4 16 ?_
    refine zdgFieldAddr q21 true 5 17 ?_
    refine zdgLoad q21 true 6 18 ?_
    first
    |refine zogc 7 (inside_con _ _ _) ⟨?_⟩
    |(refine aAny_pass 7 19 4 false rfl rfl (show 19 < 47 by decide) (by kernel_rfl) rfl ?_ ?_; (focus first | rfl | (simp only [zV, guardV, Nat.reduceEqDiff, reduceIte]; done)); simp only [zW, set_some, Nat.reduceEqDiff, reduceIte])
    refine zdgUnOp q21 true 8 20 ?_
    refine zdPick q21 true 9 21 ?_
    refine zdMove q21 true 10 22 ?_
    refine zdgFieldAddr q21 true 11 23 ?_
    refine zdgLoad q21 true 12 24 ?_
    first
    |refine zogc 13 (inside_con _ _ _) ⟨?_⟩
    |(refine aAny_pass 13 25 10 false rfl rfl (show 25 < 47 by decide) (by kernel_rfl) rfl ?_ ?_; (focus first | rfl | (simp only [zV, guardV, Nat.reduceEqDiff, reduceIte]; done)); simp only [zW, set_some, Nat.reduceEqDiff, reduceIte])
    refine zdgUnOp q21 true 14 26 ?_
    refine zdPick q21 true 15 27 ?_
    refine zdMove q21 true 16 28 ?_
    refine zdgMove q21 true 17 29 ?_
    refine zdgBinOp q21 true 18 30 ?_
    refine zdgMove q21 true 19 31 ?_
    refine zdgMove q21 true 20 32 ?_
    refine zdgMove q21 true 21 33 ?_
    refine zdgBinOpW q21 true 22 34 ?_
    refine zdgIndexAddr q21 true 23 35 ?_
    refine zdgFieldAddr q21 true 24 36 ?_
    refine zdgLoad q21 true 25 37 ?_
    refine zdgFieldAddr q21 true 26 38 ?_
    refine zdgLoad q21 true 27 39 ?_
    refine zdgBinOp q21 true 28 40 ?_
    refine zdgPick q21 true 29 41 ?_
    refine zdPick q21 true 30 42 ?_
    refine aAny_done (by kernel_rfl) ?_
    refine k21 _ ?_
    refine n20 _ _ (weak_keep [0, 5, 6, 7, 42] _) ?_
    refine zk ⟨?_⟩
    refine v_condS _ rfl ?_ ?_
    ·intro hc1
     refine v_seqR [2] ?_; intro K23 k23
     refine zAssign ⟨?_⟩
     refine k23 _ ?_
     refine zk ⟨?_⟩
     refine v_ret ?_
     refine r18 _ ?_
     refine r17 _ ?_
     refine r5 _ ?_
     refine r4 _ ?_
     refine r2 _ ?_
     refine r0 _ ?_
     refine zf ⟨?_⟩
     exact ret_pure rfl (by rw [dsB, ← hR, hst]; clear hR hst; simp [dOne, dBefore] at *; intros; omega) (.inl rfl)
    ·intro hc1
     refine v_skip ?_
     refine n18 _ ?_
     refine n17 _ _ (weak_keep [0, 5, 6, 7] _) ?_
     refine zk ⟨?_⟩
     refine v_region ?_; intro K24 k24
     refine zBinOpW ⟨?_⟩
     refine zMove ⟨?_⟩
     refine k24 _ ?_
     refine n5 _ (i + 1) ?_ ?_ ?_
     ·refine weak_bothS [0, 5, 6, 7] [] ⟨?_⟩
      rfl
     ·exact ⟨by omega, by rw [← hR, hst]; clear hR hst; have hone : dOne (x0, x1, x2, x3) = true := (by simp [dOne] at *; omega); first | (simp [hone]; done) | (have hbt : dBefore (y0, y1, y2, y3) (x0, x1, x2, x3) = true := (by simp [dBefore] at *; omega); simp [hone, hbt])⟩
     ·show _ < _; omega
  ·intro hc0
   refine v_exit ?_
   refine e7 _ _ ?_
   refine e5 _ _ ?_
   refine x4 _ ?_
   refine n2 _ _ (weak_keep [0] _) ?_
   refine zk ⟨?_⟩
   refine v_seqR [2] ?_; intro K25 k25
   refine zMove ⟨?_⟩
   refine zLen ⟨?_⟩
   refine zBinOp ⟨?_⟩
   refine zAssign ⟨?_⟩
   refine k25 _ ?_
   refine zk ⟨?_⟩
   refine v_ret ?_
   refine r0 _ ?_
   refine zf ⟨?_⟩
   exact ret_pure rfl (by rw [dsB, ← hR, chain_end (by omega)]; simp) (.inl rfl)
set_option maxHeartbeats 1000000 in
theorem areSignals_con (l : List (Int × Int)) (hl : l.length ≤ 1048576) : Con Tryd.prog 129 [.sl (l.map (fun t : Int × Int => V.agg [V.int .i64 t.1, V.int .i64 t.2]))] [] (.bool (ssB l)) [] := by
 refine v_con [.tmp 2] [] Tryd.func129 rfl rfl rfl (by simp [Tryd.ntmps129]) ?_
 intro Q0 n0 r0
 simp only [Tryd.ntmps129, envFrom, Nat.reduceAdd]
 have T := Tys.mk (And.intro Ty.t3 (And.intro Ty.t4 (And.intro Ty.t51 Ty.t65)))
 have F := Fc.mk True.intro
 refine v_seqR [0] ?_; intro K1 k1
 refine zAssign ⟨?_⟩
 refine k1 _ ?_
 refine zk ⟨?_⟩
 refine v_seq ?_; intro Q2 n2 e2 r2
 refine v_seqR [0,5,6,7] ?_; intro K3 k3
 refine zMove ⟨?_⟩
 refine zLen ⟨?_⟩
 refine zMove ⟨?_⟩
 refine k3 _ ?_
 refine zk ⟨?_⟩
 refine v_block ?_; intro Q4 n4 x4 e4 r4
 refine v_loop (fun i => ⟨[(0, .sl (l.map (fun t : Int × Int => V.agg [V.int .i64 t.1, V.int .i64 t.2]))), (5, .sl (l.map (fun t : Int × Int => V.agg [V.int .i64 t.1, V.int .i64 t.2]))), (6, .int .i64 l.length), (7, .int .i64 (Nat.cast i))], [], false, 41, 0⟩) (fun i => i ≤ l.length ∧ chainAt sOne sBefore l i = chainAt sOne sBefore l 0) (fun i => l.length - i) 0 ?_ ?_ ?_
 ·refine weak_of [0, 5, 6, 7] ?_
  simp only [keep_mk, keepE_nil, keepE_cons, look_cons, look_nil, Nat.reduceEqDiff, reduceIte]
  rfl
 ·exact ⟨Nat.zero_le _, rfl⟩
 ·rintro i hok5 Q5 n5 e5 r5
  obtain ⟨hi1, hR⟩ := hok5
  refine v_seqR [0,5,6,7,8] ?_; intro K6 k6
  refine zBinOp ⟨?_⟩
  refine k6 _ ?_
  refine zk ⟨?_⟩
  refine v_seq ?_; intro Q7 n7 e7 r7
  refine v_condS _ rfl ?_ ?_
  ·intro hc0
   have hlt : i < l.length := by omega
   obtain ⟨⟨x0, x1⟩, hx⟩ : ∃ x : Int × Int, l[i]? = some x := ⟨l[i]'(by omega), List.getElem?_eq_getElem (by omega)⟩
   rcases Nat.eq_zero_or_pos i with h0 | h0
   ·skip
    have hi0 : ¬ ((0 : Int) < (i : Int)) := by omega
    have hst : chainAt sOne sBefore l i = (sOne (x0, x1) && chainAt sOne sBefore l (i + 1)) := by subst h0; exact chain_zero hx
    refine v_skip ?_
    refine n7 _ _ (weak_keep [0, 5, 6, 7] _) ?_
    refine zk ⟨?_⟩
    refine v_seq ?_; intro Q9 n9 e9 r9
    refine v_block ?_; intro Q10 n10 x10 e10 r10
    refine v_seqR [0,3,4,5,6,7] ?_; intro K11 k11
    have F := Fc.mk (And.intro (fun f => getD_map (f := f) hx) (And.intro hi0 (And.intro @decide_false @Bool.and_false)))
    refine zMove ⟨?_⟩
    refine zIndexAddr ⟨?_⟩
    refine zLoad ⟨?_⟩
    refine zAlloc ⟨?_⟩
    refine zAssign ⟨?_⟩
    refine zStore ⟨?_⟩
    refine k11 _ ?_
    refine zk ⟨?_⟩
    refine v_seq ?_; intro Q12 n12 e12 r12
    refine v_draw (by kernel_rfl) ?_; intro K13 q13 k13
    show aAny _ _ _ _ 25 (Array.replicate 25 false) _
    refine zdFieldAddr q13 true 0 12 ?_
    refine zdLoad q13 true 1 13 ?_
    refine zoc 2 (inside_con _ _ _) ⟨?_⟩
    refine zdUnOp q13 true 3 15 ?_
    refine zdMove q13 true 4 16 ?_
    refine zdgFieldAddr q13 true 5 17 ?_
    refine zdgLoad q13 true 6 18 ?_
    first
    |refine zogc 7 (inside_con _ _ _) ⟨?_⟩
    |(refine aAny_pass 7 19 4 false rfl rfl (show 19 < 41 by decide) (by kernel_rfl) rfl ?_ ?_; (focus first | rfl | (simp only [zV, guardV, Nat.reduceEqDiff, reduceIte]; done)); simp only [zW, set_some, Nat.reduceEqDiff, reduceIte])
    refine zdgUnOp q13 true 8 20 ?_
    refine zdPick q13 true 9 21 ?_
    refine zdMove q13 true 10 22 ?_
    refine zdgMove q13 true 11 23 ?_
    refine zdgBinOp q13 true 12 24 ?_
    refine zdgMove q13 true 13 25 ?_
    refine zdgMove q13 true 14 26 ?_
    refine zdgMove q13 true 15 27 ?_
    refine zdgBinOpW q13 true 16 28 ?_
    refine zdgIndexAddr q13 true 17 29 ?_
    refine zdgFieldAddr q13 true 18 30 ?_
    refine zdgLoad q13 true 19 31 ?_
    refine zdgFieldAddr q13 true 20 32 ?_
    refine zdgLoad q13 true 21 33 ?_
    refine zdgBinOp q13 true 22 34 ?_
    refine zdgPick q13 true 23 35 ?_
    refine zdPick q13 true 24 36 ?_
    refine aAny_done (by kernel_rfl) ?_
    refine k13 _ ?_
    refine n12 _ _ (weak_keep [0, 5, 6, 7, 36] _) ?_
    refine zk ⟨?_⟩
    refine v_condS _ rfl ?_ ?_
    ·intro hc1
     refine v_seqR [2] ?_; intro K15 k15
     refine zAssign ⟨?_⟩
     refine k15 _ ?_
     refine zk ⟨?_⟩
     refine v_ret ?_
     refine r10 _ ?_
     refine r9 _ ?_
     refine r5 _ ?_
     refine r4 _ ?_
     refine r2 _ ?_
     refine r0 _ ?_
     refine zf ⟨?_⟩
     exact ret_pure rfl (by rw [ssB, ← hR, hst]; clear hR hst; simp [sOne, sBefore] at *; intros; omega) (.inl rfl)
    ·intro hc1
     refine v_skip ?_
     refine n10 _ ?_
     refine n9 _ _ (weak_keep [0, 5, 6, 7] _) ?_
     refine zk ⟨?_⟩
     refine v_region ?_; intro K16 k16
     refine zBinOpW ⟨?_⟩
     refine zMove ⟨?_⟩
     refine k16 _ ?_
     refine n5 _ (i + 1) ?_ ?_ ?_
     ·refine weak_bothS [0, 5, 6, 7] [] ⟨?_⟩
      rfl
     ·exact ⟨by omega, by rw [← hR, hst]; clear hR hst; have hone : sOne (x0, x1) = true := (by simp [sOne] at *; omega); first | (simp [hone]; done) | (have hbt : sBefore (y0, y1) (x0, x1) = true := (by simp [sBefore] at *; omega); simp [hone, hbt])⟩
     ·show _ < _; omega
   ·skip
    obtain ⟨⟨y0, y1⟩, hy⟩ : ∃ x : Int × Int, l[i - 1]? = some x := ⟨l[i - 1]'(by omega), List.getElem?_eq_getElem (by omega)⟩
    have hi0 : (0 : Int) < i := by omega
    have hk : ((i : Int) - 1).toNat = i - 1 := by omega
    have hst := chain_succ (ok := sOne) (bf := sBefore) h0 hy hx
    refine v_skip ?_
    refine n7 _ _ (weak_keep [0, 5, 6, 7] _) ?_
    refine zk ⟨?_⟩
    refine v_seq ?_; intro Q17 n17 e17 r17
    refine v_block ?_; intro Q18 n18 x18 e18 r18
    refine v_seqR [0,3,4,5,6,7] ?_; intro K19 k19
    have F := Fc.mk (And.intro (fun f => getD_map (f := f) hx) (And.intro hi0 (And.intro hk (And.intro (fun f => getD_map (f := f) hy) (And.intro @decide_true @Bool.and_true)))))
    refine zMove ⟨?_⟩
    refine zIndexAddr ⟨?_⟩
    refine zLoad ⟨?_⟩
    refine zAlloc ⟨?_⟩
    refine zAssign ⟨?_⟩
    refine zStore ⟨?_⟩
    refine k19 _ ?_
    refine zk ⟨?_⟩
    refine v_seq ?_; intro Q20 n20 e20 r20
    refine v_draw (by kernel_rfl) ?_; intro K21 q21 k21
    show aAny _ _ _ _ 25 (Array.replicate 25 false) _
    refine zdFieldAddr q21 true 0 12 ?_
    refine zdLoad q21 true 1 13 ?_
    refine zoc 2 (inside_con _ _ _) ⟨?_⟩
    refine zdUnOp q21 true 3 15 ?_
    refine zdMove q21 true 4 16 ?_
    refine zdgFieldAddr q21 true 5 17 ?_
    refine zdgLoad q21 true 6 18 ?_
    first
    |refine zogc 7 (inside_con _ _ _) ⟨?_⟩
    |(refine aAny_pass 7 19 4 false rfl rfl (show 19 < 41 by decide) (by kernel_rfl) rfl ?_ ?_; (focus first | rfl | (simp only [zV, guardV, Nat.reduceEqDiff, reduceIte]; done)); simp only [zW, set_some, Nat.reduceEqDiff, reduceIte])
    refine zdgUnOp q21 true 8 20 ?_
    refine zdPick q21 true 9 21 ?_
    refine zdMove q21 true 10 22 ?_
    refine zdgMove q21 true 11 23 ?_
    refine zdgBinOp q21 true 12 24 ?_
    refine zdgMove q21 true 13 25 ?_
    refine zdgMove q21 true 14 26 ?_
    refine zdgMove q21 true 15 27 ?_
    refine zdgBinOpW q21 true 16 28 ?_
    refine zdgIndexAddr q21 true 17 29 ?_
    refine zdgFieldAddr q21 true 18 30 ?_
    refine zdgLoad q21 true 19 31 ?_
    refine zdgFieldAddr q21 true 20 32 ?_
    refine zdgLoad q21 true 21 33 ?_
    refine zdgBinOp q21 true 22 34 ?_
    refine zdgPick q21 true 23 35 ?_
    refine zdPick q21 true 24 36 ?_
    refine aAny_done (by kernel_rfl) ?_
    refine k21 _ ?_
    refine n20 _ _ (weak_keep [0, 5, 6, 7, 36] _) ?_
    refine zk ⟨?_⟩
    refine v_condS _ rfl ?_ ?_
    ·intro hc1
     refine v_seqR [2] ?_; intro K23 k23
     refine zAssign ⟨?_⟩
     refine k23 _ ?_
     refine zk ⟨?_⟩
     refine v_ret ?_
     refine r18 _ ?_
     refine r17 _ ?_
     refine r5 _ ?_
     refine r4 _ ?_
     refine r2 _ ?_
     refine r0 _ ?_
     refine zf ⟨?_⟩
     exact ret_pure rfl (by rw [ssB, ← hR, hst]; clear hR hst; simp [sOne, sBefore] at *; intros; omega) (.inl rfl)
    ·intro hc1
     refine v_skip ?_
     refine n18 _ ?_
     refine n17 _ _ (weak_keep [0, 5, 6, 7] _) ?_
     refine zk ⟨?_⟩
     refine v_region ?_; intro K24 k24
     refine zBinOpW ⟨?_⟩
     refine zMove ⟨?_⟩
     refine k24 _ ?_
     refine n5 _ (i + 1) ?_ ?_ ?_
     ·refine weak_bothS [0, 5, 6, 7] [] ⟨?_⟩
      rfl
     ·exact ⟨by omega, by rw [← hR, hst]; clear hR hst; have hone : sOne (x0, x1) = true := (by simp [sOne] at *; omega); first | (simp [hone]; done) | (have hbt : sBefore (y0, y1) (x0, x1) = true := (by simp [sBefore] at *; omega); simp [hone, hbt])⟩
     ·show _ < _; omega
  ·intro hc0
   refine v_exit ?_
   refine e7 _ _ ?_
   refine e5 _ _ ?_
   refine x4 _ ?_
   refine n2 _ _ (weak_keep [0] _) ?_
   refine zk ⟨?_⟩
   refine v_seqR [2] ?_; intro K25 k25
   refine zMove ⟨?_⟩
   refine zLen ⟨?_⟩
   refine zBinOp ⟨?_⟩
   refine zAssign ⟨?_⟩
   refine k25 _ ?_
   refine zk ⟨?_⟩
   refine v_ret ?_
   refine r0 _ ?_
   refine zf ⟨?_⟩
   exact ret_pure rfl (by rw [ssB, ← hR, chain_end (by omega)]; simp) (.inl rfl)
theorem snoc_sig {l : List (Int × Int)} {a b : Int} : l.map (fun t : Int × Int => V.agg [V.int .i64 t.1, V.int .i64 t.2]) ++ [V.agg [V.int .i64 a, V.int .i64 b]] = (l ++ [(a, b)]).map (fun t : Int × Int => V.agg [V.int .i64 t.1, V.int .i64 t.2]) := by rw [List.map_append]; rfl
theorem live_step {l : List (Int × Int × Int × Bool)} {s : List (Int × Int)} {i : Nat} {x : (Int × Int)} (h : s[i]? = some x) : (s.take (i + 1)).filter (liveB l) = (s.take i).filter (liveB l) ++ (if liveB l x = true then [x] else []) := by
  rw [List.take_add_one, h, Option.toList_some, List.filter_append]
  congr 1
  by_cases q : liveB l x = true
  · simp [q]
  · simp [q]

set_option maxHeartbeats 1000000 in
theorem alLive_con (l : List (Int × Int × Int × Bool)) (s : List (Int × Int)) (hl : l.length ≤ 1048576) (hs : s.length ≤ 1048576) : Con Tryd.prog 214 [.sl (l.map (fun t : Int × Int × Int × Bool => V.agg [V.int .i64 t.1, V.int .i64 t.2.1, V.int .i64 t.2.2.1, V.bool t.2.2.2])), .sl (s.map (fun t : Int × Int => V.agg [V.int .i64 t.1, V.int .i64 t.2]))] [] (.ref 0) [.arr ((s.filter (liveB l)).map (fun t : Int × Int => V.agg [V.int .i64 t.1, V.int .i64 t.2])) .flat] := by
 refine v_con [.tmp 4] [] Tryd.func214 rfl rfl rfl (by simp [Tryd.ntmps214]) ?_
 intro Q0 n0 r0
 simp only [Tryd.ntmps214, envFrom, Nat.reduceAdd]
 have T := Tys.mk (And.intro Ty.t3 (And.intro Ty.t4 (And.intro Ty.t33 (And.intro Ty.t51 (And.intro Ty.t61 Ty.t65)))))
 have F := Fc.mk True.intro
 refine v_seqR [0,1] ?_; intro K1 k1
 refine zAssign ⟨?_⟩
 refine k1 _ ?_
 refine zk ⟨?_⟩
 refine v_seqR [0,1,5] ?_; intro K2 k2
 refine zAssign ⟨?_⟩
 refine k2 _ ?_
 refine zk ⟨?_⟩
 refine v_seq ?_; intro Q3 n3 e3 r3
 refine v_seqR [0,5,9,10,11] ?_; intro K4 k4
 refine zMove ⟨?_⟩
 refine zLen ⟨?_⟩
 refine zMove ⟨?_⟩
 refine k4 _ ?_
 refine zk ⟨?_⟩
 refine v_block ?_; intro Q5 n5 x5 e5 r5
 refine v_loop (fun p => ⟨[(0, .sl (l.map (fun t : Int × Int × Int × Bool => V.agg [V.int .i64 t.1, V.int .i64 t.2.1, V.int .i64 t.2.2.1, V.bool t.2.2.2]))), (5, .ref 0), (9, .sl (s.map (fun t : Int × Int => V.agg [V.int .i64 t.1, V.int .i64 t.2]))), (10, .int .i64 s.length), (11, .int .i64 (Nat.cast p.1))], [.arr (p.2.map (fun t : Int × Int => V.agg [V.int .i64 t.1, V.int .i64 t.2])) .flat], false, 35, 0⟩) (fun p => p.1 ≤ s.length ∧ p.2.length ≤ p.1 ∧ p.2 = (s.take p.1).filter (liveB l)) (fun p => s.length - p.1) ((0, []) : Nat × List (Int × Int)) ?_ ?_ ?_
 ·refine weak_bothS [0, 5, 9, 10, 11] [1] ⟨?_⟩
  rfl
 ·exact ⟨Nat.zero_le _, Nat.le_refl _, rfl⟩
 ·rintro ⟨i, acc⟩ hok6 Q6 n6 e6 r6
  obtain ⟨hi1, hal, hR⟩ := hok6
  simp only [] at hi1 hal hR ⊢
  refine v_seqR [0,5,9,10,11,12] ?_; intro K7 k7
  refine zBinOp ⟨?_⟩
  refine k7 _ ?_
  refine zk ⟨?_⟩
  refine v_seq ?_; intro Q8 n8 e8 r8
  refine v_condS _ rfl ?_ ?_
  ·intro hc0
   have hlt : i < s.length := by omega
   obtain ⟨⟨x0, x1⟩, hx⟩ : ∃ x : Int × Int, s[i]? = some x := ⟨s[i]'(by omega), List.getElem?_eq_getElem (by omega)⟩
   have hst := live_step (l := l) hx
   rcases findD_det x1 l 0 with ⟨hf1, hf2⟩ | ⟨j, ⟨y0, y1, y2, y3⟩, hf1, hy, hf2⟩
   ·skip
    have hneg : decide ((0 : Int) ≤ findD x1 0 l) = false := by rw [hf1]; rfl
    have hlv : liveB l (x0, x1) = false := by simp only [liveB, hf2]
    refine v_skip ?_
    refine n8 _ _ (weak_keep [0, 5, 9, 10, 11] _) ?_
    refine zk ⟨?_⟩
    refine v_seq ?_; intro Q10 n10 e10 r10
    refine v_block ?_; intro Q11 n11 x11 e11 r11
    refine v_seqR [0,5,7,9,10,11] ?_; intro K12 k12
    have F := Fc.mk (And.intro (fun f => getD_map (f := f) hx) (And.intro hneg (And.intro @Bool.and_false @Bool.false_and)))
    refine zIndexAddr ⟨?_⟩
    refine zLoad ⟨?_⟩
    refine zAlloc ⟨?_⟩
    refine zStore ⟨?_⟩
    refine k12 _ ?_
    refine zk ⟨?_⟩
    refine v_seqR [0,5,7,8,9,10,11] ?_; intro K13 k13
    refine zMove ⟨?_⟩
    refine zFieldAddr ⟨?_⟩
    refine zLoad ⟨?_⟩
    refine zc (alFind_con l x1 hl) ⟨?_⟩
    refine zAssign ⟨?_⟩
    refine k13 _ ?_
    refine zk ⟨?_⟩
    refine v_seqR [0,5,7,9,10,11,28] ?_; intro K14 k14
    refine zMove ⟨?_⟩
    refine zBinOp ⟨?_⟩
    refine zMove ⟨?_⟩
    refine zgMove ⟨?_⟩
    refine zgMove ⟨?_⟩
    refine zgIndexAddr ⟨?_⟩
    refine zgFieldAddr ⟨?_⟩
    refine zgLoad ⟨?_⟩
    refine zgUnOp ⟨?_⟩
    refine zPick ⟨?_⟩
    refine k14 _ ?_
    refine zk ⟨?_⟩
    refine v_cond _ rfl ?_ ?_
    ·intro hc1
     exfalso; simp at hc1
    ·intro hc1
     try simp only [zC, reduceCtorEq] at hc1
     refine v_skip ?_
     refine n11 _ ?_
     refine n10 _ _ (weak_keep [0, 5, 9, 10, 11] _) ?_
     refine zk ⟨?_⟩
     refine v_region ?_; intro K16 k16
     refine zBinOpW ⟨?_⟩
     refine zMove ⟨?_⟩
     refine k16 _ ?_
     refine n6 _ (i + 1, acc) ?_ ?_ ?_
     ·refine weak_bothS [0, 5, 9, 10, 11] [0] ⟨?_⟩
      rfl
     ·exact ⟨hlt, by show acc.length ≤ i + 1; omega, by show acc = _; rw [hst, hlv, ← hR]; simp⟩
     ·show _ < _; show s.length - (i + 1) < s.length - i; omega
   ·skip
    rw [Nat.zero_add] at hf1
    have hneg : decide ((0 : Int) ≤ findD x1 0 l) = true := by rw [hf1]; simp
    have hidx : (findD x1 0 l).toNat = j := by rw [hf1]; simp
    have hjl : j < l.length := (List.getElem?_eq_some_iff.1 hy).1
    have hlv : liveB l (x0, x1) = !y3 := by simp only [liveB, hf2]
    refine v_skip ?_
    refine n8 _ _ (weak_keep [0, 5, 9, 10, 11] _) ?_
    refine zk ⟨?_⟩
    refine v_seq ?_; intro Q17 n17 e17 r17
    refine v_block ?_; intro Q18 n18 x18 e18 r18
    refine v_seqR [0,5,7,9,10,11] ?_; intro K19 k19
    have F := Fc.mk (And.intro (fun f => getD_map (f := f) hx) (And.intro hneg (And.intro hidx (And.intro (fun f => getD_map (f := f) hy) @Bool.true_and))))
    refine zIndexAddr ⟨?_⟩
    refine zLoad ⟨?_⟩
    refine zAlloc ⟨?_⟩
    refine zStore ⟨?_⟩
    refine k19 _ ?_
    refine zk ⟨?_⟩
    refine v_seqR [0,5,7,8,9,10,11] ?_; intro K20 k20
    refine zMove ⟨?_⟩
    refine zFieldAddr ⟨?_⟩
    refine zLoad ⟨?_⟩
    refine zc (alFind_con l x1 hl) ⟨?_⟩
    refine zAssign ⟨?_⟩
    refine k20 _ ?_
    refine zk ⟨?_⟩
    refine v_seqR [0,5,7,9,10,11,28] ?_; intro K21 k21
    refine zMove ⟨?_⟩
    refine zBinOp ⟨?_⟩
    refine zMove ⟨?_⟩
    refine zgMove ⟨?_⟩
    refine zgMove ⟨?_⟩
    refine zgIndexAddr ⟨?_⟩
    refine zgFieldAddr ⟨?_⟩
    refine zgLoad ⟨?_⟩
    refine zgUnOp ⟨?_⟩
    refine zPick ⟨?_⟩
    refine k21 _ ?_
    refine zk ⟨?_⟩
    refine v_condS _ rfl ?_ ?_
    ·intro hc1
     refine v_region ?_; intro K23 k23
     refine zMove ⟨?_⟩
     refine zLoad ⟨?_⟩
     refine zBuildSlice ⟨?_⟩
     refine zAppend ⟨?_⟩
     refine zAssign ⟨?_⟩
     refine k23 _ ?_
     refine n18 _ ?_
     refine n17 _ _ (weak_keep [0, 5, 9, 10, 11] _) ?_
     refine zk ⟨?_⟩
     refine v_region ?_; intro K24 k24
     refine zBinOpW ⟨?_⟩
     refine zMove ⟨?_⟩
     refine k24 _ ?_
     refine n6 _ (i + 1, acc ++ [(x0, x1)]) ?_ ?_ ?_
     ·refine weak_bothS [0, 5, 9, 10, 11] [3] ⟨?_⟩
      rw [snoc_sig]; rfl
     ·exact ⟨hlt, by show (acc ++ _).length ≤ i + 1; simp; omega, by show acc ++ _ = _; rw [hst, hlv, ← hR]; simp [hc1]⟩
     ·show _ < _; show s.length - (i + 1) < s.length - i; omega
    ·intro hc1
     refine v_skip ?_
     refine n18 _ ?_
     refine n17 _ _ (weak_keep [0, 5, 9, 10, 11] _) ?_
     refine zk ⟨?_⟩
     refine v_region ?_; intro K25 k25
     refine zBinOpW ⟨?_⟩
     refine zMove ⟨?_⟩
     refine k25 _ ?_
     refine n6 _ (i + 1, acc) ?_ ?_ ?_
     ·refine weak_bothS [0, 5, 9, 10, 11] [0] ⟨?_⟩
      rfl
     ·exact ⟨hlt, by show acc.length ≤ i + 1; omega, by show acc = _; rw [hst, hlv, ← hR]; simp [hc1]⟩
     ·show _ < _; show s.length - (i + 1) < s.length - i; omega
  ·intro hc0
   refine v_exit ?_
   refine e8 _ _ ?_
   refine e6 _ _ ?_
   refine x5 _ ?_
   refine n3 _ _ (weak_keep [5] _) ?_
   refine zk ⟨?_⟩
   refine v_seqR [4] ?_; intro K26 k26
   refine zMove ⟨?_⟩
   refine zAssign ⟨?_⟩
   refine k26 _ ?_
   refine zk ⟨?_⟩
   refine v_ret ?_
   refine r0 _ ?_
   refine zf ⟨?_⟩
   have hend : acc = s.filter (liveB l) := by rw [hR, List.take_of_length_le (by omega)]
   rw [← hend]
   exact ret_ref rfl (.inl rfl)
end Go.Proofs.YtmlicajgbgjphaaDoor
