/- What functions compute. No condition. -/
import Derived.Test.YtdgenniiidgimaaUty
import Derived.Test.YtdgenniiidgimaaUmG
import Derived.Test.YtdgenniiidgimaaX3
import Derived.Test.YtdgenniiidgimaaX1
import Derived.Test.YtdgenniiidgimaaX5
import Derived.Test.YtdgenniiidgimaaX4
set_option linter.unusedSimpArgs false
set_option linter.unusedVariables false
set_option linter.defProp false
namespace Go.Proofs.Ytdgenniiidgimaa
open Go Go.Vm

def ltOf (c : Int → Int → Int) (x y : Int) : Bool := decide (c x y < 0)
theorem isort_one (lt : Int → Int → Bool) (l : List Int) : isort lt (l.take 1) ++ l.drop 1 = l := by
  cases l with
  | nil => rfl
  | cons x l => rfl
theorem data_mem {lt : Int → Int → Bool} {l : List Int} {i j : Nat} {x y : Int} (hx : l[i]? = some x) (h : (insAt (isort lt (l.take i)) x (l.drop (i + 1)) j)[j]? = some y ∨ y ∈ insAt (isort lt (l.take i)) x (l.drop (i + 1)) j) : y ∈ l := by
  have h2 : y ∈ insAt (isort lt (l.take i)) x (l.drop (i + 1)) j := by
    rcases h with h | h
    · exact List.mem_of_getElem? h
    · exact h
  rcases insAt_mem h2 with q | q | q
  · rw [q]; exact List.mem_of_getElem? hx
  · exact List.mem_of_mem_take (isort_mem.1 q)
  · exact List.mem_of_mem_drop q

theorem snocI {l : List Int} {x : Int} : l.map (V.int .i64) ++ [V.int .i64 x] = (l ++ [x]).map (V.int .i64) := by rw [List.map_append]; rfl
theorem lt_key (fl : List (ByteArray × Int × Int × Int × Int)) (ts : List Int) : ltOf (fun a b => cmpI (keyOf fl ts a) (keyOf fl ts b)) = byKey fl ts := by
  funext a b
  rw [ltOf, byKey]
  refine decide_eq_decide.2 ?_
  unfold cmpI
  by_cases h : keyOf fl ts a < keyOf fl ts b
  · simp [h]
  · simp only [h, if_false, iff_false]
    split <;> omega
def allT (fl : List (ByteArray × Int × Int × Int × Int)) (ts : List Int) : List Int := fl.map fun a => Tm.at_ ts a.2.2.1.toNat
theorem ready_is {fl : List (ByteArray × Int × Int × Int × Int)} {ts : List Int} {x : (ByteArray × Int × Int × Int × Int)} {w : Nat} {p : Int} (hw : x.2.2.1 = (w : Int)) (hp : ts[w]? = some p) : readyP fl ts x = (availB x && decide (0 ≤ p)) := by
  rw [readyP, hw, Int.toNat_natCast, Tm.at_get hp]
theorem key_is {fl : List (ByteArray × Int × Int × Int × Int)} {ts : List Int} {k : Nat} {x : (ByteArray × Int × Int × Int × Int)} {w : Nat} {p : Int} (hx : fl[k]? = some x) (hw : x.2.2.1 = (w : Int)) (hp : ts[w]? = some p) : keyOf fl ts (k : Int) = p := by
  rw [keyOf, Int.toNat_natCast, hx]
  simp only [hw, Int.toNat_natCast, Tm.at_get hp]

def idxFromS (x : ByteArray) : Nat → List ByteArray → Int
  | _, [] => -1
  | i, y :: l => if x = y then i else idxFromS x (i + 1) l
theorem idxS_step {x y : ByteArray} {l : List ByteArray} {i : Nat} (h : l[i]? = some y) : idxFromS x i (l.drop i) = if x = y then (i : Int) else idxFromS x (i + 1) (l.drop (i + 1)) := by
  rw [getElem_drop_cons h, idxFromS]
theorem idxS_end {x : ByteArray} {l : List ByteArray} {i k : Nat} (h : l.length ≤ i) : idxFromS x k (l.drop i) = -1 := by
  rw [List.drop_of_length_le h, idxFromS]
def inS (x : ByteArray) (l : List ByteArray) : Bool := l.any fun y => decide (x = y)
theorem idxS_mem (x : ByteArray) : ∀ (l : List ByteArray) (i : Nat), decide (0 ≤ idxFromS x i l) = inS x l
  | [], i => by rw [idxFromS]; rfl
  | y :: l, i => by
    rw [idxFromS, inS, List.any_cons]
    split
    · rename_i h; simp [h]
    · rename_i h; rw [idxS_mem x l (i + 1)]; simp [h, inS]
theorem inS_step {x y : ByteArray} {l : List ByteArray} {i : Nat} (h : l[i]? = some y) : inS x (l.drop i) = (decide (x = y) || inS x (l.drop (i + 1))) := by
  rw [getElem_drop_cons h, inS, List.any_cons]; rfl
theorem inS_end {x : ByteArray} {l : List ByteArray} {i : Nat} (h : l.length ≤ i) : inS x (l.drop i) = false := by
  rw [List.drop_of_length_le h]; rfl

set_option maxHeartbeats 1000000 in
theorem dsHas_con (l : List ByteArray) (x : ByteArray) (hl : l.length ≤ 1048576) : Con Try.prog 126 [.sl (l.map V.str), .str x] [] (.bool (inS x l)) [] := by
 refine v_con [.tmp 4] [] Try.func126 rfl rfl rfl (by simp [Try.ntmps126]) ?_
 intro Q0 n0 r0
 simp only [Try.ntmps126, envFrom, Nat.reduceAdd]
 have T := Tys.mk (And.intro Ty.t3 (And.intro Ty.t9 Ty.t93))
 have F := Fc.mk True.intro
 refine v_seqR [0,1] ?_; intro K1 k1
 refine zAssign ⟨?_⟩
 refine k1 _ ?_
 refine zk ⟨?_⟩
 refine v_seq ?_; intro Q2 n2 e2 r2
 refine v_seqR [1,7,8,9] ?_; intro K3 k3
 refine zMove ⟨?_⟩
 refine zLen ⟨?_⟩
 refine zMove ⟨?_⟩
 refine k3 _ ?_
 refine zk ⟨?_⟩
 refine v_block ?_; intro Q4 n4 x4 e4 r4
 refine v_loop (fun i => ⟨[(1, .str x), (7, .sl (l.map V.str)), (8, .int .i64 l.length), (9, .int .i64 (Nat.cast i))], [], false, 17, 0⟩) (fun i => i ≤ l.length ∧ inS x (l.drop i) = inS x l) (fun i => l.length - i) 0 ?_ ?_ ?_
 ·refine weak_of [1, 7, 8, 9] ?_
  simp only [keep_mk, keepE_nil, keepE_cons, look_cons, look_nil, Nat.reduceEqDiff, reduceIte]
  rfl
 ·exact ⟨Nat.zero_le _, rfl⟩
 ·rintro i hok5 Q5 n5 e5 r5
  obtain ⟨hi1, hR⟩ := hok5
  refine v_seqR [1,7,8,9,10] ?_; intro K6 k6
  refine zBinOp ⟨?_⟩
  refine k6 _ ?_
  refine zk ⟨?_⟩
  refine v_seq ?_; intro Q7 n7 e7 r7
  refine v_condS _ rfl ?_ ?_
  ·intro hc0
   have hlt : i < l.length := by omega
   obtain ⟨y, hy⟩ : ∃ y, l[i]? = some y := ⟨l[i], List.getElem?_eq_getElem hlt⟩
   have hst := inS_step (x := x) hy
   refine v_skip ?_
   refine n7 _ _ (weak_keep [1, 7, 8, 9] _) ?_
   refine zk ⟨?_⟩
   refine v_seq ?_; intro Q9 n9 e9 r9
   refine v_block ?_; intro Q10 n10 x10 e10 r10
   refine v_seqR [1,6,7,8,9] ?_; intro K11 k11
   have F := Fc.mk (fun f => getD_map (f := f) hy)
   refine zIndexAddr ⟨?_⟩
   refine zLoad ⟨?_⟩
   refine zAssign ⟨?_⟩
   refine k11 _ ?_
   refine zk ⟨?_⟩
   refine v_seqR [1,7,8,9,15] ?_; intro K12 k12
   refine zMove ⟨?_⟩
   refine zMove ⟨?_⟩
   refine zBinOp ⟨?_⟩
   refine k12 _ ?_
   refine zk ⟨?_⟩
   refine v_condS _ rfl ?_ ?_
   ·intro hc1
    refine v_seqR [4] ?_; intro K14 k14
    refine zAssign ⟨?_⟩
    refine k14 _ ?_
    refine zk ⟨?_⟩
    refine v_ret ?_
    refine r10 _ ?_
    refine r9 _ ?_
    refine r5 _ ?_
    refine r4 _ ?_
    refine r2 _ ?_
    refine r0 _ ?_
    refine zf ⟨?_⟩
    exact ret_pure rfl (by rw [← hR, hst, decide_eq_true hc1.symm]; rfl) (.inl rfl)
   ·intro hc1
    refine v_skip ?_
    refine n10 _ ?_
    refine n9 _ _ (weak_keep [1, 7, 8, 9] _) ?_
    refine zk ⟨?_⟩
    refine v_region ?_; intro K15 k15
    refine zBinOpW ⟨?_⟩
    refine zMove ⟨?_⟩
    refine k15 _ ?_
    refine n5 _ (i + 1) ?_ ?_ ?_
    ·refine weak_bothS [1, 7, 8, 9] [] ⟨?_⟩
     rfl
    ·exact ⟨by omega, by rw [← hR, hst, decide_eq_false (fun q => hc1 q.symm)]; rfl⟩
    ·show _ < _; omega
  ·intro hc0
   refine v_exit ?_
   refine e7 _ _ ?_
   refine e5 _ _ ?_
   refine x4 _ ?_
   refine n2 _ _ (weak_keep [] _) ?_
   refine zk ⟨?_⟩
   refine v_seqR [4] ?_; intro K16 k16
   refine zAssign ⟨?_⟩
   refine k16 _ ?_
   refine zk ⟨?_⟩
   refine v_ret ?_
   refine r0 _ ?_
   refine zf ⟨?_⟩
   exact ret_pure rfl (by rw [← hR, inS_end (by omega)]) (.inl rfl)
set_option maxHeartbeats 1000000 in
theorem dsNames_con (l : List ByteArray) (hl : l.length ≤ 1048576) : Con Try.prog 172 [.sl (l.map V.str)] [] (.bool (chainAt (fun _ : ByteArray => true) strLt l 0)) [] := by
 refine v_con [.tmp 2] [] Try.func172 rfl rfl rfl (by simp [Try.ntmps172]) ?_
 intro Q0 n0 r0
 simp only [Try.ntmps172, envFrom, Nat.reduceAdd]
 have T := Tys.mk (And.intro Ty.t3 (And.intro Ty.t9 Ty.t93))
 have F := Fc.mk True.intro
 refine v_seqR [0] ?_; intro K1 k1
 refine zAssign ⟨?_⟩
 refine k1 _ ?_
 refine zk ⟨?_⟩
 refine v_seq ?_; intro Q2 n2 e2 r2
 refine v_seqR [0,5,6,7] ?_; intro K3 k3
 refine zMove ⟨?_⟩
 refine zLen ⟨?_⟩
 refine zMove ⟨?_⟩
 refine k3 _ ?_
 refine zk ⟨?_⟩
 refine v_block ?_; intro Q4 n4 x4 e4 r4
 refine v_loop (fun i => ⟨[(0, .sl (l.map V.str)), (5, .sl (l.map V.str)), (6, .int .i64 l.length), (7, .int .i64 (Nat.cast i))], [], false, 24, 0⟩) (fun i => i ≤ l.length ∧ chainAt (fun _ : ByteArray => true) strLt l i = chainAt (fun _ : ByteArray => true) strLt l 0) (fun i => l.length - i) 0 ?_ ?_ ?_
 ·refine weak_of [0, 5, 6, 7] ?_
  simp only [keep_mk, keepE_nil, keepE_cons, look_cons, look_nil, Nat.reduceEqDiff, reduceIte]
  rfl
 ·exact ⟨Nat.zero_le _, rfl⟩
 ·rintro i hok5 Q5 n5 e5 r5
  obtain ⟨hi1, hR⟩ := hok5
  refine v_seqR [0,5,6,7,8] ?_; intro K6 k6
  refine zBinOp ⟨?_⟩
  refine k6 _ ?_
  refine zk ⟨?_⟩
  refine v_seq ?_; intro Q7 n7 e7 r7
  refine v_condS _ rfl ?_ ?_
  ·intro hc0
   have hlt : i < l.length := by omega
   obtain ⟨x, hx⟩ : ∃ x, l[i]? = some x := ⟨l[i], List.getElem?_eq_getElem hlt⟩
   rcases Nat.eq_zero_or_pos i with h0 | h0
   ·skip
    have hi0 : ¬ ((0 : Int) < (i : Int)) := by omega
    have hst : chainAt (fun _ : ByteArray => true) strLt l i = chainAt (fun _ : ByteArray => true) strLt l (i + 1) := by have q := chain_zero (ok := (fun _ : ByteArray => true)) (bf := strLt) (l := l) (x := x) (by subst h0; exact hx); subst h0; simpa using q
    refine v_skip ?_
    refine n7 _ _ (weak_keep [0, 5, 6, 7] _) ?_
    refine zk ⟨?_⟩
    refine v_seq ?_; intro Q9 n9 e9 r9
    refine v_block ?_; intro Q10 n10 x10 e10 r10
    refine v_seqR [0,3,4,5,6,7] ?_; intro K11 k11
    have F := Fc.mk (And.intro (fun f => getD_map (f := f) hx) (And.intro hi0 (And.intro @decide_false @Bool.and_false)))
    refine zMove ⟨?_⟩
    refine zIndexAddr ⟨?_⟩
    refine zLoad ⟨?_⟩
    refine zAssign ⟨?_⟩
    refine zAssign ⟨?_⟩
    refine k11 _ ?_
    refine zk ⟨?_⟩
    refine v_seqR [0,5,6,7,22] ?_; intro K12 k12
    refine zMove ⟨?_⟩
    refine zBinOp ⟨?_⟩
    refine zMove ⟨?_⟩
    refine zgMove ⟨?_⟩
    refine zgMove ⟨?_⟩
    refine zgBinOpW ⟨?_⟩
    refine zgIndexAddr ⟨?_⟩
    refine zgLoad ⟨?_⟩
    refine zgMove ⟨?_⟩
    refine zgBinOp ⟨?_⟩
    refine zPick ⟨?_⟩
    refine k12 _ ?_
    refine zk ⟨?_⟩
    refine v_cond _ rfl ?_ ?_
    ·intro hc1
     exfalso; simp at hc1
    ·intro hc1
     try simp only [zC, reduceCtorEq] at hc1
     refine v_skip ?_
     refine n10 _ ?_
     refine n9 _ _ (weak_keep [0, 5, 6, 7] _) ?_
     refine zk ⟨?_⟩
     refine v_region ?_; intro K14 k14
     refine zBinOpW ⟨?_⟩
     refine zMove ⟨?_⟩
     refine k14 _ ?_
     refine n5 _ (i + 1) ?_ ?_ ?_
     ·refine weak_bothS [0, 5, 6, 7] [] ⟨?_⟩
      rfl
     ·exact ⟨by omega, by first | (rw [← hR, hst]; done) | (rw [← hR, hst]; (try simp at hc1); first | (simp [hc1]; done) | (simp; done) | rfl)⟩
     ·show _ < _; omega
   ·skip
    obtain ⟨y, hy⟩ : ∃ y, l[i - 1]? = some y := ⟨_, List.getElem?_eq_getElem (by omega)⟩
    have hi0 : (0 : Int) < i := by omega
    have hk : ((i : Int) - 1).toNat = i - 1 := by omega
    have hst := chain_succ (ok := (fun _ : ByteArray => true)) (bf := strLt) h0 hy hx
    refine v_skip ?_
    refine n7 _ _ (weak_keep [0, 5, 6, 7] _) ?_
    refine zk ⟨?_⟩
    refine v_seq ?_; intro Q15 n15 e15 r15
    refine v_block ?_; intro Q16 n16 x16 e16 r16
    refine v_seqR [0,3,4,5,6,7] ?_; intro K17 k17
    have F := Fc.mk (And.intro (fun f => getD_map (f := f) hx) (And.intro hi0 (And.intro hk (And.intro (fun f => getD_map (f := f) hy) (And.intro @decide_true @Bool.and_true)))))
    refine zMove ⟨?_⟩
    refine zIndexAddr ⟨?_⟩
    refine zLoad ⟨?_⟩
    refine zAssign ⟨?_⟩
    refine zAssign ⟨?_⟩
    refine k17 _ ?_
    refine zk ⟨?_⟩
    refine v_seqR [0,5,6,7,22] ?_; intro K18 k18
    refine zMove ⟨?_⟩
    refine zBinOp ⟨?_⟩
    refine zMove ⟨?_⟩
    refine zgMove ⟨?_⟩
    refine zgMove ⟨?_⟩
    refine zgBinOpW ⟨?_⟩
    refine zgIndexAddr ⟨?_⟩
    refine zgLoad ⟨?_⟩
    refine zgMove ⟨?_⟩
    refine zgBinOp ⟨?_⟩
    refine zPick ⟨?_⟩
    refine k18 _ ?_
    refine zk ⟨?_⟩
    refine v_condS _ rfl ?_ ?_
    ·intro hc1
     refine v_seqR [2] ?_; intro K20 k20
     refine zAssign ⟨?_⟩
     refine k20 _ ?_
     refine zk ⟨?_⟩
     refine v_ret ?_
     refine r16 _ ?_
     refine r15 _ ?_
     refine r5 _ ?_
     refine r4 _ ?_
     refine r2 _ ?_
     refine r0 _ ?_
     refine zf ⟨?_⟩
     exact ret_pure rfl (by rw [← hR, hst]; (try simp at hc1); simp [hc1]) (.inl rfl)
    ·intro hc1
     refine v_skip ?_
     refine n16 _ ?_
     refine n15 _ _ (weak_keep [0, 5, 6, 7] _) ?_
     refine zk ⟨?_⟩
     refine v_region ?_; intro K21 k21
     refine zBinOpW ⟨?_⟩
     refine zMove ⟨?_⟩
     refine k21 _ ?_
     refine n5 _ (i + 1) ?_ ?_ ?_
     ·refine weak_bothS [0, 5, 6, 7] [] ⟨?_⟩
      rfl
     ·exact ⟨by omega, by first | (rw [← hR, hst]; done) | (rw [← hR, hst]; (try simp at hc1); first | (simp [hc1]; done) | (simp; done) | rfl)⟩
     ·show _ < _; omega
  ·intro hc0
   refine v_exit ?_
   refine e7 _ _ ?_
   refine e5 _ _ ?_
   refine x4 _ ?_
   refine n2 _ _ (weak_keep [] _) ?_
   refine zk ⟨?_⟩
   refine v_seqR [2] ?_; intro K22 k22
   refine zAssign ⟨?_⟩
   refine k22 _ ?_
   refine zk ⟨?_⟩
   refine v_ret ?_
   refine r0 _ ?_
   refine zf ⟨?_⟩
   exact ret_pure rfl (by rw [← hR, chain_end (by omega)]) (.inl rfl)
theorem findA_cases (fl : List (ByteArray × Int × Int × Int × Int)) (s : ByteArray) : findA fl s = -1 ∨ ∃ (k : Nat) (x : (ByteArray × Int × Int × Int × Int)), findA fl s = (k : Int) ∧ fl[k]? = some x ∧ x.1 = s := by
  by_cases h : findA fl s = -1
  · exact .inl h
  · obtain ⟨k, h1, h2, _, x, h4, h5⟩ := first_some h
    exact .inr ⟨k, x, by rw [findA, h2, Nat.zero_add], h4, by simpa using h5⟩
def attR (n : Int) (ss : List (Int × Int × Int)) (fl : List (ByteArray × Int × Int × Int × Int)) (node : Int) (names : List ByteArray) : Bool := askD n ss fl node && attB fl (tmL n ss node) names
def attW (n : Int) (ss : List (Int × Int × Int)) (fl : List (ByteArray × Int × Int × Int × Int)) (node : Int) (names : List ByteArray) : Int := if attR n ss fl node names = true then attV fl (tmL n ss node) names else 0
theorem attOne_none {fl : List (ByteArray × Int × Int × Int × Int)} {ts : List Int} {s : ByteArray} (h : findA fl s = -1) : attOne fl ts s = -1 := by rw [attOne, if_pos (by omega)]
theorem attOne_some {fl : List (ByteArray × Int × Int × Int × Int)} {ts : List Int} {s : ByteArray} {k : Nat} {x : (ByteArray × Int × Int × Int × Int)} {w : Nat} {p : Int} (h : findA fl s = (k : Int)) (hx : fl[k]? = some x) (hw : x.2.2.1 = (w : Int)) (hp : ts[w]? = some p) : attOne fl ts s = p := by
  rw [attOne, if_neg (by omega), h, key_is hx hw hp]
theorem attV_step {fl : List (ByteArray × Int × Int × Int × Int)} {ts : List Int} {names : List ByteArray} {i : Nat} {s : ByteArray} (h : names[i]? = some s) : attV fl ts (names.take (i + 1)) = max (attV fl ts (names.take i)) (attOne fl ts s) := by
  rw [attV, List.take_add_one, h, Option.toList, List.foldl_append]; rfl
theorem attB_split {fl : List (ByteArray × Int × Int × Int × Int)} {ts : List Int} {names : List ByteArray} : attB fl ts names = ((chainAt (fun _ : ByteArray => true) strLt names 0 && names.all fun s => decide (0 ≤ attOne fl ts s)) && !decide ((names.length : Int) = 0)) := by
  rw [attB, chain_split]

def need4 (l : List Int) : Bool := decide ((l.length : Int) = 4) && l.all (fun x : Int => inR x 0 6)
theorem need4_facts {l : List Int} (h : need4 l = true) : l.length = 4 ∧ ∀ x ∈ l, 0 ≤ x ∧ x ≤ 6 := by
  simp only [need4, Bool.and_eq_true, decide_eq_true_eq, List.all_eq_true, inR] at h
  exact ⟨by omega, h.2⟩

set_option maxHeartbeats 1000000 in
theorem tbNeed_con (l : List Int) (hl : l.length ≤ 1048576) : Con Try.prog 97 [.sl (l.map (V.int .i64))] [] (.bool (need4 l)) [] := by
 refine v_con [.tmp 2] [] Try.func97 rfl rfl rfl (by simp [Try.ntmps97]) ?_
 intro Q0 n0 r0
 simp only [Try.ntmps97, envFrom, Nat.reduceAdd]
 have T := Tys.mk (And.intro Ty.t3 (And.intro Ty.t4 Ty.t26))
 have F := Fc.mk True.intro
 refine v_seqR [0] ?_; intro K1 k1
 refine zAssign ⟨?_⟩
 refine k1 _ ?_
 refine zk ⟨?_⟩
 refine v_seqR [2] ?_; intro K2 k2
 refine zMove ⟨?_⟩
 refine zLen ⟨?_⟩
 refine zBinOp ⟨?_⟩
 refine zMove ⟨?_⟩
 refine zgMove ⟨?_⟩
 refine zgc (l1All_con l 0 6 hl) ⟨?_⟩
 refine zPick ⟨?_⟩
 refine zAssign ⟨?_⟩
 refine k2 _ ?_
 refine zk ⟨?_⟩
 refine v_ret ?_
 refine r0 _ ?_
 refine zf ⟨?_⟩
 exact ret_pure rfl (by simp [need4, inR]) (.inl rfl)
set_option maxHeartbeats 1000000 in
theorem eqIncident_con (x0 : Int) (x1 : Int) (x2 : Bool) (x3 : List ByteArray) (y0 : Int) (y1 : Int) (y2 : Bool) (y3 : List ByteArray) (hlx : x3.length ≤ 1048576) : Con Try.prog 170 [.agg [V.int .i64 x0, V.int .i64 x1, V.bool x2, V.sl (x3.map V.str)], .agg [V.int .i64 y0, V.int .i64 y1, V.bool y2, V.sl (y3.map V.str)]] [] (.bool (decide ((x0, x1, x2, x3) = (y0, y1, y2, y3)))) [] := by
 refine v_con [.tmp 4] [] Try.func170 rfl rfl rfl (by simp [Try.ntmps170]) ?_
 intro Q0 n0 r0
 simp only [Try.ntmps170, envFrom, Nat.reduceAdd]
 have T := Tys.mk (And.intro Ty.t3 (And.intro Ty.t4 (And.intro Ty.t9 (And.intro Ty.t93 Ty.t192))))
 have F := Fc.mk True.intro
 refine v_seqR [2,3] ?_; intro K1 k1
 refine zBox ⟨?_⟩
 refine zBox ⟨?_⟩
 refine zAssign ⟨?_⟩
 refine k1 _ ?_
 refine zk ⟨?_⟩
 refine v_seq ?_; intro Q2 n2 e2 r2
 refine v_seqR [2,3,9] ?_; intro K3 k3
 refine zFieldAddr ⟨?_⟩
 refine zLoad ⟨?_⟩
 refine zFieldAddr ⟨?_⟩
 refine zLoad ⟨?_⟩
 refine zBinOp ⟨?_⟩
 refine k3 _ ?_
 refine zk ⟨?_⟩
 refine v_condS _ rfl ?_ ?_
 ·intro hc0
  refine v_seqR [4] ?_; intro K5 k5
  refine zAssign ⟨?_⟩
  refine k5 _ ?_
  refine zk ⟨?_⟩
  refine v_ret ?_
  refine r2 _ ?_
  refine r0 _ ?_
  refine zf ⟨?_⟩
  exact ret_pure rfl (by rw [decide_eq_false (by intro h; simp only [Prod.mk.injEq] at h; exact hc0 h.1)]) (.inl rfl)
 ·intro hc0
  refine v_skip ?_
  refine n2 _ _ (weak_keep [2, 3] _) ?_
  refine zk ⟨?_⟩
  refine v_seq ?_; intro Q6 n6 e6 r6
  refine v_seqR [2,3,14] ?_; intro K7 k7
  refine zFieldAddr ⟨?_⟩
  refine zLoad ⟨?_⟩
  refine zFieldAddr ⟨?_⟩
  refine zLoad ⟨?_⟩
  refine zBinOp ⟨?_⟩
  refine k7 _ ?_
  refine zk ⟨?_⟩
  refine v_condS _ rfl ?_ ?_
  ·intro hc1
   refine v_seqR [4] ?_; intro K9 k9
   refine zAssign ⟨?_⟩
   refine k9 _ ?_
   refine zk ⟨?_⟩
   refine v_ret ?_
   refine r6 _ ?_
   refine r0 _ ?_
   refine zf ⟨?_⟩
   exact ret_pure rfl (by rw [decide_eq_false (by intro h; simp only [Prod.mk.injEq] at h; exact hc1 h.2.1)]) (.inl rfl)
  ·intro hc1
   refine v_skip ?_
   refine n6 _ _ (weak_keep [2, 3] _) ?_
   refine zk ⟨?_⟩
   refine v_seq ?_; intro Q10 n10 e10 r10
   refine v_seqR [2,3,19] ?_; intro K11 k11
   refine zFieldAddr ⟨?_⟩
   refine zLoad ⟨?_⟩
   refine zFieldAddr ⟨?_⟩
   refine zLoad ⟨?_⟩
   refine zBinOp ⟨?_⟩
   refine k11 _ ?_
   refine zk ⟨?_⟩
   refine v_condS _ rfl ?_ ?_
   ·intro hc2
    refine v_seqR [4] ?_; intro K13 k13
    refine zAssign ⟨?_⟩
    refine k13 _ ?_
    refine zk ⟨?_⟩
    refine v_ret ?_
    refine r10 _ ?_
    refine r0 _ ?_
    refine zf ⟨?_⟩
    exact ret_pure rfl (by rw [decide_eq_false (by intro h; simp only [Prod.mk.injEq] at h; have hb := h.2.2.1; rw [hb] at hc2; simp at hc2)]) (.inl rfl)
   ·intro hc2
    refine v_skip ?_
    refine n10 _ _ (weak_keep [2, 3] _) ?_
    refine zk ⟨?_⟩
    refine v_seq ?_; intro Q14 n14 e14 r14
    refine v_seqR [25] ?_; intro K15 k15
    refine zFieldAddr ⟨?_⟩
    refine zLoad ⟨?_⟩
    refine zFieldAddr ⟨?_⟩
    refine zLoad ⟨?_⟩
    refine zc (eqStringS_con x3 y3 hlx) ⟨?_⟩
    refine zUnOp ⟨?_⟩
    refine k15 _ ?_
    refine zk ⟨?_⟩
    refine v_condS _ rfl ?_ ?_
    ·intro hc3
     refine v_seqR [4] ?_; intro K17 k17
     refine zAssign ⟨?_⟩
     refine k17 _ ?_
     refine zk ⟨?_⟩
     refine v_ret ?_
     refine r14 _ ?_
     refine r0 _ ?_
     refine zf ⟨?_⟩
     exact ret_pure rfl (by rw [decide_eq_false (by intro h; simp only [Prod.mk.injEq] at h; (try simp at hc3); exact hc3 h.2.2.2)]) (.inl rfl)
    ·intro hc3
     refine v_skip ?_
     refine n14 _ _ (weak_keep [] _) ?_
     refine zk ⟨?_⟩
     refine v_seqR [4] ?_; intro K18 k18
     refine zAssign ⟨?_⟩
     refine k18 _ ?_
     refine zk ⟨?_⟩
     refine v_ret ?_
     refine r0 _ ?_
     refine zf ⟨?_⟩
     exact ret_pure rfl (by rw [decide_eq_true (by (try simp at hc3); rw [hc0, hc1, (eq_of_beq hc2 : x2 = y2), hc3])]) (.inl rfl)
set_option maxHeartbeats 1000000 in
theorem eqIncidentS_con (a b : List (Int × Int × Bool × List ByteArray)) (ha : a.length ≤ 1048576) (has : ∀ t ∈ a, t.2.2.2.length ≤ 1048576) : Con Try.prog 118 [.sl (a.map (fun t : Int × Int × Bool × List ByteArray => V.agg [V.int .i64 t.1, V.int .i64 t.2.1, V.bool t.2.2.1, V.sl (t.2.2.2.map V.str)])), .sl (b.map (fun t : Int × Int × Bool × List ByteArray => V.agg [V.int .i64 t.1, V.int .i64 t.2.1, V.bool t.2.2.1, V.sl (t.2.2.2.map V.str)]))] [] (.bool (decide (a = b))) [] := by
 refine v_con [.tmp 4] [] Try.func118 rfl rfl rfl (by simp [Try.ntmps118]) ?_
 intro Q0 n0 r0
 simp only [Try.ntmps118, envFrom, Nat.reduceAdd]
 have T := Tys.mk (And.intro Ty.t3 (And.intro Ty.t4 (And.intro Ty.t9 (And.intro Ty.t84 (And.intro Ty.t93 Ty.t192)))))
 have F := Fc.mk True.intro
 refine v_seqR [0,1] ?_; intro K1 k1
 refine zAssign ⟨?_⟩
 refine k1 _ ?_
 refine zk ⟨?_⟩
 refine v_seq ?_; intro Q2 n2 e2 r2
 refine v_seqR [0,1,10] ?_; intro K3 k3
 refine zMove ⟨?_⟩
 refine zLen ⟨?_⟩
 refine zMove ⟨?_⟩
 refine zLen ⟨?_⟩
 refine zBinOp ⟨?_⟩
 refine k3 _ ?_
 refine zk ⟨?_⟩
 refine v_condS _ rfl ?_ ?_
 ·intro hc0
  refine v_seqR [4] ?_; intro K5 k5
  refine zAssign ⟨?_⟩
  refine k5 _ ?_
  refine zk ⟨?_⟩
  refine v_ret ?_
  refine r2 _ ?_
  refine r0 _ ?_
  refine zf ⟨?_⟩
  exact ret_pure rfl (by rw [decide_eq_false (fun h => by subst h; simp at hc0)]) (.inl rfl)
 ·intro hc0
  have hab : a.length = b.length := by omega
  refine v_skip ?_
  refine n2 _ _ (weak_keep [0, 1] _) ?_
  refine zk ⟨?_⟩
  refine v_seq ?_; intro Q6 n6 e6 r6
  refine v_seqR [0,1,5] ?_; intro K7 k7
  refine zAssign ⟨?_⟩
  refine k7 _ ?_
  refine zk ⟨?_⟩
  refine v_block ?_; intro Q8 n8 x8 e8 r8
  refine v_loop (fun i => ⟨[(0, .sl (a.map (fun t : Int × Int × Bool × List ByteArray => V.agg [V.int .i64 t.1, V.int .i64 t.2.1, V.bool t.2.2.1, V.sl (t.2.2.2.map V.str)]))), (1, .sl (b.map (fun t : Int × Int × Bool × List ByteArray => V.agg [V.int .i64 t.1, V.int .i64 t.2.1, V.bool t.2.2.1, V.sl (t.2.2.2.map V.str)]))), (5, .int .i64 (Nat.cast i))], [], false, 27, 0⟩) (fun i => i ≤ a.length ∧ ((a = b) ↔ (a.drop i = b.drop i))) (fun i => a.length - i) 0 ?_ ?_ ?_
  ·refine weak_of [0, 1, 5] ?_
   simp only [keep_mk, keepE_nil, keepE_cons, look_cons, look_nil, Nat.reduceEqDiff, reduceIte]
   rfl
  ·exact ⟨Nat.zero_le _, by simp⟩
  ·rintro i hok9 Q9 n9 e9 r9
   obtain ⟨hi1, hR⟩ := hok9
   refine v_seq ?_; intro Q10 n10 e10 r10
   refine v_seqR [0,1,5,14] ?_; intro K11 k11
   refine zMove ⟨?_⟩
   refine zMove ⟨?_⟩
   refine zLen ⟨?_⟩
   refine zBinOp ⟨?_⟩
   refine k11 _ ?_
   refine zk ⟨?_⟩
   refine v_condS _ rfl ?_ ?_
   ·intro hc1
    have hlt : i < a.length := by omega
    obtain ⟨⟨x0, x1, x2, x3⟩, hx⟩ : ∃ x : Int × Int × Bool × List ByteArray, a[i]? = some x := ⟨a[i]'(by omega), List.getElem?_eq_getElem (by omega)⟩
    obtain ⟨⟨y0, y1, y2, y3⟩, hy⟩ : ∃ x : Int × Int × Bool × List ByteArray, b[i]? = some x := ⟨b[i]'(by omega), List.getElem?_eq_getElem (by omega)⟩
    have hstep := eq_drop hab hx hy
    have hlx := has _ (List.mem_of_getElem? hx)
    simp only [] at hlx
    refine v_skip ?_
    refine n10 _ _ (weak_keep [0, 1, 5] _) ?_
    refine zk ⟨?_⟩
    refine v_seq ?_; intro Q13 n13 e13 r13
    refine v_block ?_; intro Q14 n14 x14 e14 r14
    refine v_seq ?_; intro Q15 n15 e15 r15
    refine v_draw (by kernel_rfl) ?_; intro K16 q16 k16
    show aAny _ _ _ _ 10 (Array.replicate 10 false) _
    have F := Fc.mk (And.intro (fun f => getD_map (f := f) hx) (fun f => getD_map (f := f) hy))
    refine zdMove q16 true 0 17 ?_
    refine zdMove q16 true 1 18 ?_
    refine zdIndexAddr q16 true 2 19 ?_
    refine zdLoad q16 true 3 20 ?_
    refine zdMove q16 true 4 21 ?_
    refine zdMove q16 true 5 22 ?_
    refine zdIndexAddr q16 true 6 23 ?_
    refine zdLoad q16 true 7 24 ?_
    refine zoc 8 (eqIncident_con x0 x1 x2 x3 y0 y1 y2 y3 hlx) ⟨?_⟩
    refine zdUnOp q16 true 9 26 ?_
    refine aAny_done (by kernel_rfl) ?_
    refine k16 _ ?_
    refine n15 _ _ (weak_keep [0, 1, 5, 26] _) ?_
    refine zk ⟨?_⟩
    refine v_condS _ rfl ?_ ?_
    ·intro hc2
     refine v_seqR [4] ?_; intro K18 k18
     refine zAssign ⟨?_⟩
     refine k18 _ ?_
     refine zk ⟨?_⟩
     refine v_ret ?_
     refine r14 _ ?_
     refine r13 _ ?_
     refine r9 _ ?_
     refine r8 _ ?_
     refine r6 _ ?_
     refine r0 _ ?_
     refine zf ⟨?_⟩
     exact ret_pure rfl (by rw [decide_eq_false (fun h => hc2 (hstep.1 (hR.1 h)).1)]) (.inl rfl)
    ·intro hc2
     refine v_skip ?_
     refine n14 _ ?_
     refine n13 _ _ (weak_keep [0, 1, 5] _) ?_
     refine zk ⟨?_⟩
     refine v_region ?_; intro K19 k19
     refine zMove ⟨?_⟩
     refine zBinOpW ⟨?_⟩
     refine zAssign ⟨?_⟩
     refine k19 _ ?_
     refine n9 _ (i + 1) ?_ ?_ ?_
     ·refine weak_of [0, 1, 5] ?_
      simp only [keep_mk, keepE_nil, keepE_cons, look_cons, look_nil, Nat.reduceEqDiff, reduceIte]
      rfl
     ·exact ⟨by omega, hR.trans (hstep.trans ⟨fun h => h.2, fun h => ⟨hc2, h⟩⟩)⟩
     ·show _ < _; omega
   ·intro hc1
    refine v_exit ?_
    refine e10 _ _ ?_
    refine e9 _ _ ?_
    refine x8 _ ?_
    refine n6 _ _ (weak_keep [] _) ?_
    refine zk ⟨?_⟩
    refine v_seqR [4] ?_; intro K20 k20
    refine zAssign ⟨?_⟩
    refine k20 _ ?_
    refine zk ⟨?_⟩
    refine v_ret ?_
    refine r0 _ ?_
    refine zf ⟨?_⟩
    exact ret_pure rfl (by rw [decide_eq_true (hR.2 (by rw [List.drop_of_length_le (by omega), List.drop_of_length_le (by omega)]))]) (.inl rfl)
set_option maxHeartbeats 1000000 in
theorem eqWant_con (x0 : Int) (x1 : List Int) (y0 : Int) (y1 : List Int) (hlx : x1.length ≤ 1048576) : Con Try.prog 171 [.agg [V.int .i64 x0, V.sl (x1.map (V.int .i64))], .agg [V.int .i64 y0, V.sl (y1.map (V.int .i64))]] [] (.bool (decide ((x0, x1) = (y0, y1)))) [] := by
 refine v_con [.tmp 4] [] Try.func171 rfl rfl rfl (by simp [Try.ntmps171]) ?_
 intro Q0 n0 r0
 simp only [Try.ntmps171, envFrom, Nat.reduceAdd]
 have T := Tys.mk (And.intro Ty.t3 (And.intro Ty.t4 (And.intro Ty.t26 Ty.t195)))
 have F := Fc.mk True.intro
 refine v_seqR [2,3] ?_; intro K1 k1
 refine zBox ⟨?_⟩
 refine zBox ⟨?_⟩
 refine zAssign ⟨?_⟩
 refine k1 _ ?_
 refine zk ⟨?_⟩
 refine v_seq ?_; intro Q2 n2 e2 r2
 refine v_seqR [2,3,9] ?_; intro K3 k3
 refine zFieldAddr ⟨?_⟩
 refine zLoad ⟨?_⟩
 refine zFieldAddr ⟨?_⟩
 refine zLoad ⟨?_⟩
 refine zBinOp ⟨?_⟩
 refine k3 _ ?_
 refine zk ⟨?_⟩
 refine v_condS _ rfl ?_ ?_
 ·intro hc0
  refine v_seqR [4] ?_; intro K5 k5
  refine zAssign ⟨?_⟩
  refine k5 _ ?_
  refine zk ⟨?_⟩
  refine v_ret ?_
  refine r2 _ ?_
  refine r0 _ ?_
  refine zf ⟨?_⟩
  exact ret_pure rfl (by rw [decide_eq_false (by intro h; simp only [Prod.mk.injEq] at h; exact hc0 h.1)]) (.inl rfl)
 ·intro hc0
  refine v_skip ?_
  refine n2 _ _ (weak_keep [2, 3] _) ?_
  refine zk ⟨?_⟩
  refine v_seq ?_; intro Q6 n6 e6 r6
  refine v_seqR [15] ?_; intro K7 k7
  refine zFieldAddr ⟨?_⟩
  refine zLoad ⟨?_⟩
  refine zFieldAddr ⟨?_⟩
  refine zLoad ⟨?_⟩
  refine zc (eqIntS_con x1 y1 hlx) ⟨?_⟩
  refine zUnOp ⟨?_⟩
  refine k7 _ ?_
  refine zk ⟨?_⟩
  refine v_condS _ rfl ?_ ?_
  ·intro hc1
   refine v_seqR [4] ?_; intro K9 k9
   refine zAssign ⟨?_⟩
   refine k9 _ ?_
   refine zk ⟨?_⟩
   refine v_ret ?_
   refine r6 _ ?_
   refine r0 _ ?_
   refine zf ⟨?_⟩
   exact ret_pure rfl (by rw [decide_eq_false (by intro h; simp only [Prod.mk.injEq] at h; (try simp at hc1); exact hc1 h.2)]) (.inl rfl)
  ·intro hc1
   refine v_skip ?_
   refine n6 _ _ (weak_keep [] _) ?_
   refine zk ⟨?_⟩
   refine v_seqR [4] ?_; intro K10 k10
   refine zAssign ⟨?_⟩
   refine k10 _ ?_
   refine zk ⟨?_⟩
   refine v_ret ?_
   refine r0 _ ?_
   refine zf ⟨?_⟩
   exact ret_pure rfl (by rw [decide_eq_true (by (try simp at hc1); rw [hc0, hc1])]) (.inl rfl)
set_option maxHeartbeats 1000000 in
theorem eqWantS_con (a b : List (Int × List Int)) (ha : a.length ≤ 1048576) (has : ∀ t ∈ a, t.2.length ≤ 1048576) : Con Try.prog 119 [.sl (a.map (fun t : Int × List Int => V.agg [V.int .i64 t.1, V.sl (t.2.map (V.int .i64))])), .sl (b.map (fun t : Int × List Int => V.agg [V.int .i64 t.1, V.sl (t.2.map (V.int .i64))]))] [] (.bool (decide (a = b))) [] := by
 refine v_con [.tmp 4] [] Try.func119 rfl rfl rfl (by simp [Try.ntmps119]) ?_
 intro Q0 n0 r0
 simp only [Try.ntmps119, envFrom, Nat.reduceAdd]
 have T := Tys.mk (And.intro Ty.t3 (And.intro Ty.t4 (And.intro Ty.t26 (And.intro Ty.t85 Ty.t195))))
 have F := Fc.mk True.intro
 refine v_seqR [0,1] ?_; intro K1 k1
 refine zAssign ⟨?_⟩
 refine k1 _ ?_
 refine zk ⟨?_⟩
 refine v_seq ?_; intro Q2 n2 e2 r2
 refine v_seqR [0,1,10] ?_; intro K3 k3
 refine zMove ⟨?_⟩
 refine zLen ⟨?_⟩
 refine zMove ⟨?_⟩
 refine zLen ⟨?_⟩
 refine zBinOp ⟨?_⟩
 refine k3 _ ?_
 refine zk ⟨?_⟩
 refine v_condS _ rfl ?_ ?_
 ·intro hc0
  refine v_seqR [4] ?_; intro K5 k5
  refine zAssign ⟨?_⟩
  refine k5 _ ?_
  refine zk ⟨?_⟩
  refine v_ret ?_
  refine r2 _ ?_
  refine r0 _ ?_
  refine zf ⟨?_⟩
  exact ret_pure rfl (by rw [decide_eq_false (fun h => by subst h; simp at hc0)]) (.inl rfl)
 ·intro hc0
  have hab : a.length = b.length := by omega
  refine v_skip ?_
  refine n2 _ _ (weak_keep [0, 1] _) ?_
  refine zk ⟨?_⟩
  refine v_seq ?_; intro Q6 n6 e6 r6
  refine v_seqR [0,1,5] ?_; intro K7 k7
  refine zAssign ⟨?_⟩
  refine k7 _ ?_
  refine zk ⟨?_⟩
  refine v_block ?_; intro Q8 n8 x8 e8 r8
  refine v_loop (fun i => ⟨[(0, .sl (a.map (fun t : Int × List Int => V.agg [V.int .i64 t.1, V.sl (t.2.map (V.int .i64))]))), (1, .sl (b.map (fun t : Int × List Int => V.agg [V.int .i64 t.1, V.sl (t.2.map (V.int .i64))]))), (5, .int .i64 (Nat.cast i))], [], false, 27, 0⟩) (fun i => i ≤ a.length ∧ ((a = b) ↔ (a.drop i = b.drop i))) (fun i => a.length - i) 0 ?_ ?_ ?_
  ·refine weak_of [0, 1, 5] ?_
   simp only [keep_mk, keepE_nil, keepE_cons, look_cons, look_nil, Nat.reduceEqDiff, reduceIte]
   rfl
  ·exact ⟨Nat.zero_le _, by simp⟩
  ·rintro i hok9 Q9 n9 e9 r9
   obtain ⟨hi1, hR⟩ := hok9
   refine v_seq ?_; intro Q10 n10 e10 r10
   refine v_seqR [0,1,5,14] ?_; intro K11 k11
   refine zMove ⟨?_⟩
   refine zMove ⟨?_⟩
   refine zLen ⟨?_⟩
   refine zBinOp ⟨?_⟩
   refine k11 _ ?_
   refine zk ⟨?_⟩
   refine v_condS _ rfl ?_ ?_
   ·intro hc1
    have hlt : i < a.length := by omega
    obtain ⟨⟨x0, x1⟩, hx⟩ : ∃ x : Int × List Int, a[i]? = some x := ⟨a[i]'(by omega), List.getElem?_eq_getElem (by omega)⟩
    obtain ⟨⟨y0, y1⟩, hy⟩ : ∃ x : Int × List Int, b[i]? = some x := ⟨b[i]'(by omega), List.getElem?_eq_getElem (by omega)⟩
    have hstep := eq_drop hab hx hy
    have hlx := has _ (List.mem_of_getElem? hx)
    simp only [] at hlx
    refine v_skip ?_
    refine n10 _ _ (weak_keep [0, 1, 5] _) ?_
    refine zk ⟨?_⟩
    refine v_seq ?_; intro Q13 n13 e13 r13
    refine v_block ?_; intro Q14 n14 x14 e14 r14
    refine v_seq ?_; intro Q15 n15 e15 r15
    refine v_draw (by kernel_rfl) ?_; intro K16 q16 k16
    show aAny _ _ _ _ 10 (Array.replicate 10 false) _
    have F := Fc.mk (And.intro (fun f => getD_map (f := f) hx) (fun f => getD_map (f := f) hy))
    refine zdMove q16 true 0 17 ?_
    refine zdMove q16 true 1 18 ?_
    refine zdIndexAddr q16 true 2 19 ?_
    refine zdLoad q16 true 3 20 ?_
    refine zdMove q16 true 4 21 ?_
    refine zdMove q16 true 5 22 ?_
    refine zdIndexAddr q16 true 6 23 ?_
    refine zdLoad q16 true 7 24 ?_
    refine zoc 8 (eqWant_con x0 x1 y0 y1 hlx) ⟨?_⟩
    refine zdUnOp q16 true 9 26 ?_
    refine aAny_done (by kernel_rfl) ?_
    refine k16 _ ?_
    refine n15 _ _ (weak_keep [0, 1, 5, 26] _) ?_
    refine zk ⟨?_⟩
    refine v_condS _ rfl ?_ ?_
    ·intro hc2
     refine v_seqR [4] ?_; intro K18 k18
     refine zAssign ⟨?_⟩
     refine k18 _ ?_
     refine zk ⟨?_⟩
     refine v_ret ?_
     refine r14 _ ?_
     refine r13 _ ?_
     refine r9 _ ?_
     refine r8 _ ?_
     refine r6 _ ?_
     refine r0 _ ?_
     refine zf ⟨?_⟩
     exact ret_pure rfl (by rw [decide_eq_false (fun h => hc2 (hstep.1 (hR.1 h)).1)]) (.inl rfl)
    ·intro hc2
     refine v_skip ?_
     refine n14 _ ?_
     refine n13 _ _ (weak_keep [0, 1, 5] _) ?_
     refine zk ⟨?_⟩
     refine v_region ?_; intro K19 k19
     refine zMove ⟨?_⟩
     refine zBinOpW ⟨?_⟩
     refine zAssign ⟨?_⟩
     refine k19 _ ?_
     refine n9 _ (i + 1) ?_ ?_ ?_
     ·refine weak_of [0, 1, 5] ?_
      simp only [keep_mk, keepE_nil, keepE_cons, look_cons, look_nil, Nat.reduceEqDiff, reduceIte]
      rfl
     ·exact ⟨by omega, hR.trans (hstep.trans ⟨fun h => h.2, fun h => ⟨hc2, h⟩⟩)⟩
     ·show _ < _; omega
   ·intro hc1
    refine v_exit ?_
    refine e10 _ _ ?_
    refine e9 _ _ ?_
    refine x8 _ ?_
    refine n6 _ _ (weak_keep [] _) ?_
    refine zk ⟨?_⟩
    refine v_seqR [4] ?_; intro K20 k20
    refine zAssign ⟨?_⟩
    refine k20 _ ?_
    refine zk ⟨?_⟩
    refine v_ret ?_
    refine r0 _ ?_
    refine zf ⟨?_⟩
    exact ret_pure rfl (by rw [decide_eq_true (hR.2 (by rw [List.drop_of_length_le (by omega), List.drop_of_length_le (by omega)]))]) (.inl rfl)
def incOK (x : (Int × Int × Bool × List ByteArray)) : Bool := (decide (1 ≤ x.1) && decide (x.1 ≤ 999)) && (decide (0 ≤ x.2.1) && decide (x.2.1 ≤ 13)) && !decide (12 < (x.2.2.2.length : Int)) && !(x.2.2.1 && decide (0 < (x.2.2.2.length : Int))) && chainAt nameB strLt x.2.2.2 0
def clashB (pre : List (Int × Int × Bool × List ByteArray)) (x : (Int × Int × Bool × List ByteArray)) : Bool := x.2.2.2.any fun s => pre.any fun y => inS s y.2.2.2
def incP (l : List (Int × Int × Bool × List ByteArray)) (i : Nat) : Bool := match l[i]? with
  | none => true
  | some x => incOK x && (decide (i = 0) || match l[i - 1]? with | some y => decide (y.1 < x.1) | none => true) && !clashB (l.take i) x
def incsB (l : List (Int × Int × Bool × List ByteArray)) : Bool := (List.range l.length).all (incP l) && decide ((l.length : Int) ≤ 8)
theorem incs_bad {l : List (Int × Int × Bool × List ByteArray)} {i : Nat} (hi : i < l.length) (h : incP l i = false) : incsB l = false := by
  have : (List.range l.length).all (incP l) = false := by
    rw [List.all_eq_false]
    exact ⟨i, List.mem_range.2 hi, by rw [h]; simp⟩
  rw [incsB, this]; rfl
theorem incs_good {l : List (Int × Int × Bool × List ByteArray)} {i : Nat} (hi : l.length ≤ i) (h : ∀ j, j < i → incP l j = true) : incsB l = decide ((l.length : Int) ≤ 8) := by
  have : (List.range l.length).all (incP l) = true := by
    rw [List.all_eq_true]
    intro j hj
    exact h j (Nat.lt_of_lt_of_le (List.mem_range.1 hj) hi)
  rw [incsB, this]; rfl
theorem upto_step {P : Nat → Bool} {i : Nat} (h : ∀ j, j < i → P j = true) (hi : P i = true) : ∀ j, j < i + 1 → P j = true := by
  intro j hj
  rcases Nat.lt_or_ge j i with q | q
  · exact h j q
  · have : j = i := by omega
    subst this; exact hi
theorem incP_zero {l : List (Int × Int × Bool × List ByteArray)} {x : (Int × Int × Bool × List ByteArray)} (h : l[0]? = some x) : incP l 0 = (incOK x && !clashB (l.take 0) x) := by
  rw [incP, h]; simp
theorem incP_succ {l : List (Int × Int × Bool × List ByteArray)} {i : Nat} {x y : (Int × Int × Bool × List ByteArray)} (h0 : 0 < i) (hy : l[i - 1]? = some y) (h : l[i]? = some x) : incP l i = (incOK x && decide (y.1 < x.1) && !clashB (l.take i) x) := by
  rw [incP, h]
  simp only [hy, decide_eq_false (show ¬ i = 0 by omega), Bool.false_or]
def openF (l : List (Int × Int × Bool × List ByteArray)) (n : Int) : Int := firstP (fun x : (Int × Int × Bool × List ByteArray) => decide (x.1 = n) && !x.2.2.1) 0 l
def commF (l : List (Int × Int × Bool × List ByteArray)) (s : ByteArray) : Int := firstP (fun x : (Int × Int × Bool × List ByteArray) => inS s x.2.2.2) 0 l
theorem comm_any (l : List (Int × Int × Bool × List ByteArray)) (s : ByteArray) : decide (0 ≤ commF l s) = l.any fun y => inS s y.2.2.2 := first_any _ l 0
theorem any_swap {α β : Type} (f : α → β → Bool) (l : List α) (m : List β) : (l.any fun a => m.any fun b => f a b) = (m.any fun b => l.any fun a => f a b) := by
  rw [Bool.eq_iff_iff]
  simp only [List.any_eq_true]
  exact ⟨fun ⟨a, ha, b, hb, h⟩ => ⟨b, hb, a, ha, h⟩, fun ⟨b, hb, a, ha, h⟩ => ⟨a, ha, b, hb, h⟩⟩

set_option maxRecDepth 8000 in
set_option maxHeartbeats 1000000 in
theorem ixOne_con (x0 : Int) (x1 : Int) (x2 : Bool) (x3 : List ByteArray) (hsz : ∀ s ∈ x3, s.size ≤ 9223372036854775807) (hnl : x3.length ≤ 1048576) : Con Try.prog 208 [.agg [V.int .i64 x0, V.int .i64 x1, V.bool x2, V.sl (x3.map V.str)]] [] (.bool (incOK (x0, x1, x2, x3))) [] := by
 have hcs := chain_split (ok := nameB) (bf := strLt) (l := x3)
 refine v_con [.tmp 2] [] Try.func208 rfl rfl rfl (by simp [Try.ntmps208]) ?_
 intro Q0 n0 r0
 simp only [Try.ntmps208, envFrom, Nat.reduceAdd]
 have T := Tys.mk (And.intro Ty.t3 (And.intro Ty.t4 (And.intro Ty.t9 (And.intro Ty.t93 Ty.t192))))
 have F := Fc.mk True.intro
 refine v_seqR [1] ?_; intro K1 k1
 refine zBox ⟨?_⟩
 refine zAssign ⟨?_⟩
 refine k1 _ ?_
 refine zk ⟨?_⟩
 refine v_seq ?_; intro Q2 n2 e2 r2
 refine v_seqR [1,36] ?_; intro K3 k3
 refine zFieldAddr ⟨?_⟩
 refine zLoad ⟨?_⟩
 refine zc (l1In_con _ _ _) ⟨?_⟩
 refine zUnOp ⟨?_⟩
 refine zMove ⟨?_⟩
 refine zgFieldAddr ⟨?_⟩
 refine zgLoad ⟨?_⟩
 refine zgc (apNode_con _) ⟨?_⟩
 refine zgUnOp ⟨?_⟩
 refine zPick ⟨?_⟩
 refine zMove ⟨?_⟩
 refine zgFieldAddr ⟨?_⟩
 refine zgLoad ⟨?_⟩
 refine zgLen ⟨?_⟩
 refine zgBinOp ⟨?_⟩
 refine zPick ⟨?_⟩
 refine zMove ⟨?_⟩
 refine zgFieldAddr ⟨?_⟩
 refine zgLoad ⟨?_⟩
 refine zgMove ⟨?_⟩
 refine zgFieldAddr ⟨?_⟩
 refine zgLoad ⟨?_⟩
 refine zgLen ⟨?_⟩
 refine zgBinOp ⟨?_⟩
 refine zgPick ⟨?_⟩
 refine zPick ⟨?_⟩
 refine zMove ⟨?_⟩
 refine zgFieldAddr ⟨?_⟩
 refine zgLoad ⟨?_⟩
 refine zgc (dsNames_con x3 hnl) ⟨?_⟩
 refine zgUnOp ⟨?_⟩
 refine v_op ?_; intro K k
 simp only [zE, zP, aStepM, optable, set_some, Nat.reduceEqDiff, reduceIte, Nat.reduceLT, implies_true, forall_const, reduceCtorEq, V.ofValue, V.ofScalar, V.un, V.gd, aExec, aop, pickV]
 repeat (refine And.intro (by first | (intro h; rw [h]; rfl) | omega | (intros; simp_all; done)) ?_)
 refine k _ ?_; clear k K
 refine k3 _ ?_
 refine zk ⟨?_⟩
 refine v_condS _ rfl ?_ ?_
 ·intro hc0
  have hh : incOK (x0, x1, x2, x3) = false := by
   cases hq : incOK (x0, x1, x2, x3) with
   |false => rfl
   |true =>
    exfalso
    have hq2 : (((decide (1 ≤ x0) && decide (x0 ≤ 999)) && (decide (0 ≤ x1) && decide (x1 ≤ 13)) && !decide (12 < (x3.length : Int)) && !(x2 && decide (0 < (x3.length : Int)))) && chainAt nameB strLt x3 0) = true := hq
    rw [Bool.and_eq_true] at hq2
    have hq3 := hq2.1
    have hq4 : chainAt (fun _ : ByteArray => true) strLt x3 0 = true := by have q := hq2.2; rw [hcs, Bool.and_eq_true] at q; exact q.1
    rw [hq4] at hc0
    generalize (x3.length : Int) = m at hc0 hq3
    clear hq hq2 hq4
    cases x2 <;> simp at hc0 hq3 <;> omega
  refine v_seqR [2] ?_; intro K5 k5
  refine zAssign ⟨?_⟩
  refine k5 _ ?_
  refine zk ⟨?_⟩
  refine v_ret ?_
  refine r2 _ ?_
  refine r0 _ ?_
  refine zf ⟨?_⟩
  rw [hh]
  exact ret_pure rfl rfl (.inl rfl)
 ·intro hc0
  have hb2 : chainAt (fun _ : ByteArray => true) strLt x3 0 = true := by
   cases q : chainAt (fun _ : ByteArray => true) strLt x3 0 with
   |true => rfl
   |false => (rw [q] at hc0; simp at hc0)
  have hh : incOK (x0, x1, x2, x3) = x3.all nameB := by
   have hb : ((decide (1 ≤ x0) && decide (x0 ≤ 999)) && (decide (0 ≤ x1) && decide (x1 ≤ 13)) && !decide (12 < (x3.length : Int)) && !(x2 && decide (0 < (x3.length : Int)))) = true := by
    rw [hb2] at hc0
    generalize (x3.length : Int) = m at hc0 ⊢
    cases x2 <;> simp at hc0 ⊢ <;> omega
   show (((decide (1 ≤ x0) && decide (x0 ≤ 999)) && (decide (0 ≤ x1) && decide (x1 ≤ 13)) && !decide (12 < (x3.length : Int)) && !(x2 && decide (0 < (x3.length : Int)))) && chainAt nameB strLt x3 0) = _
   rw [hb, hcs, hb2]; rfl
  refine v_skip ?_
  refine n2 _ _ (weak_keep [1] _) ?_
  refine zk ⟨?_⟩
  refine v_seq ?_; intro Q6 n6 e6 r6
  refine v_seqR [38,39,40] ?_; intro K7 k7
  refine zFieldAddr ⟨?_⟩
  refine zLoad ⟨?_⟩
  refine zLen ⟨?_⟩
  refine zMove ⟨?_⟩
  refine k7 _ ?_
  refine zk ⟨?_⟩
  refine v_block ?_; intro Q8 n8 x8 e8 r8
  refine v_loop (fun i => ⟨[(38, .sl (x3.map V.str)), (39, .int .i64 x3.length), (40, .int .i64 (Nat.cast i))], [], false, 48, 0⟩) (fun i => i ≤ x3.length ∧ (x3.drop i).all nameB = x3.all nameB) (fun i => x3.length - i) 0 ?_ ?_ ?_
  ·refine weak_bothS [38, 39, 40] [] ⟨?_⟩
   rfl
  ·exact ⟨Nat.zero_le _, rfl⟩
  ·rintro i hok9 Q9 n9 e9 r9
   obtain ⟨hi1, hR⟩ := hok9
   refine v_seqR [38,39,40,41] ?_; intro K10 k10
   refine zBinOp ⟨?_⟩
   refine k10 _ ?_
   refine zk ⟨?_⟩
   refine v_seq ?_; intro Q11 n11 e11 r11
   refine v_condS _ rfl ?_ ?_
   ·intro hc1
    have hlt : i < x3.length := by omega
    obtain ⟨s, hx⟩ : ∃ s, x3[i]? = some s := ⟨_, List.getElem?_eq_getElem hlt⟩
    have hsx := hsz s (List.mem_of_getElem? hx)
    have hst := all_step (p := nameB) hx
    refine v_skip ?_
    refine n11 _ _ (weak_keep [38, 39, 40] _) ?_
    refine zk ⟨?_⟩
    refine v_seq ?_; intro Q13 n13 e13 r13
    refine v_block ?_; intro Q14 n14 x14 e14 r14
    refine v_seqR [4,38,39,40] ?_; intro K15 k15
    have F := Fc.mk (fun f => getD_map (f := f) hx)
    refine zIndexAddr ⟨?_⟩
    refine zLoad ⟨?_⟩
    refine zAssign ⟨?_⟩
    refine k15 _ ?_
    refine zk ⟨?_⟩
    refine v_seqR [38,39,40,46] ?_; intro K16 k16
    refine zMove ⟨?_⟩
    refine zc (apName_con s hsx) ⟨?_⟩
    refine zUnOp ⟨?_⟩
    refine k16 _ ?_
    refine zk ⟨?_⟩
    refine v_condS _ rfl ?_ ?_
    ·intro hc2
     refine v_seqR [2] ?_; intro K18 k18
     refine zAssign ⟨?_⟩
     refine k18 _ ?_
     refine zk ⟨?_⟩
     refine v_ret ?_
     refine r14 _ ?_
     refine r13 _ ?_
     refine r9 _ ?_
     refine r8 _ ?_
     refine r6 _ ?_
     refine r0 _ ?_
     refine zf ⟨?_⟩
     rw [hh]
     exact ret_pure rfl (by rw [← hR, hst]; simp [hc2]) (.inl rfl)
    ·intro hc2
     refine v_skip ?_
     refine n14 _ ?_
     refine n13 _ _ (weak_keep [38, 39, 40] _) ?_
     refine zk ⟨?_⟩
     refine v_region ?_; intro K19 k19
     refine zBinOpW ⟨?_⟩
     refine zMove ⟨?_⟩
     refine k19 _ ?_
     refine n9 _ (i + 1) ?_ ?_ ?_
     ·refine weak_bothS [38, 39, 40] [] ⟨?_⟩
      rfl
     ·exact ⟨by omega, by rw [← hR, hst]; simp [hc2]⟩
     ·show _ < _; omega
   ·intro hc1
    refine v_exit ?_
    refine e11 _ _ ?_
    refine e9 _ _ ?_
    refine x8 _ ?_
    refine n6 _ _ (weak_keep [] _) ?_
    refine zk ⟨?_⟩
    refine v_seqR [2] ?_; intro K20 k20
    refine zAssign ⟨?_⟩
    refine k20 _ ?_
    refine zk ⟨?_⟩
    refine v_ret ?_
    refine r0 _ ?_
    refine zf ⟨?_⟩
    rw [hh]
    exact ret_pure rfl (by rw [← hR, all_end (by omega)]) (.inl rfl)
set_option maxHeartbeats 1000000 in
theorem ixFind_con (l : List (Int × Int × Bool × List ByteArray)) (n : Int) (hl : l.length ≤ 1048576) : Con Try.prog 186 [.sl (l.map (fun t : Int × Int × Bool × List ByteArray => V.agg [V.int .i64 t.1, V.int .i64 t.2.1, V.bool t.2.2.1, V.sl (t.2.2.2.map V.str)])), .int .i64 n] [] (.int .i64 (openF l n)) [] := by
 refine v_con [.tmp 4] [] Try.func186 rfl rfl rfl (by simp [Try.ntmps186]) ?_
 intro Q0 n0 r0
 simp only [Try.ntmps186, envFrom, Nat.reduceAdd]
 have T := Tys.mk (And.intro Ty.t3 (And.intro Ty.t4 (And.intro Ty.t9 (And.intro Ty.t84 (And.intro Ty.t93 Ty.t192)))))
 have F := Fc.mk True.intro
 refine v_seqR [0,1] ?_; intro K1 k1
 refine zAssign ⟨?_⟩
 refine k1 _ ?_
 refine zk ⟨?_⟩
 refine v_seq ?_; intro Q2 n2 e2 r2
 refine v_seqR [1,7,8,9] ?_; intro K3 k3
 refine zMove ⟨?_⟩
 refine zLen ⟨?_⟩
 refine zMove ⟨?_⟩
 refine k3 _ ?_
 refine zk ⟨?_⟩
 refine v_block ?_; intro Q4 n4 x4 e4 r4
 refine v_loop (fun i => ⟨[(1, .int .i64 n), (7, .sl (l.map (fun t : Int × Int × Bool × List ByteArray => V.agg [V.int .i64 t.1, V.int .i64 t.2.1, V.bool t.2.2.1, V.sl (t.2.2.2.map V.str)]))), (8, .int .i64 l.length), (9, .int .i64 (Nat.cast i))], [], false, 25, 0⟩) (fun i => i ≤ l.length ∧ firstP (fun x : (Int × Int × Bool × List ByteArray) => decide (x.1 = n) && !x.2.2.1) i (l.drop i) = firstP (fun x : (Int × Int × Bool × List ByteArray) => decide (x.1 = n) && !x.2.2.1) 0 l) (fun i => l.length - i) 0 ?_ ?_ ?_
 ·refine weak_of [1, 7, 8, 9] ?_
  simp only [keep_mk, keepE_nil, keepE_cons, look_cons, look_nil, Nat.reduceEqDiff, reduceIte]
  rfl
 ·exact ⟨Nat.zero_le _, rfl⟩
 ·rintro i hok5 Q5 n5 e5 r5
  obtain ⟨hi1, hR⟩ := hok5
  refine v_seqR [1,7,8,9,10] ?_; intro K6 k6
  refine zBinOp ⟨?_⟩
  refine k6 _ ?_
  refine zk ⟨?_⟩
  refine v_seq ?_; intro Q7 n7 e7 r7
  refine v_condS _ rfl ?_ ?_
  ·intro hc0
   have hlt : i < l.length := by omega
   obtain ⟨⟨x0, x1, x2, x3⟩, hx⟩ : ∃ x : Int × Int × Bool × List ByteArray, l[i]? = some x := ⟨l[i]'(by omega), List.getElem?_eq_getElem (by omega)⟩
   have hst := first_step (p := fun x : (Int × Int × Bool × List ByteArray) => decide (x.1 = n) && !x.2.2.1) hx
   refine v_skip ?_
   refine n7 _ _ (weak_keep [1, 7, 8, 9] _) ?_
   refine zk ⟨?_⟩
   refine v_seq ?_; intro Q9 n9 e9 r9
   refine v_block ?_; intro Q10 n10 x10 e10 r10
   refine v_seqR [1,5,6,7,8,9] ?_; intro K11 k11
   have F := Fc.mk (fun f => getD_map (f := f) hx)
   refine zMove ⟨?_⟩
   refine zIndexAddr ⟨?_⟩
   refine zLoad ⟨?_⟩
   refine zAlloc ⟨?_⟩
   refine zAssign ⟨?_⟩
   refine zStore ⟨?_⟩
   refine k11 _ ?_
   refine zk ⟨?_⟩
   refine v_seqR [1,5,7,8,9,22] ?_; intro K12 k12
   refine zFieldAddr ⟨?_⟩
   refine zLoad ⟨?_⟩
   refine zMove ⟨?_⟩
   refine zBinOp ⟨?_⟩
   refine zMove ⟨?_⟩
   refine zgFieldAddr ⟨?_⟩
   refine zgLoad ⟨?_⟩
   refine zgUnOp ⟨?_⟩
   refine zPick ⟨?_⟩
   refine k12 _ ?_
   refine zk ⟨?_⟩
   refine v_condS _ rfl ?_ ?_
   ·intro hc1
    refine v_seqR [4] ?_; intro K14 k14
    refine zMove ⟨?_⟩
    refine zAssign ⟨?_⟩
    refine k14 _ ?_
    refine zk ⟨?_⟩
    refine v_ret ?_
    refine r10 _ ?_
    refine r9 _ ?_
    refine r5 _ ?_
    refine r4 _ ?_
    refine r2 _ ?_
    refine r0 _ ?_
    refine zf ⟨?_⟩
    exact ret_pure rfl (by rw [openF, ← hR, hst, if_pos (by simpa using hc1)]) (.inl rfl)
   ·intro hc1
    refine v_skip ?_
    refine n10 _ ?_
    refine n9 _ _ (weak_keep [1, 7, 8, 9] _) ?_
    refine zk ⟨?_⟩
    refine v_region ?_; intro K15 k15
    refine zBinOpW ⟨?_⟩
    refine zMove ⟨?_⟩
    refine k15 _ ?_
    refine n5 _ (i + 1) ?_ ?_ ?_
    ·refine weak_bothS [1, 7, 8, 9] [] ⟨?_⟩
     rfl
    ·exact ⟨by omega, by rw [← hR, hst, if_neg (by simpa using hc1)]⟩
    ·show _ < _; omega
  ·intro hc0
   refine v_exit ?_
   refine e7 _ _ ?_
   refine e5 _ _ ?_
   refine x4 _ ?_
   refine n2 _ _ (weak_keep [] _) ?_
   refine zk ⟨?_⟩
   refine v_seqR [4] ?_; intro K16 k16
   refine zAssign ⟨?_⟩
   refine k16 _ ?_
   refine zk ⟨?_⟩
   refine v_ret ?_
   refine r0 _ ?_
   refine zf ⟨?_⟩
   exact ret_pure rfl (by rw [openF, ← hR, first_end (by omega)]) (.inl rfl)
set_option maxHeartbeats 1000000 in
theorem ixOf_con (l : List (Int × Int × Bool × List ByteArray)) (s : ByteArray) (hl : l.length ≤ 1048576) (hli : ∀ x ∈ l, x.2.2.2.length ≤ 1048576) : Con Try.prog 185 [.sl (l.map (fun t : Int × Int × Bool × List ByteArray => V.agg [V.int .i64 t.1, V.int .i64 t.2.1, V.bool t.2.2.1, V.sl (t.2.2.2.map V.str)])), .str s] [] (.int .i64 (commF l s)) [] := by
 refine v_con [.tmp 4] [] Try.func185 rfl rfl rfl (by simp [Try.ntmps185]) ?_
 intro Q0 n0 r0
 simp only [Try.ntmps185, envFrom, Nat.reduceAdd]
 have T := Tys.mk (And.intro Ty.t3 (And.intro Ty.t4 (And.intro Ty.t9 (And.intro Ty.t84 (And.intro Ty.t93 Ty.t192)))))
 have F := Fc.mk True.intro
 refine v_seqR [0,1] ?_; intro K1 k1
 refine zAssign ⟨?_⟩
 refine k1 _ ?_
 refine zk ⟨?_⟩
 refine v_seq ?_; intro Q2 n2 e2 r2
 refine v_seqR [1,7,8,9] ?_; intro K3 k3
 refine zMove ⟨?_⟩
 refine zLen ⟨?_⟩
 refine zMove ⟨?_⟩
 refine k3 _ ?_
 refine zk ⟨?_⟩
 refine v_block ?_; intro Q4 n4 x4 e4 r4
 refine v_loop (fun i => ⟨[(1, .str s), (7, .sl (l.map (fun t : Int × Int × Bool × List ByteArray => V.agg [V.int .i64 t.1, V.int .i64 t.2.1, V.bool t.2.2.1, V.sl (t.2.2.2.map V.str)]))), (8, .int .i64 l.length), (9, .int .i64 (Nat.cast i))], [], false, 20, 0⟩) (fun i => i ≤ l.length ∧ firstP (fun x : (Int × Int × Bool × List ByteArray) => inS s x.2.2.2) i (l.drop i) = firstP (fun x : (Int × Int × Bool × List ByteArray) => inS s x.2.2.2) 0 l) (fun i => l.length - i) 0 ?_ ?_ ?_
 ·refine weak_of [1, 7, 8, 9] ?_
  simp only [keep_mk, keepE_nil, keepE_cons, look_cons, look_nil, Nat.reduceEqDiff, reduceIte]
  rfl
 ·exact ⟨Nat.zero_le _, rfl⟩
 ·rintro i hok5 Q5 n5 e5 r5
  obtain ⟨hi1, hR⟩ := hok5
  refine v_seqR [1,7,8,9,10] ?_; intro K6 k6
  refine zBinOp ⟨?_⟩
  refine k6 _ ?_
  refine zk ⟨?_⟩
  refine v_seq ?_; intro Q7 n7 e7 r7
  refine v_condS _ rfl ?_ ?_
  ·intro hc0
   have hlt : i < l.length := by omega
   obtain ⟨⟨x0, x1, x2, x3⟩, hx⟩ : ∃ x : Int × Int × Bool × List ByteArray, l[i]? = some x := ⟨l[i]'(by omega), List.getElem?_eq_getElem (by omega)⟩
   have hlx := hli _ (List.mem_of_getElem? hx)
   simp only [] at hlx
   have hst := first_step (p := fun x : (Int × Int × Bool × List ByteArray) => inS s x.2.2.2) hx
   refine v_skip ?_
   refine n7 _ _ (weak_keep [1, 7, 8, 9] _) ?_
   refine zk ⟨?_⟩
   refine v_seq ?_; intro Q9 n9 e9 r9
   refine v_block ?_; intro Q10 n10 x10 e10 r10
   refine v_seqR [1,5,6,7,8,9] ?_; intro K11 k11
   have F := Fc.mk (fun f => getD_map (f := f) hx)
   refine zMove ⟨?_⟩
   refine zIndexAddr ⟨?_⟩
   refine zLoad ⟨?_⟩
   refine zAlloc ⟨?_⟩
   refine zAssign ⟨?_⟩
   refine zStore ⟨?_⟩
   refine k11 _ ?_
   refine zk ⟨?_⟩
   refine v_seqR [1,5,7,8,9,17] ?_; intro K12 k12
   refine zFieldAddr ⟨?_⟩
   refine zLoad ⟨?_⟩
   refine zMove ⟨?_⟩
   refine zc (dsHas_con x3 s hlx) ⟨?_⟩
   refine k12 _ ?_
   refine zk ⟨?_⟩
   refine v_condS _ rfl ?_ ?_
   ·intro hc1
    refine v_seqR [4] ?_; intro K14 k14
    refine zMove ⟨?_⟩
    refine zAssign ⟨?_⟩
    refine k14 _ ?_
    refine zk ⟨?_⟩
    refine v_ret ?_
    refine r10 _ ?_
    refine r9 _ ?_
    refine r5 _ ?_
    refine r4 _ ?_
    refine r2 _ ?_
    refine r0 _ ?_
    refine zf ⟨?_⟩
    exact ret_pure rfl (by rw [commF, ← hR, hst, if_pos hc1]) (.inl rfl)
   ·intro hc1
    refine v_skip ?_
    refine n10 _ ?_
    refine n9 _ _ (weak_keep [1, 7, 8, 9] _) ?_
    refine zk ⟨?_⟩
    refine v_region ?_; intro K15 k15
    refine zBinOpW ⟨?_⟩
    refine zMove ⟨?_⟩
    refine k15 _ ?_
    refine n5 _ (i + 1) ?_ ?_ ?_
    ·refine weak_bothS [1, 7, 8, 9] [] ⟨?_⟩
     rfl
    ·exact ⟨by omega, by rw [← hR, hst, if_neg (by simp [hc1])]⟩
    ·show _ < _; omega
  ·intro hc0
   refine v_exit ?_
   refine e7 _ _ ?_
   refine e5 _ _ ?_
   refine x4 _ ?_
   refine n2 _ _ (weak_keep [] _) ?_
   refine zk ⟨?_⟩
   refine v_seqR [4] ?_; intro K16 k16
   refine zAssign ⟨?_⟩
   refine k16 _ ?_
   refine zk ⟨?_⟩
   refine v_ret ?_
   refine r0 _ ?_
   refine zf ⟨?_⟩
   exact ret_pure rfl (by rw [commF, ← hR, first_end (by omega)]) (.inl rfl)
end Go.Proofs.Ytdgenniiidgimaa
