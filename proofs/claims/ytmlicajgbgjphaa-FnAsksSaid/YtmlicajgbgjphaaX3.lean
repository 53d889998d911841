/- What functions compute. No condition. -/
import Derived.Test.YtmlicajgbgjphaaUty
import Derived.Test.YtmlicajgbgjphaaUmG
import Derived.Test.YtmlicajgbgjphaaX1
import Derived.Test.YtmlicajgbgjphaaX2
set_option linter.unusedSimpArgs false
set_option linter.unusedVariables false
set_option linter.defProp false
namespace Go.Proofs.Ytmlicajgbgjphaa
open Go Go.Vm

set_option maxHeartbeats 1000000 in
theorem indexFuncAsk_con (l : List (Int × Int × Int)) (g : Nat) (caps : List V) (p : Int × Int × Int → Bool) (hl : l.length ≤ 1048576) (hc : Caps caps) (hg : ∀ x0 x1 x2, (x0, x1, x2) ∈ l → Con Try.prog g (V.agg [V.int .i64 x0, V.int .i64 x1, V.int .i64 x2] :: caps) [] (.bool (p (x0, x1, x2))) []) : Con Try.prog 231 [.sl (l.map (fun t : Int × Int × Int => V.agg [V.int .i64 t.1, V.int .i64 t.2.1, V.int .i64 t.2.2])), .fn g caps] [] (.int .i64 (firstP p 0 l)) [] := by
 refine v_con [.tmp 4] [] Try.func231 rfl rfl rfl (by simp [Try.ntmps231]) ?_
 intro Q0 n0 r0
 simp only [Try.ntmps231, envFrom, Nat.reduceAdd]
 have T := Tys.mk (And.intro Ty.t3 (And.intro Ty.t4 (And.intro Ty.t25 Ty.t35)))
 have F := Fc.mk True.intro
 refine v_seqR [0,1] ?_; intro K1 k1
 refine zAssign ⟨?_⟩
 refine k1 _ ?_
 refine zk ⟨?_⟩
 refine v_seq ?_; intro Q2 n2 e2 r2
 refine v_seqR [0,1,7,8] ?_; intro K3 k3
 refine zMove ⟨?_⟩
 refine zLen ⟨?_⟩
 refine zMove ⟨?_⟩
 refine k3 _ ?_
 refine zk ⟨?_⟩
 refine v_block ?_; intro Q4 n4 x4 e4 r4
 refine v_loop (fun i => ⟨[(0, .sl (l.map (fun t : Int × Int × Int => V.agg [V.int .i64 t.1, V.int .i64 t.2.1, V.int .i64 t.2.2]))), (1, .fn g caps), (7, .int .i64 l.length), (8, .int .i64 (Nat.cast i))], [], false, 19, 0⟩) (fun i => i ≤ l.length ∧ firstP p i (l.drop i) = firstP p 0 l) (fun i => l.length - i) 0 ?_ ?_ ?_
 ·refine weak_of [0, 1, 7, 8] ?_
  simp only [keep_mk, keepE_nil, keepE_cons, look_cons, look_nil, Nat.reduceEqDiff, reduceIte]
  rfl
 ·exact ⟨Nat.zero_le _, rfl⟩
 ·rintro i hok5 Q5 n5 e5 r5
  obtain ⟨hi1, hR⟩ := hok5
  refine v_seqR [0,1,7,8,9] ?_; intro K6 k6
  refine zBinOp ⟨?_⟩
  refine k6 _ ?_
  refine zk ⟨?_⟩
  refine v_seq ?_; intro Q7 n7 e7 r7
  refine v_condS _ rfl ?_ ?_
  ·intro hc0
   have hlt : i < l.length := by omega
   obtain ⟨⟨x0, x1, x2⟩, hx⟩ : ∃ x : Int × Int × Int, l[i]? = some x := ⟨l[i]'(by omega), List.getElem?_eq_getElem (by omega)⟩
   have hst := first_step (p := p) hx
   refine v_skip ?_
   refine n7 _ _ (weak_keep [0, 1, 7, 8] _) ?_
   refine zk ⟨?_⟩
   refine v_seq ?_; intro Q9 n9 e9 r9
   refine v_block ?_; intro Q10 n10 x10 e10 r10
   refine v_seqR [0,1,5,7,8] ?_; intro K11 k11
   have F := Fc.mk (fun f => getD_map (f := f) hx)
   refine zMove ⟨?_⟩
   refine zAssign ⟨?_⟩
   refine k11 _ ?_
   refine zk ⟨?_⟩
   refine v_seqR [0,1,5,7,8,16] ?_; intro K12 k12
   refine zMove ⟨?_⟩
   refine zMove ⟨?_⟩
   refine zMove ⟨?_⟩
   refine zIndexAddr ⟨?_⟩
   refine zLoad ⟨?_⟩
   refine zcc (hg x0 x1 x2 (List.mem_of_getElem? hx)) ⟨?_⟩
   refine k12 _ ?_
   refine zk ⟨?_⟩
   refine v_condS _ rfl ?_ ?_
   ·intro hc1
    refine v_seqR [4] ?_; intro K14 k14
    refine zMove ⟨?_⟩
    refine zAssign ⟨?_⟩
    refine k14 _ ?_
    refine zk ⟨?_⟩
    refine v_ret ?_
    refine r10 _ ?_
    refine r9 _ ?_
    refine r5 _ ?_
    refine r4 _ ?_
    refine r2 _ ?_
    refine r0 _ ?_
    refine zf ⟨?_⟩
    exact ret_pure rfl (by rw [← hR, hst, if_pos hc1]) (.inl rfl)
   ·intro hc1
    refine v_skip ?_
    refine n10 _ ?_
    refine n9 _ _ (weak_keep [0, 1, 7, 8] _) ?_
    refine zk ⟨?_⟩
    refine v_region ?_; intro K15 k15
    refine zBinOpW ⟨?_⟩
    refine zMove ⟨?_⟩
    refine k15 _ ?_
    refine n5 _ (i + 1) ?_ ?_ ?_
    ·refine weak_bothC [0, 1, 7, 8] [] ⟨?_⟩
     rfl
    ·exact ⟨by omega, by rw [← hR, hst, if_neg (by simp [hc1])]⟩
    ·show _ < _; omega
  ·intro hc0
   refine v_exit ?_
   refine e7 _ _ ?_
   refine e5 _ _ ?_
   refine x4 _ ?_
   refine n2 _ _ (weak_keep [] _) ?_
   refine zk ⟨?_⟩
   refine v_seqR [4] ?_; intro K16 k16
   refine zAssign ⟨?_⟩
   refine k16 _ ?_
   refine zk ⟨?_⟩
   refine v_ret ?_
   refine r0 _ ?_
   refine zf ⟨?_⟩
   exact ret_pure rfl (by rw [← hR, first_end (by omega)]) (.inl rfl)
set_option maxHeartbeats 1000000 in
theorem containsFuncAsk_con (l : List (Int × Int × Int)) (g : Nat) (caps : List V) (p : Int × Int × Int → Bool) (hl : l.length ≤ 1048576) (hc : Caps caps) (hg : ∀ x0 x1 x2, (x0, x1, x2) ∈ l → Con Try.prog g (V.agg [V.int .i64 x0, V.int .i64 x1, V.int .i64 x2] :: caps) [] (.bool (p (x0, x1, x2))) []) : Con Try.prog 168 [.sl (l.map (fun t : Int × Int × Int => V.agg [V.int .i64 t.1, V.int .i64 t.2.1, V.int .i64 t.2.2])), .fn g caps] [] (.bool (l.any p)) [] := by
 refine v_con [.tmp 4] [] Try.func168 rfl rfl rfl (by simp [Try.ntmps168]) ?_
 intro Q0 n0 r0
 simp only [Try.ntmps168, envFrom, Nat.reduceAdd]
 have T := Tys.mk (And.intro Ty.t3 (And.intro Ty.t25 Ty.t35))
 have F := Fc.mk True.intro
 refine v_seqR [0,1] ?_; intro K1 k1
 refine zAssign ⟨?_⟩
 refine k1 _ ?_
 refine zk ⟨?_⟩
 refine v_seqR [4] ?_; intro K2 k2
 refine zMove ⟨?_⟩
 refine zMove ⟨?_⟩
 refine zcc (indexFuncAsk_con l g caps p hl hc hg) ⟨?_⟩
 refine zBinOp ⟨?_⟩
 refine zAssign ⟨?_⟩
 refine k2 _ ?_
 refine zk ⟨?_⟩
 refine v_ret ?_
 refine r0 _ ?_
 refine zf ⟨?_⟩
 exact ret_pure rfl (by rw [first_any]) (.inl rfl)
def runF (sk ln : Int) (p : (Int × Int) × List Bool) (a : (Int × Int × Int)) : (Int × Int) × List Bool := ((ansL p.1.1 p.1.2 a sk ln).1, p.2 ++ [(ansL p.1.1 p.1.2 a sk ln).2])
def runTo (x : Int × Int) (l : List (Int × Int × Int)) (sk ln : Int) : (Int × Int) × List Bool := l.foldl (runF sk ln) (x, [])
def runB (x : Int × Int) (l : List (Int × Int × Int)) (sk ln : Int) : Bool := leB x.1 x.2 && decide ((l.length : Int) ≤ 40) && l.all reqB && parB sk ln
def runR (x : Int × Int) (l : List (Int × Int × Int)) (sk ln : Int) : (Int × Int) × List Bool := if runB x l sk ln = true then runTo x l sk ln else ((0, 0), [])
theorem run_step {x : Int × Int} {l : List (Int × Int × Int)} {sk ln : Int} {i : Nat} {a : (Int × Int × Int)} (h : l[i]? = some a) : runTo x (l.take (i + 1)) sk ln = runF sk ln (runTo x (l.take i) sk ln) a := by
  rw [runTo, List.take_add_one, h, List.foldl_append]; rfl
theorem run_len (x : Int × Int) (l : List (Int × Int × Int)) (sk ln : Int) : ∀ n, n ≤ l.length → (runTo x (l.take n) sk ln).2.length = n
  | 0, _ => rfl
  | n + 1, h => by
    obtain ⟨a, ha⟩ : ∃ a, l[n]? = some a := ⟨l[n]'(by omega), List.getElem?_eq_getElem (by omega)⟩
    rw [run_step ha, runF, List.length_append, run_len x l sk ln n (by omega)]; rfl
theorem run_ok {x : Int × Int} (l : List (Int × Int × Int)) (sk ln : Int) (q : leB x.1 x.2 = true) : ∀ n, n ≤ l.length → leB (runTo x (l.take n) sk ln).1.1 (runTo x (l.take n) sk ln).1.2 = true
  | 0, _ => q
  | n + 1, h => by
    obtain ⟨a, ha⟩ : ∃ a, l[n]? = some a := ⟨l[n]'(by omega), List.getElem?_eq_getElem (by omega)⟩
    rw [run_step ha, runF]
    exact ansL_ok _ _ _ (run_ok l sk ln q n (by omega))
theorem run_bit {x : Int × Int} {l : List (Int × Int × Int)} {sk ln : Int} {a : (Int × Int × Int)} : ∀ {n i : Nat}, i < n → n ≤ l.length → l[i]? = some a → (runTo x (l.take n) sk ln).2[i]? = some (ansL (runTo x (l.take i) sk ln).1.1 (runTo x (l.take i) sk ln).1.2 a sk ln).2
  | n + 1, i, h, hl, ha => by
    obtain ⟨b, hb⟩ : ∃ b, l[n]? = some b := ⟨l[n]'(by omega), List.getElem?_eq_getElem (by omega)⟩
    have hlen := run_len x l sk ln n (by omega)
    rw [run_step hb, runF]
    by_cases e : i = n
    · subst e
      rw [hb] at ha; cases ha
      show (_ ++ [_])[i]? = _
      rw [List.getElem?_append_right (by omega), hlen, Nat.sub_self]; rfl
    · show (_ ++ [_])[i]? = _
      rw [List.getElem?_append_left (by omega)]
      exact run_bit (by omega) (by omega) ha
theorem snoc_Bool {a : List Bool} {x : Bool} : a.map V.bool ++ [V.bool x] = (a ++ [x]).map V.bool := by simp
def sentF (xs : List Int) (r : Int) : List Int := xs.set (r - 1).toNat (xs.getD (r - 1).toNat 0 + 1)
def sentTo (l : List (Int × Int × Int)) (gs : List Bool) : Nat → List Int
  | 0 => [0, 0]
  | n + 1 => match l[n]? with
    | some a => if gs.getD n false = true ∧ a.2.2 = 3 then sentF (sentTo l gs n) a.2.1 else sentTo l gs n
    | none => sentTo l gs n
theorem sent_step {l : List (Int × Int × Int)} {gs : List Bool} {n : Nat} {a : (Int × Int × Int)} {g : Bool} (h : l[n]? = some a) (hg : gs[n]? = some g) : sentTo l gs (n + 1) = if g = true ∧ a.2.2 = 3 then sentF (sentTo l gs n) a.2.1 else sentTo l gs n := by
  rw [sentTo, h, List.getD_eq_getElem?_getD, hg]; rfl
theorem sent_len (l : List (Int × Int × Int)) (gs : List Bool) : ∀ n, (sentTo l gs n).length = 2
  | 0 => rfl
  | n + 1 => by
    have := sent_len l gs n
    rw [sentTo]
    split
    · split
      · rw [sentF, List.length_set]; exact this
      · exact this
    · exact this
theorem sentF_le {xs : List Int} {r : Int} {m : Int} (h : ∀ x ∈ xs, 0 ≤ x ∧ x ≤ m) (h0 : 0 ≤ m) : ∀ x ∈ sentF xs r, 0 ≤ x ∧ x ≤ m + 1 := by
  intro x hx
  rcases List.mem_or_eq_of_mem_set hx with q | q
  · have := h x q; omega
  · rw [q, List.getD_eq_getElem?_getD]
    cases e : xs[(r - 1).toNat]? with
    | none => simp; omega
    | some y => have := h y (List.mem_of_getElem? e); simp; omega
theorem sent_le (l : List (Int × Int × Int)) (gs : List Bool) : ∀ n : Nat, ∀ x ∈ sentTo l gs n, 0 ≤ x ∧ x ≤ n
  | 0 => by intro x hx; simp [sentTo] at hx; omega
  | n + 1 => by
    have ih := sent_le l gs n
    have up : ∀ x ∈ sentTo l gs n, 0 ≤ x ∧ x ≤ ((n + 1 : Nat) : Int) := fun x hx => by have := ih x hx; omega
    rw [sentTo]
    split
    · split
      · intro x hx; have := sentF_le ih (by omega) x hx; omega
      · exact up
    · exact up
def sentR (x : Int × Int) (l : List (Int × Int × Int)) (sk ln : Int) : List Int := if runB x l sk ln = true then sentTo l (runTo x l sk ln).2 l.length else []
theorem sentR_len (x : Int × Int) (l : List (Int × Int × Int)) (sk ln : Int) : (sentR x l sk ln).length ≤ 2 := by
  unfold sentR
  split
  · rw [sent_len]; exact Nat.le_refl _
  · exact Nat.zero_le _
theorem runR_len {x : Int × Int} {l : List (Int × Int × Int)} {sk ln : Int} (hl : l.length ≤ 1048576) : (runR x l sk ln).2.length ≤ 1048576 := by
  unfold runR
  split
  · have := run_len x l sk ln l.length (Nat.le_refl _)
    rw [List.take_length] at this
    omega
  · exact Nat.zero_le _

def leAskB (h u r m sk : Int) : Bool := leB h u && roomB r && minB m && (decide (0 ≤ sk) && decide (sk ≤ 10))

set_option maxHeartbeats 1000000 in
theorem leAsked_con (h u r m sk : Int) : Con Try.prog 91 [.agg [.int .i64 h, .int .i64 u], .int .i64 r, .int .i64 m, .int .i64 sk] [] (.bool (leAskB h u r m sk)) [] := by
 refine v_con [.tmp 8] [] Try.func91 rfl rfl rfl (by simp [Try.ntmps91]) ?_
 intro Q0 n0 r0
 simp only [Try.ntmps91, envFrom, Nat.reduceAdd]
 have T := Tys.mk (And.intro Ty.t3 (And.intro Ty.t4 Ty.t24))
 have F := Fc.mk True.intro
 refine v_seqR [1,2,3,4] ?_; intro K1 k1
 refine zBox ⟨?_⟩
 refine zAssign ⟨?_⟩
 refine k1 _ ?_
 refine zk ⟨?_⟩
 refine v_seqR [8] ?_; intro K2 k2
 refine zLoad ⟨?_⟩
 refine zc (leGood_con _ _) ⟨?_⟩
 refine zMove ⟨?_⟩
 refine zgMove ⟨?_⟩
 refine zgc (leRoom_con _) ⟨?_⟩
 refine zPick ⟨?_⟩
 refine zMove ⟨?_⟩
 refine zgMove ⟨?_⟩
 refine zgc (leMinute_con _) ⟨?_⟩
 refine zPick ⟨?_⟩
 refine zMove ⟨?_⟩
 refine zgMove ⟨?_⟩
 refine zgc (l1In_con _ _ _) ⟨?_⟩
 refine zPick ⟨?_⟩
 refine zAssign ⟨?_⟩
 refine k2 _ ?_
 refine zk ⟨?_⟩
 refine v_ret ?_
 refine r0 _ ?_
 refine zf ⟨?_⟩
 exact ret_pure rfl (by first | rfl | simp [leAskB, Bool.and_assoc]) (.inl rfl)
set_option maxHeartbeats 1000000 in
theorem leLength_con (n : Int) : Con Try.prog 92 [.int .i64 n] [] (.bool (decide (1 ≤ n) && decide (n ≤ 600))) [] := by
 refine v_con [.tmp 2] [] Try.func92 rfl rfl rfl (by simp [Try.ntmps92]) ?_
 intro Q0 n0 r0
 simp only [Try.ntmps92, envFrom, Nat.reduceAdd]
 have T := Tys.mk (And.intro Ty.t3 Ty.t4)
 have F := Fc.mk True.intro
 refine v_seqR [0] ?_; intro K1 k1
 refine zAssign ⟨?_⟩
 refine k1 _ ?_
 refine zk ⟨?_⟩
 refine v_seqR [2] ?_; intro K2 k2
 refine zMove ⟨?_⟩
 refine zc (l1In_con _ _ _) ⟨?_⟩
 refine zAssign ⟨?_⟩
 refine k2 _ ?_
 refine zk ⟨?_⟩
 refine v_ret ?_
 refine r0 _ ?_
 refine zf ⟨?_⟩
 exact ret_pure rfl rfl (.inl rfl)
set_option maxHeartbeats 1000000 in
theorem leKind_con (n : Int) : Con Try.prog 93 [.int .i64 n] [] (.bool (decide (0 ≤ n) && decide (n ≤ 3))) [] := by
 refine v_con [.tmp 2] [] Try.func93 rfl rfl rfl (by simp [Try.ntmps93]) ?_
 intro Q0 n0 r0
 simp only [Try.ntmps93, envFrom, Nat.reduceAdd]
 have T := Tys.mk (And.intro Ty.t3 Ty.t4)
 have F := Fc.mk True.intro
 refine v_seqR [0] ?_; intro K1 k1
 refine zAssign ⟨?_⟩
 refine k1 _ ?_
 refine zk ⟨?_⟩
 refine v_seqR [2] ?_; intro K2 k2
 refine zMove ⟨?_⟩
 refine zc (l1In_con _ _ _) ⟨?_⟩
 refine zAssign ⟨?_⟩
 refine k2 _ ?_
 refine zk ⟨?_⟩
 refine v_ret ?_
 refine r0 _ ?_
 refine zf ⟨?_⟩
 exact ret_pure rfl rfl (.inl rfl)
set_option maxHeartbeats 1000000 in
theorem implAnswerAsk_con (h u : Int) (x0 : Int) (x1 : Int) (x2 : Int) (sk ln : Int) : Con Try.prog 14 [.agg [.int .i64 h, .int .i64 u], .agg [V.int .i64 x0, V.int .i64 x1, V.int .i64 x2], .int .i64 sk, .int .i64 ln] [] (.tup [.agg [.int .i64 (if askOk h u (x0, x1, x2) sk ln = true then (ansL h u (x0, x1, x2) sk ln).1 else (0, 0)).1, .int .i64 (if askOk h u (x0, x1, x2) sk ln = true then (ansL h u (x0, x1, x2) sk ln).1 else (0, 0)).2], .bool (askOk h u (x0, x1, x2) sk ln && (ansL h u (x0, x1, x2) sk ln).2), .bool (askOk h u (x0, x1, x2) sk ln)]) [] := by
 refine v_con [.cell 8 24, .tmp 9, .tmp 10] [] Try.func14 rfl rfl rfl (by simp [Try.ntmps14]) ?_
 intro Q0 n0 r0
 simp only [Try.ntmps14, envFrom, Nat.reduceAdd]
 have T := Tys.mk (And.intro Ty.t3 (And.intro Ty.t4 (And.intro Ty.t24 Ty.t35)))
 have F := Fc.mk True.intro
 refine v_seqR [2,3,4,5,8] ?_; intro K1 k1
 refine zBox ⟨?_⟩
 refine zBox ⟨?_⟩
 refine zAlloc ⟨?_⟩
 refine zAssign ⟨?_⟩
 refine zAssign ⟨?_⟩
 refine k1 _ ?_
 refine zk ⟨?_⟩
 refine v_seq ?_; intro Q2 n2 e2 r2
 refine v_seqR [2,3,4,5,8,30] ?_; intro K3 k3
 refine zLoad ⟨?_⟩
 refine zc (isLease_con h u) ⟨?_⟩
 refine zUnOp ⟨?_⟩
 refine zMove ⟨?_⟩
 refine zgLoad ⟨?_⟩
 refine zgc (isAsk_con x0 x1 x2) ⟨?_⟩
 refine zgUnOp ⟨?_⟩
 refine zPick ⟨?_⟩
 refine zMove ⟨?_⟩
 refine zgMove ⟨?_⟩
 refine zgc (inside_con _ _ _) ⟨?_⟩
 refine zgUnOp ⟨?_⟩
 refine zPick ⟨?_⟩
 refine zMove ⟨?_⟩
 refine zgMove ⟨?_⟩
 refine zgc (inside_con _ _ _) ⟨?_⟩
 refine zgUnOp ⟨?_⟩
 refine zPick ⟨?_⟩
 refine k3 _ ?_
 refine zk ⟨?_⟩
 refine v_condS _ rfl ?_ ?_
 ·intro hc0
  have hk : askOk h u (x0, x1, x2) sk ln = false := by
   cases hq : askOk h u (x0, x1, x2) sk ln with
   |false => rfl
   |true =>
    exfalso
    simp only [askOk, reqB, parB, Bool.and_eq_true, decide_eq_true_eq] at hq
    obtain ⟨⟨h1, ⟨h2, h3⟩, h4⟩, h5, h6⟩ := hq
    simp [reqB, leAskB, h1, h2, h3] at hc0
    omega
  refine v_seqR [8,9,10] ?_; intro K5 k5
  refine zBuild ⟨?_⟩
  refine zStore ⟨?_⟩
  refine zAssign ⟨?_⟩
  refine zAssign ⟨?_⟩
  refine k5 _ ?_
  refine zk ⟨?_⟩
  refine v_ret ?_
  refine r2 _ ?_
  refine r0 _ ?_
  refine zf ⟨?_⟩
  simp only [zE, zL, zO, zN, aStepM, optable, set_some, Nat.reduceEqDiff, reduceIte, Nat.reduceLT, implies_true, forall_const, reduceCtorEq, V.ofValue, V.ofScalar, V.un, V.gd, aLoad, row_mk, Blk.row, PartOK, Go.Vm.part, V.cells, V.noSl, V.noRef, Nat.reduceAdd, Nat.reduceLeDiff, Nat.reduceMul, Try.underlying3, Ty.c3, Ty.a3, Try.underlying24, Ty.c24, Ty.a24]
  rw [hk]
  exact ret_pure rfl rfl (.inl rfl)
 ·intro hc0
  have hk : askOk h u (x0, x1, x2) sk ln = true := by
   simp only [askOk, reqB, parB, Bool.and_eq_true, decide_eq_true_eq]
   simp [reqB, leAskB] at hc0
   simp_all
  have hk2 := hk
  simp only [askOk, Bool.and_eq_true] at hk2
  have hle := le_bounds hk2.1.1
  have hrq := req_bounds hk2.1.2
  have hpr := par_bounds hk2.2
  simp only [] at hrq
  refine v_skip ?_
  refine n2 _ _ (weak_keep [2, 3, 4, 5, 8] _) ?_
  refine zk ⟨?_⟩
  refine v_seqR [8,11,12] ?_; intro K6 k6
  refine zLoad ⟨?_⟩
  refine zLoad ⟨?_⟩
  refine zMove ⟨?_⟩
  refine zMove ⟨?_⟩
  refine zc (answer_con h u x0 x1 x2 sk ln hle.2 hrq.1 hpr.1 hpr.2) ⟨?_⟩
  refine zMove ⟨?_⟩
  refine zExtract ⟨?_⟩
  refine zExtract ⟨?_⟩
  refine zAlloc ⟨?_⟩
  refine zStore ⟨?_⟩
  refine zAssign ⟨?_⟩
  refine k6 _ ?_
  refine zk ⟨?_⟩
  refine v_seqR [8,9,10] ?_; intro K7 k7
  refine zLoad ⟨?_⟩
  refine zMove ⟨?_⟩
  refine zStore ⟨?_⟩
  refine zAssign ⟨?_⟩
  refine zAssign ⟨?_⟩
  refine k7 _ ?_
  refine zk ⟨?_⟩
  refine v_ret ?_
  refine r0 _ ?_
  refine zf ⟨?_⟩
  simp only [zE, zL, zO, zN, aStepM, optable, set_some, Nat.reduceEqDiff, reduceIte, Nat.reduceLT, implies_true, forall_const, reduceCtorEq, V.ofValue, V.ofScalar, V.un, V.gd, aLoad, row_mk, Blk.row, PartOK, Go.Vm.part, V.cells, V.noSl, V.noRef, Nat.reduceAdd, Nat.reduceLeDiff, Nat.reduceMul, Try.underlying3, Ty.c3, Ty.a3, Try.underlying24, Ty.c24, Ty.a24]
  rw [hk]
  exact ret_pure rfl rfl (.inl rfl)
set_option maxHeartbeats 1000000 in
theorem specAnswerAsk_con (h u : Int) (x0 : Int) (x1 : Int) (x2 : Int) (sk ln : Int) : Con Try.prog 15 [.agg [.int .i64 h, .int .i64 u], .agg [V.int .i64 x0, V.int .i64 x1, V.int .i64 x2], .int .i64 sk, .int .i64 ln] [] (.tup [.agg [.int .i64 (if askOk h u (x0, x1, x2) sk ln = true then (ansL h u (x0, x1, x2) sk ln).1 else (0, 0)).1, .int .i64 (if askOk h u (x0, x1, x2) sk ln = true then (ansL h u (x0, x1, x2) sk ln).1 else (0, 0)).2], .bool (askOk h u (x0, x1, x2) sk ln && (ansL h u (x0, x1, x2) sk ln).2), .bool (askOk h u (x0, x1, x2) sk ln)]) [] := by
 refine v_con [.cell 8 24, .tmp 9, .tmp 10] [] Try.func15 rfl rfl rfl (by simp [Try.ntmps15]) ?_
 intro Q0 n0 r0
 simp only [Try.ntmps15, envFrom, Nat.reduceAdd]
 have T := Tys.mk (And.intro Ty.t3 (And.intro Ty.t4 (And.intro Ty.t24 Ty.t35)))
 have F := Fc.mk True.intro
 refine v_seqR [2,3,4,5,8] ?_; intro K1 k1
 refine zBox ⟨?_⟩
 refine zBox ⟨?_⟩
 refine zAlloc ⟨?_⟩
 refine zAssign ⟨?_⟩
 refine zAssign ⟨?_⟩
 refine k1 _ ?_
 refine zk ⟨?_⟩
 refine v_seq ?_; intro Q2 n2 e2 r2
 refine v_seqR [2,3,4,5,8,31] ?_; intro K3 k3
 refine zLoad ⟨?_⟩
 refine zFieldAddr ⟨?_⟩
 refine zLoad ⟨?_⟩
 refine zFieldAddr ⟨?_⟩
 refine zLoad ⟨?_⟩
 refine zMove ⟨?_⟩
 refine zc (leAsked_con h u x1 x0 sk) ⟨?_⟩
 refine zUnOp ⟨?_⟩
 refine zMove ⟨?_⟩
 refine zgMove ⟨?_⟩
 refine zgc (leLength_con _) ⟨?_⟩
 refine zgUnOp ⟨?_⟩
 refine zPick ⟨?_⟩
 refine zMove ⟨?_⟩
 refine zgFieldAddr ⟨?_⟩
 refine zgLoad ⟨?_⟩
 refine zgc (leKind_con _) ⟨?_⟩
 refine zgUnOp ⟨?_⟩
 refine zPick ⟨?_⟩
 refine k3 _ ?_
 refine zk ⟨?_⟩
 refine v_condS _ rfl ?_ ?_
 ·intro hc0
  have hk : askOk h u (x0, x1, x2) sk ln = false := by
   cases hq : askOk h u (x0, x1, x2) sk ln with
   |false => rfl
   |true =>
    exfalso
    simp only [askOk, reqB, parB, Bool.and_eq_true, decide_eq_true_eq] at hq
    obtain ⟨⟨h1, ⟨h2, h3⟩, h4⟩, h5, h6⟩ := hq
    simp [reqB, leAskB, h1, h2, h3] at hc0
    omega
  refine v_seqR [8,9,10] ?_; intro K5 k5
  refine zBuild ⟨?_⟩
  refine zStore ⟨?_⟩
  refine zAssign ⟨?_⟩
  refine zAssign ⟨?_⟩
  refine k5 _ ?_
  refine zk ⟨?_⟩
  refine v_ret ?_
  refine r2 _ ?_
  refine r0 _ ?_
  refine zf ⟨?_⟩
  simp only [zE, zL, zO, zN, aStepM, optable, set_some, Nat.reduceEqDiff, reduceIte, Nat.reduceLT, implies_true, forall_const, reduceCtorEq, V.ofValue, V.ofScalar, V.un, V.gd, aLoad, row_mk, Blk.row, PartOK, Go.Vm.part, V.cells, V.noSl, V.noRef, Nat.reduceAdd, Nat.reduceLeDiff, Nat.reduceMul, Try.underlying3, Ty.c3, Ty.a3, Try.underlying24, Ty.c24, Ty.a24]
  rw [hk]
  exact ret_pure rfl rfl (.inl rfl)
 ·intro hc0
  have hk : askOk h u (x0, x1, x2) sk ln = true := by
   simp only [askOk, reqB, parB, Bool.and_eq_true, decide_eq_true_eq]
   simp [reqB, leAskB] at hc0
   simp_all
  have hk2 := hk
  simp only [askOk, Bool.and_eq_true] at hk2
  have hle := le_bounds hk2.1.1
  have hrq := req_bounds hk2.1.2
  have hpr := par_bounds hk2.2
  simp only [] at hrq
  refine v_skip ?_
  refine n2 _ _ (weak_keep [2, 3, 4, 5, 8] _) ?_
  refine zk ⟨?_⟩
  refine v_seqR [8,11,12] ?_; intro K6 k6
  refine zLoad ⟨?_⟩
  refine zLoad ⟨?_⟩
  refine zMove ⟨?_⟩
  refine zMove ⟨?_⟩
  refine zc (leAnswer_con h u x0 x1 x2 sk ln hle.2 hrq.1 hpr.1 hpr.2) ⟨?_⟩
  refine zMove ⟨?_⟩
  refine zExtract ⟨?_⟩
  refine zExtract ⟨?_⟩
  refine zAlloc ⟨?_⟩
  refine zStore ⟨?_⟩
  refine zAssign ⟨?_⟩
  refine k6 _ ?_
  refine zk ⟨?_⟩
  refine v_seqR [8,9,10] ?_; intro K7 k7
  refine zLoad ⟨?_⟩
  refine zMove ⟨?_⟩
  refine zStore ⟨?_⟩
  refine zAssign ⟨?_⟩
  refine zAssign ⟨?_⟩
  refine k7 _ ?_
  refine zk ⟨?_⟩
  refine v_ret ?_
  refine r0 _ ?_
  refine zf ⟨?_⟩
  simp only [zE, zL, zO, zN, aStepM, optable, set_some, Nat.reduceEqDiff, reduceIte, Nat.reduceLT, implies_true, forall_const, reduceCtorEq, V.ofValue, V.ofScalar, V.un, V.gd, aLoad, row_mk, Blk.row, PartOK, Go.Vm.part, V.cells, V.noSl, V.noRef, Nat.reduceAdd, Nat.reduceLeDiff, Nat.reduceMul, Try.underlying3, Ty.c3, Ty.a3, Try.underlying24, Ty.c24, Ty.a24]
  rw [hk]
  exact ret_pure rfl rfl (.inl rfl)
set_option maxHeartbeats 1000000 in
theorem runAsks1_con (x0 : Int) (x1 : Int) (x2 : Int) : Con Try.prog 169 [.agg [V.int .i64 x0, V.int .i64 x1, V.int .i64 x2]] [] (.bool (!reqB (x0, x1, x2))) [] := by
 refine v_con [.tmp 2] [] Try.func169 rfl rfl rfl (by simp [Try.ntmps169]) ?_
 intro Q0 n0 r0
 simp only [Try.ntmps169, envFrom, Nat.reduceAdd]
 have T := Tys.mk (And.intro Ty.t3 (And.intro Ty.t4 Ty.t35))
 have F := Fc.mk True.intro
 refine v_seqR [1] ?_; intro K1 k1
 refine zBox ⟨?_⟩
 refine zAssign ⟨?_⟩
 refine k1 _ ?_
 refine zk ⟨?_⟩
 refine v_seqR [2] ?_; intro K2 k2
 refine zLoad ⟨?_⟩
 refine zc (isAsk_con x0 x1 x2) ⟨?_⟩
 refine zUnOp ⟨?_⟩
 refine zAssign ⟨?_⟩
 refine k2 _ ?_
 refine zk ⟨?_⟩
 refine v_ret ?_
 refine r0 _ ?_
 refine zf ⟨?_⟩
 exact ret_pure rfl rfl (.inl rfl)
set_option maxHeartbeats 1000000 in
theorem runAsks_con (h u : Int) (l : List (Int × Int × Int)) (sk ln : Int) (hl : l.length ≤ 1048576) : Con Try.prog 85 [.agg [.int .i64 h, .int .i64 u], .sl (l.map (fun t : Int × Int × Int => V.agg [V.int .i64 t.1, V.int .i64 t.2.1, V.int .i64 t.2.2])), .int .i64 sk, .int .i64 ln] [] (.tup [.agg [.int .i64 (runR (h, u) l sk ln).1.1, .int .i64 (runR (h, u) l sk ln).1.2], .ref 0, .bool (runB (h, u) l sk ln)]) [.arr ((runR (h, u) l sk ln).2.map V.bool) .flat] := by
 have hany : (l.any fun a => !reqB a) = !(l.all reqB) := by rw [List.all_eq_not_any_not]; simp
 refine v_con [.cell 8 24, .tmp 9, .tmp 10] [] Try.func85 rfl rfl rfl (by simp [Try.ntmps85]) ?_
 intro Q0 n0 r0
 simp only [Try.ntmps85, envFrom, Nat.reduceAdd]
 have T := Tys.mk (And.intro Ty.t3 (And.intro Ty.t4 (And.intro Ty.t24 (And.intro Ty.t25 (And.intro Ty.t28 Ty.t35)))))
 have F := Fc.mk True.intro
 refine v_seqR [1,2,3,4,8] ?_; intro K1 k1
 refine zBox ⟨?_⟩
 refine zAlloc ⟨?_⟩
 refine zAssign ⟨?_⟩
 refine zAssign ⟨?_⟩
 refine k1 _ ?_
 refine zk ⟨?_⟩
 refine v_seq ?_; intro Q2 n2 e2 r2
 refine v_seqR [1,2,3,4,8,37] ?_; intro K3 k3
 refine zLoad ⟨?_⟩
 refine zc (isLease_con h u) ⟨?_⟩
 refine zUnOp ⟨?_⟩
 refine zMove ⟨?_⟩
 refine zgMove ⟨?_⟩
 refine zgLen ⟨?_⟩
 refine zgBinOp ⟨?_⟩
 refine zPick ⟨?_⟩
 refine zMove ⟨?_⟩
 refine zgMove ⟨?_⟩
 refine zgc ((by have q := containsFuncAsk_con l _ _ (fun a => !reqB a) hl .nil (fun x0 x1 x2 _ => runAsks1_con x0 x1 x2); rw [hany] at q; exact q)) ⟨?_⟩
 refine zPick ⟨?_⟩
 refine zMove ⟨?_⟩
 refine zgMove ⟨?_⟩
 refine zgc (inside_con _ _ _) ⟨?_⟩
 refine zgUnOp ⟨?_⟩
 refine zPick ⟨?_⟩
 refine zMove ⟨?_⟩
 refine zgMove ⟨?_⟩
 refine zgc (inside_con _ _ _) ⟨?_⟩
 refine zgUnOp ⟨?_⟩
 refine zPick ⟨?_⟩
 refine k3 _ ?_
 refine zk ⟨?_⟩
 refine v_condS _ rfl ?_ ?_
 ·intro hc0
  have hB : (runB (h, u) l sk ln) = false := by
   cases hq : (runB (h, u) l sk ln) with
   |false => rfl
   |true =>
    exfalso
    simp only [runB, parB, Bool.and_eq_true, decide_eq_true_eq] at hq
    obtain ⟨⟨⟨h1, h2⟩, h3⟩, h4, h5⟩ := hq
    simp [h1, h3] at hc0
    omega
  refine v_seqR [8,9,10] ?_; intro K5 k5
  refine zBuild ⟨?_⟩
  refine zStore ⟨?_⟩
  refine zAssign ⟨?_⟩
  refine zAssign ⟨?_⟩
  refine k5 _ ?_
  refine zk ⟨?_⟩
  refine v_ret ?_
  refine r2 _ ?_
  refine r0 _ ?_
  refine zf ⟨?_⟩
  simp only [zE, zL, zO, zN, aStepM, optable, set_some, Nat.reduceEqDiff, reduceIte, Nat.reduceLT, implies_true, forall_const, reduceCtorEq, V.ofValue, V.ofScalar, V.un, V.gd, aLoad, row_mk, Blk.row, PartOK, Go.Vm.part, V.cells, V.noSl, V.noRef, Nat.reduceAdd, Nat.reduceLeDiff, Nat.reduceMul, Try.underlying3, Ty.c3, Ty.a3, Try.underlying24, Ty.c24, Ty.a24]
  rw [show (runR (h, u) l sk ln) = ((0, 0), []) by rw [runR, hB]; rfl, hB]
  exact ret_all rfl (by first | decide | simp [newIds, refsOf, refs2, refs1]) (by simp) rfl (by simp [newIds, refsOf, refs2, refs1]) (by simp [Blk.kindIs, fillK_fd]) rfl
 ·intro hc0
  have hB : (runB (h, u) l sk ln) = true := by
   simp only [runB, parB, Bool.and_eq_true, decide_eq_true_eq]
   simp at hc0
   simp_all
  have hB2 := hB
  simp only [runB, Bool.and_eq_true, decide_eq_true_eq, List.all_eq_true] at hB2
  obtain ⟨⟨⟨hg, hlen⟩, hreq⟩, hpar⟩ := hB2
  have hpr := par_bounds hpar
  refine v_skip ?_
  refine n2 _ _ (weak_keep [1, 2, 3, 4, 8] _) ?_
  refine zk ⟨?_⟩
  refine v_seqR [1,2,3,4,8,11] ?_; intro K6 k6
  refine zAssign ⟨?_⟩
  refine k6 _ ?_
  refine zk ⟨?_⟩
  refine v_seq ?_; intro Q7 n7 e7 r7
  refine v_seqR [2,3,4,8,11,39,40,41] ?_; intro K8 k8
  refine zMove ⟨?_⟩
  refine zLen ⟨?_⟩
  refine zMove ⟨?_⟩
  refine k8 _ ?_
  refine zk ⟨?_⟩
  refine v_block ?_; intro Q9 n9 x9 e9 r9
  refine v_loop (fun p => ⟨[(2, .int .i64 sk), (3, .int .i64 ln), (4, .ptr 0 0 0), (8, .ptr 1 0 0), (11, .ref 2), (39, .sl (l.map (fun t : Int × Int × Int => V.agg [V.int .i64 t.1, V.int .i64 t.2.1, V.int .i64 t.2.2]))), (40, .int .i64 l.length), (41, .int .i64 (Nat.cast p.1))], [.box (.agg [.int .i64 p.2.1.1, .int .i64 p.2.1.2]) .flat, .box (.agg [.int .i64 0, .int .i64 0]) .flat, .arr (p.2.2.map V.bool) .flat], false, 61, 0⟩) (fun p => p.1 ≤ l.length ∧ p.2 = runTo (h, u) (l.take p.1) sk ln) (fun p => l.length - p.1) ((0, ((h, u), [])) : Nat × (Int × Int) × List Bool) ?_ ?_ ?_
  ·refine weak_bothS [2, 3, 4, 8, 11, 39, 40, 41] [0, 1, 3] ⟨?_⟩
   rfl
  ·exact ⟨Nat.zero_le _, rfl⟩
  ·rintro ⟨i, ⟨xh, xu⟩, acc⟩ hok10 Q10 n10 e10 r10
   obtain ⟨hi1, hR⟩ := hok10
   simp only [] at hi1 hR ⊢
   have hal : acc.length ≤ 1048576 := by have q := run_len (h, u) l sk ln i hi1; rw [← hR] at q; have q2 : acc.length = i := q; omega
   refine v_seqR [2,3,4,8,11,39,40,41,42] ?_; intro K11 k11
   refine zBinOp ⟨?_⟩
   refine k11 _ ?_
   refine zk ⟨?_⟩
   refine v_seq ?_; intro Q12 n12 e12 r12
   refine v_condS _ rfl ?_ ?_
   ·intro hc1
    have hlt : i < l.length := by omega
    obtain ⟨⟨x0, x1, x2⟩, hx⟩ : ∃ x : Int × Int × Int, l[i]? = some x := ⟨l[i]'(by omega), List.getElem?_eq_getElem (by omega)⟩
    have hst := run_step (x := (h, u)) (sk := sk) (ln := ln) hx
    have hxo : leB xh xu = true := by have q := run_ok (x := (h, u)) l sk ln hg i hi1; rw [← hR] at q; exact q
    have hxu := (le_bounds hxo).2
    have hrq := req_bounds (hreq _ (List.mem_of_getElem? hx))
    simp only [] at hrq
    refine v_skip ?_
    refine n12 _ _ (weak_keep [2, 3, 4, 8, 11, 39, 40, 41] _) ?_
    refine zk ⟨?_⟩
    refine v_seq ?_; intro Q14 n14 e14 r14
    refine v_block ?_; intro Q15 n15 x15 e15 r15
    refine v_seqR [2,3,4,8,11,13,39,40,41] ?_; intro K16 k16
    have F := Fc.mk (fun f => getD_map (f := f) hx)
    refine zIndexAddr ⟨?_⟩
    refine zLoad ⟨?_⟩
    refine zAlloc ⟨?_⟩
    refine zStore ⟨?_⟩
    refine k16 _ ?_
    refine zk ⟨?_⟩
    refine v_seqR [2,3,4,8,11,14,15,39,40,41] ?_; intro K17 k17
    refine zLoad ⟨?_⟩
    refine zLoad ⟨?_⟩
    refine zMove ⟨?_⟩
    refine zMove ⟨?_⟩
    refine zc (answer_con xh xu x0 x1 x2 sk ln hxu hrq.1 hpr.1 hpr.2) ⟨?_⟩
    refine zMove ⟨?_⟩
    refine zExtract ⟨?_⟩
    refine zExtract ⟨?_⟩
    refine zAlloc ⟨?_⟩
    refine zStore ⟨?_⟩
    refine zAssign ⟨?_⟩
    refine k17 _ ?_
    refine zk ⟨?_⟩
    refine v_seqR [2,3,4,8,11,15,39,40,41] ?_; intro K18 k18
    refine zLoad ⟨?_⟩
    refine zStore ⟨?_⟩
    refine k18 _ ?_
    refine zk ⟨?_⟩
    refine v_region ?_; intro K19 k19
    refine zMove ⟨?_⟩
    refine zMove ⟨?_⟩
    refine zBuildSlice ⟨?_⟩
    refine zAppend ⟨?_⟩
    refine zAssign ⟨?_⟩
    refine k19 _ ?_
    refine n15 _ ?_
    refine n14 _ _ (weak_keep [2, 3, 4, 8, 11, 39, 40, 41] _) ?_
    refine zk ⟨?_⟩
    refine v_region ?_; intro K20 k20
    refine zBinOpW ⟨?_⟩
    refine zMove ⟨?_⟩
    refine k20 _ ?_
    refine n10 _ (i + 1, runF sk ln ((xh, xu), acc) (x0, x1, x2)) ?_ ?_ ?_
    ·refine weak_bothS [2, 3, 4, 8, 11, 39, 40, 41] [0, 1, 6] ⟨?_⟩
     rw [snoc_Bool]; rfl
    ·exact ⟨hlt, by show runF sk ln ((xh, xu), acc) _ = _; rw [hst, ← hR]⟩
    ·show _ < _; show l.length - (i + 1) < l.length - i; omega
   ·intro hc1
    refine v_exit ?_
    refine e12 _ _ ?_
    refine e10 _ _ ?_
    refine x9 _ ?_
    refine n7 _ _ (weak_keep [4, 8, 11] _) ?_
    refine zk ⟨?_⟩
    refine v_seqR [8,9,10] ?_; intro K21 k21
    refine zLoad ⟨?_⟩
    refine zMove ⟨?_⟩
    refine zStore ⟨?_⟩
    refine zAssign ⟨?_⟩
    refine zAssign ⟨?_⟩
    refine k21 _ ?_
    refine zk ⟨?_⟩
    refine v_ret ?_
    refine r0 _ ?_
    refine zf ⟨?_⟩
    simp only [zE, zL, zO, zN, aStepM, optable, set_some, Nat.reduceEqDiff, reduceIte, Nat.reduceLT, implies_true, forall_const, reduceCtorEq, V.ofValue, V.ofScalar, V.un, V.gd, aLoad, row_mk, Blk.row, PartOK, Go.Vm.part, V.cells, V.noSl, V.noRef, Nat.reduceAdd, Nat.reduceLeDiff, Nat.reduceMul, Try.underlying3, Ty.c3, Ty.a3, Try.underlying24, Ty.c24, Ty.a24]
    rw [show (runR (h, u) l sk ln) = runTo (h, u) l sk ln by rw [runR, hB]; rfl, hB]
    have hend : (((xh, xu), acc) : (Int × Int) × List Bool) = runTo (h, u) l sk ln := by rw [hR, List.take_of_length_le (by omega)]
    rw [← hend]
    exact ret_all rfl (by first | decide | simp [newIds, refsOf, refs2, refs1]) (by simp) rfl (by simp [newIds, refsOf, refs2, refs1]) (by simp [Blk.kindIs, fillK_fd]) rfl
set_option maxHeartbeats 1000000 in
theorem leRun_con (h u : Int) (l : List (Int × Int × Int)) (sk ln : Int) (hl : l.length ≤ 1048576) : Con Try.prog 86 [.agg [.int .i64 h, .int .i64 u], .sl (l.map (fun t : Int × Int × Int => V.agg [V.int .i64 t.1, V.int .i64 t.2.1, V.int .i64 t.2.2])), .int .i64 sk, .int .i64 ln] [] (.tup [.agg [.int .i64 (runR (h, u) l sk ln).1.1, .int .i64 (runR (h, u) l sk ln).1.2], .ref 0, .bool (runB (h, u) l sk ln)]) [.arr ((runR (h, u) l sk ln).2.map V.bool) .flat] := by
 refine v_con [.cell 8 24, .tmp 9, .tmp 10] [] Try.func86 rfl rfl rfl (by simp [Try.ntmps86]) ?_
 intro Q0 n0 r0
 simp only [Try.ntmps86, envFrom, Nat.reduceAdd]
 have T := Tys.mk (And.intro Ty.t3 (And.intro Ty.t4 (And.intro Ty.t24 (And.intro Ty.t25 (And.intro Ty.t28 Ty.t35)))))
 have F := Fc.mk True.intro
 refine v_seqR [1,2,3,4,8] ?_; intro K1 k1
 refine zBox ⟨?_⟩
 refine zAlloc ⟨?_⟩
 refine zAssign ⟨?_⟩
 refine zAssign ⟨?_⟩
 refine k1 _ ?_
 refine zk ⟨?_⟩
 refine v_seq ?_; intro Q2 n2 e2 r2
 refine v_seqR [1,2,3,4,8,34] ?_; intro K3 k3
 refine zLoad ⟨?_⟩
 refine zc (leGood_con h u) ⟨?_⟩
 refine zUnOp ⟨?_⟩
 refine zMove ⟨?_⟩
 refine zgMove ⟨?_⟩
 refine zgc (l1In_con _ _ _) ⟨?_⟩
 refine zgUnOp ⟨?_⟩
 refine zPick ⟨?_⟩
 refine zMove ⟨?_⟩
 refine zgMove ⟨?_⟩
 refine zgc (leLength_con _) ⟨?_⟩
 refine zgUnOp ⟨?_⟩
 refine zPick ⟨?_⟩
 refine zMove ⟨?_⟩
 refine zgMove ⟨?_⟩
 refine zgLen ⟨?_⟩
 refine zgBinOp ⟨?_⟩
 refine zPick ⟨?_⟩
 refine k3 _ ?_
 refine zk ⟨?_⟩
 refine v_condS _ rfl ?_ ?_
 ·intro hc0
  have hB : (runB (h, u) l sk ln) = false := by
   cases hq : (runB (h, u) l sk ln) with
   |false => rfl
   |true =>
    exfalso
    simp only [runB, parB, Bool.and_eq_true, decide_eq_true_eq] at hq
    obtain ⟨⟨⟨h1, h2⟩, h3⟩, h4, h5⟩ := hq
    simp [h1, h3] at hc0
    omega
  refine v_seqR [8,9,10] ?_; intro K5 k5
  refine zBuild ⟨?_⟩
  refine zStore ⟨?_⟩
  refine zAssign ⟨?_⟩
  refine zAssign ⟨?_⟩
  refine k5 _ ?_
  refine zk ⟨?_⟩
  refine v_ret ?_
  refine r2 _ ?_
  refine r0 _ ?_
  refine zf ⟨?_⟩
  simp only [zE, zL, zO, zN, aStepM, optable, set_some, Nat.reduceEqDiff, reduceIte, Nat.reduceLT, implies_true, forall_const, reduceCtorEq, V.ofValue, V.ofScalar, V.un, V.gd, aLoad, row_mk, Blk.row, PartOK, Go.Vm.part, V.cells, V.noSl, V.noRef, Nat.reduceAdd, Nat.reduceLeDiff, Nat.reduceMul, Try.underlying3, Ty.c3, Ty.a3, Try.underlying24, Ty.c24, Ty.a24]
  rw [show (runR (h, u) l sk ln) = ((0, 0), []) by rw [runR, hB]; rfl, hB]
  exact ret_all rfl (by first | decide | simp [newIds, refsOf, refs2, refs1]) (by simp) rfl (by simp [newIds, refsOf, refs2, refs1]) (by simp [Blk.kindIs, fillK_fd]) rfl
 ·intro hc0
  have hg : leB h u = true ∧ (l.length ≤ 40) ∧ parB sk ln = true := by
   simp only [parB, Bool.and_eq_true, decide_eq_true_eq]
   obtain ⟨⟨⟨q1, q2⟩, q3⟩, q4⟩ := hc0
   refine ⟨q1, by omega, ?_⟩
   omega
  have hpr := par_bounds hg.2.2
  refine v_skip ?_
  refine n2 _ _ (weak_keep [1, 2, 3, 4, 8] _) ?_
  refine zk ⟨?_⟩
  refine v_seqR [1,2,3,4,8,11] ?_; intro K6 k6
  refine zAssign ⟨?_⟩
  refine k6 _ ?_
  refine zk ⟨?_⟩
  refine v_seq ?_; intro Q7 n7 e7 r7
  refine v_seqR [2,3,4,8,11,36,37,38] ?_; intro K8 k8
  refine zMove ⟨?_⟩
  refine zLen ⟨?_⟩
  refine zMove ⟨?_⟩
  refine k8 _ ?_
  refine zk ⟨?_⟩
  refine v_block ?_; intro Q9 n9 x9 e9 r9
  refine v_loop (fun p => ⟨[(2, .int .i64 sk), (3, .int .i64 ln), (4, .ptr 0 0 0), (8, .ptr 1 0 0), (11, .ref 2), (36, .sl (l.map (fun t : Int × Int × Int => V.agg [V.int .i64 t.1, V.int .i64 t.2.1, V.int .i64 t.2.2]))), (37, .int .i64 l.length), (38, .int .i64 (Nat.cast p.1))], [.box (.agg [.int .i64 p.2.1.1, .int .i64 p.2.1.2]) .flat, .box (.agg [.int .i64 0, .int .i64 0]) .flat, .arr (p.2.2.map V.bool) .flat], false, 62, 0⟩) (fun p => p.1 ≤ l.length ∧ p.2 = runTo (h, u) (l.take p.1) sk ln ∧ (l.take p.1).all reqB = true) (fun p => l.length - p.1) ((0, ((h, u), [])) : Nat × (Int × Int) × List Bool) ?_ ?_ ?_
  ·refine weak_bothS [2, 3, 4, 8, 11, 36, 37, 38] [0, 1, 3] ⟨?_⟩
   rfl
  ·exact ⟨Nat.zero_le _, rfl, rfl⟩
  ·rintro ⟨i, ⟨xh, xu⟩, acc⟩ hok10 Q10 n10 e10 r10
   obtain ⟨hi1, hR, hall⟩ := hok10
   simp only [] at hi1 hR hall ⊢
   have hal : acc.length ≤ 1048576 := by have q := run_len (h, u) l sk ln i hi1; rw [← hR] at q; have q2 : acc.length = i := q; omega
   refine v_seqR [2,3,4,8,11,36,37,38,39] ?_; intro K11 k11
   refine zBinOp ⟨?_⟩
   refine k11 _ ?_
   refine zk ⟨?_⟩
   refine v_seq ?_; intro Q12 n12 e12 r12
   refine v_condS _ rfl ?_ ?_
   ·intro hc1
    have hlt : i < l.length := by omega
    obtain ⟨⟨x0, x1, x2⟩, hx⟩ : ∃ x : Int × Int × Int, l[i]? = some x := ⟨l[i]'(by omega), List.getElem?_eq_getElem (by omega)⟩
    have hst := run_step (x := (h, u)) (sk := sk) (ln := ln) hx
    have hxo : leB xh xu = true := by have q := run_ok (x := (h, u)) l sk ln hg.1 i hi1; rw [← hR] at q; exact q
    have hxu := (le_bounds hxo).2
    rcases Bool.eq_false_or_eq_true (reqB (x0, x1, x2)) with hq2 | hq2
    ·skip
     have hk : askOk xh xu (x0, x1, x2) sk ln = true := by rw [askOk, hxo, hq2, hg.2.2]; rfl
     refine v_skip ?_
     refine n12 _ _ (weak_keep [2, 3, 4, 8, 11, 36, 37, 38] _) ?_
     refine zk ⟨?_⟩
     refine v_seq ?_; intro Q14 n14 e14 r14
     refine v_block ?_; intro Q15 n15 x15 e15 r15
     refine v_seqR [2,3,4,8,11,13,36,37,38] ?_; intro K16 k16
     have F := Fc.mk (fun f => getD_map (f := f) hx)
     refine zIndexAddr ⟨?_⟩
     refine zLoad ⟨?_⟩
     refine zAlloc ⟨?_⟩
     refine zStore ⟨?_⟩
     refine k16 _ ?_
     refine zk ⟨?_⟩
     refine v_seqR [2,3,4,8,11,14,15,16,36,37,38] ?_; intro K17 k17
     refine zLoad ⟨?_⟩
     refine zLoad ⟨?_⟩
     refine zMove ⟨?_⟩
     refine zMove ⟨?_⟩
     refine zc ((by have q := specAnswerAsk_con xh xu x0 x1 x2 sk ln; simp only [hk, if_true, Bool.true_and, Bool.false_and, Bool.false_eq_true, if_false] at q; exact q)) ⟨?_⟩
     refine zMove ⟨?_⟩
     refine zExtract ⟨?_⟩
     refine zExtract ⟨?_⟩
     refine zExtract ⟨?_⟩
     refine zAlloc ⟨?_⟩
     refine zStore ⟨?_⟩
     refine zAssign ⟨?_⟩
     refine zAssign ⟨?_⟩
     refine k17 _ ?_
     refine zk ⟨?_⟩
     refine v_seq ?_; intro Q18 n18 e18 r18
     refine v_seqR [2,3,4,8,11,14,15,36,37,38,52] ?_; intro K19 k19
     refine zMove ⟨?_⟩
     refine zUnOp ⟨?_⟩
     refine k19 _ ?_
     refine zk ⟨?_⟩
     refine v_cond _ rfl ?_ ?_
     ·intro hc2
      exfalso; simp at hc2
     ·intro hc2
      try simp only [zC, reduceCtorEq] at hc2
      refine v_skip ?_
      refine n18 _ _ (weak_keep [2, 3, 4, 8, 11, 14, 15, 36, 37, 38] _) ?_
      refine zk ⟨?_⟩
      refine v_seqR [2,3,4,8,11,14,36,37,38] ?_; intro K21 k21
      refine zMove ⟨?_⟩
      refine zMove ⟨?_⟩
      refine zBuildSlice ⟨?_⟩
      refine zAppend ⟨?_⟩
      refine zAssign ⟨?_⟩
      refine k21 _ ?_
      refine zk ⟨?_⟩
      refine v_region ?_; intro K22 k22
      refine zLoad ⟨?_⟩
      refine zStore ⟨?_⟩
      refine k22 _ ?_
      refine n15 _ ?_
      refine n14 _ _ (weak_keep [2, 3, 4, 8, 11, 36, 37, 38] _) ?_
      refine zk ⟨?_⟩
      refine v_region ?_; intro K23 k23
      refine zBinOpW ⟨?_⟩
      refine zMove ⟨?_⟩
      refine k23 _ ?_
      refine n10 _ (i + 1, runF sk ln ((xh, xu), acc) (x0, x1, x2)) ?_ ?_ ?_
      ·refine weak_bothS [2, 3, 4, 8, 11, 36, 37, 38] [0, 1, 6] ⟨?_⟩
       rw [snoc_Bool]; rfl
      ·exact ⟨hlt, by show runF sk ln ((xh, xu), acc) _ = _; rw [hst, ← hR], by show (l.take (i + 1)).all reqB = true; rw [List.take_add_one, hx, List.all_append, hall]; simp [hq2]⟩
      ·show _ < _; show l.length - (i + 1) < l.length - i; omega
    ·skip
     have hk : askOk xh xu (x0, x1, x2) sk ln = false := by rw [askOk, hxo, hq2]; rfl
     have hB : (runB (h, u) l sk ln) = false := by
      cases hq : (runB (h, u) l sk ln) with
      |false => rfl
      |true =>
       exfalso
       simp only [runB, Bool.and_eq_true, List.all_eq_true] at hq
       have := hq.1.2 _ (List.mem_of_getElem? hx)
       rw [hq2] at this; cases this
     refine v_skip ?_
     refine n12 _ _ (weak_keep [2, 3, 4, 8, 11, 36, 37, 38] _) ?_
     refine zk ⟨?_⟩
     refine v_seq ?_; intro Q24 n24 e24 r24
     refine v_block ?_; intro Q25 n25 x25 e25 r25
     refine v_seqR [2,3,4,8,11,13,36,37,38] ?_; intro K26 k26
     have F := Fc.mk (fun f => getD_map (f := f) hx)
     refine zIndexAddr ⟨?_⟩
     refine zLoad ⟨?_⟩
     refine zAlloc ⟨?_⟩
     refine zStore ⟨?_⟩
     refine k26 _ ?_
     refine zk ⟨?_⟩
     refine v_seqR [2,3,4,8,11,14,15,16,36,37,38] ?_; intro K27 k27
     refine zLoad ⟨?_⟩
     refine zLoad ⟨?_⟩
     refine zMove ⟨?_⟩
     refine zMove ⟨?_⟩
     refine zc ((by have q := specAnswerAsk_con xh xu x0 x1 x2 sk ln; simp only [hk, if_true, Bool.true_and, Bool.false_and, Bool.false_eq_true, if_false] at q; exact q)) ⟨?_⟩
     refine zMove ⟨?_⟩
     refine zExtract ⟨?_⟩
     refine zExtract ⟨?_⟩
     refine zExtract ⟨?_⟩
     refine zAlloc ⟨?_⟩
     refine zStore ⟨?_⟩
     refine zAssign ⟨?_⟩
     refine zAssign ⟨?_⟩
     refine k27 _ ?_
     refine zk ⟨?_⟩
     refine v_seq ?_; intro Q28 n28 e28 r28
     refine v_seqR [2,3,4,8,11,14,15,36,37,38,52] ?_; intro K29 k29
     refine zMove ⟨?_⟩
     refine zUnOp ⟨?_⟩
     refine k29 _ ?_
     refine zk ⟨?_⟩
     refine v_cond _ rfl ?_ ?_
     ·intro hc2
      try simp only [zC, reduceCtorEq] at hc2
      refine v_seqR [8,9,10] ?_; intro K31 k31
      refine zBuild ⟨?_⟩
      refine zStore ⟨?_⟩
      refine zAssign ⟨?_⟩
      refine zAssign ⟨?_⟩
      refine k31 _ ?_
      refine zk ⟨?_⟩
      refine v_ret ?_
      refine r28 _ ?_
      refine r25 _ ?_
      refine r24 _ ?_
      refine r10 _ ?_
      refine r9 _ ?_
      refine r7 _ ?_
      refine r0 _ ?_
      refine zf ⟨?_⟩
      simp only [zE, zL, zO, zN, aStepM, optable, set_some, Nat.reduceEqDiff, reduceIte, Nat.reduceLT, implies_true, forall_const, reduceCtorEq, V.ofValue, V.ofScalar, V.un, V.gd, aLoad, row_mk, Blk.row, PartOK, Go.Vm.part, V.cells, V.noSl, V.noRef, Nat.reduceAdd, Nat.reduceLeDiff, Nat.reduceMul, Try.underlying3, Ty.c3, Ty.a3, Try.underlying24, Ty.c24, Ty.a24]
      rw [show (runR (h, u) l sk ln) = ((0, 0), []) by rw [runR, hB]; rfl, hB]
      exact ret_all rfl (by first | decide | simp [newIds, refsOf, refs2, refs1]) (by simp) rfl (by simp [newIds, refsOf, refs2, refs1]) (by simp [Blk.kindIs, fillK_fd]) rfl
     ·intro hc2
      exfalso; simp at hc2
   ·intro hc1
    have hB : (runB (h, u) l sk ln) = true := by
     simp only [runB, Bool.and_eq_true, decide_eq_true_eq]
     exact ⟨⟨⟨hg.1, by omega⟩, by rw [← hall, List.take_of_length_le (by omega)]⟩, hg.2.2⟩
    refine v_exit ?_
    refine e12 _ _ ?_
    refine e10 _ _ ?_
    refine x9 _ ?_
    refine n7 _ _ (weak_keep [4, 8, 11] _) ?_
    refine zk ⟨?_⟩
    refine v_seqR [8,9,10] ?_; intro K32 k32
    refine zLoad ⟨?_⟩
    refine zMove ⟨?_⟩
    refine zStore ⟨?_⟩
    refine zAssign ⟨?_⟩
    refine zAssign ⟨?_⟩
    refine k32 _ ?_
    refine zk ⟨?_⟩
    refine v_ret ?_
    refine r0 _ ?_
    refine zf ⟨?_⟩
    simp only [zE, zL, zO, zN, aStepM, optable, set_some, Nat.reduceEqDiff, reduceIte, Nat.reduceLT, implies_true, forall_const, reduceCtorEq, V.ofValue, V.ofScalar, V.un, V.gd, aLoad, row_mk, Blk.row, PartOK, Go.Vm.part, V.cells, V.noSl, V.noRef, Nat.reduceAdd, Nat.reduceLeDiff, Nat.reduceMul, Try.underlying3, Ty.c3, Ty.a3, Try.underlying24, Ty.c24, Ty.a24]
    rw [show (runR (h, u) l sk ln) = runTo (h, u) l sk ln by rw [runR, hB]; rfl, hB]
    have hend : (((xh, xu), acc) : (Int × Int) × List Bool) = runTo (h, u) l sk ln := by rw [hR, List.take_of_length_le (by omega)]
    rw [← hend]
    exact ret_all rfl (by first | decide | simp [newIds, refsOf, refs2, refs1]) (by simp) rfl (by simp [newIds, refsOf, refs2, refs1]) (by simp [Blk.kindIs, fillK_fd]) rfl
set_option maxHeartbeats 1000000 in
theorem implRunAsks_con (h u : Int) (l : List (Int × Int × Int)) (sk ln : Int) (hl : l.length ≤ 1048576) : Con Try.prog 9 [.agg [.int .i64 h, .int .i64 u], .sl (l.map (fun t : Int × Int × Int => V.agg [V.int .i64 t.1, V.int .i64 t.2.1, V.int .i64 t.2.2])), .int .i64 sk, .int .i64 ln] [] (.tup [.agg [.int .i64 (runR (h, u) l sk ln).1.1, .int .i64 (runR (h, u) l sk ln).1.2], .ref 0, .bool (runB (h, u) l sk ln)]) [.arr ((runR (h, u) l sk ln).2.map V.bool) .flat] := by
 refine v_con [.cell 8 24, .tmp 9, .tmp 10] [] Try.func9 rfl rfl rfl (by simp [Try.ntmps9]) ?_
 intro Q0 n0 r0
 simp only [Try.ntmps9, envFrom, Nat.reduceAdd]
 have T := Tys.mk (And.intro Ty.t3 (And.intro Ty.t24 (And.intro Ty.t25 Ty.t35)))
 have F := Fc.mk True.intro
 refine v_seqR [1,2,3,4,8] ?_; intro K1 k1
 refine zBox ⟨?_⟩
 refine zAlloc ⟨?_⟩
 refine zAssign ⟨?_⟩
 refine zAssign ⟨?_⟩
 refine k1 _ ?_
 refine zk ⟨?_⟩
 refine v_seqR [8,9,10] ?_; intro K2 k2
 refine zLoad ⟨?_⟩
 refine zMove ⟨?_⟩
 refine zMove ⟨?_⟩
 refine zMove ⟨?_⟩
 refine zc (runAsks_con h u l sk ln hl) ⟨?_⟩
 refine zExtract ⟨?_⟩
 refine zExtract ⟨?_⟩
 refine zExtract ⟨?_⟩
 refine zStore ⟨?_⟩
 refine zAssign ⟨?_⟩
 refine zAssign ⟨?_⟩
 refine k2 _ ?_
 refine zk ⟨?_⟩
 refine v_ret ?_
 refine r0 _ ?_
 refine zf ⟨?_⟩
 simp only [zE, zL, zO, zN, aStepM, optable, set_some, Nat.reduceEqDiff, reduceIte, Nat.reduceLT, implies_true, forall_const, reduceCtorEq, V.ofValue, V.ofScalar, V.un, V.gd, aLoad, row_mk, Blk.row, PartOK, Go.Vm.part, V.cells, V.noSl, V.noRef, Nat.reduceAdd, Nat.reduceLeDiff, Nat.reduceMul, Try.underlying3, Ty.c3, Ty.a3, Try.underlying24, Ty.c24, Ty.a24]
 exact ret_all rfl (by first | decide | simp [newIds, refsOf, refs2, refs1]) (by simp) rfl (by simp [newIds, refsOf, refs2, refs1]) (by simp [Blk.kindIs, fillK_fd]) rfl
set_option maxHeartbeats 1000000 in
theorem specRunAsks_con (h u : Int) (l : List (Int × Int × Int)) (sk ln : Int) (hl : l.length ≤ 1048576) : Con Try.prog 10 [.agg [.int .i64 h, .int .i64 u], .sl (l.map (fun t : Int × Int × Int => V.agg [V.int .i64 t.1, V.int .i64 t.2.1, V.int .i64 t.2.2])), .int .i64 sk, .int .i64 ln] [] (.tup [.agg [.int .i64 (runR (h, u) l sk ln).1.1, .int .i64 (runR (h, u) l sk ln).1.2], .ref 0, .bool (runB (h, u) l sk ln)]) [.arr ((runR (h, u) l sk ln).2.map V.bool) .flat] := by
 refine v_con [.cell 8 24, .tmp 9, .tmp 10] [] Try.func10 rfl rfl rfl (by simp [Try.ntmps10]) ?_
 intro Q0 n0 r0
 simp only [Try.ntmps10, envFrom, Nat.reduceAdd]
 have T := Tys.mk (And.intro Ty.t3 (And.intro Ty.t24 (And.intro Ty.t25 Ty.t35)))
 have F := Fc.mk True.intro
 refine v_seqR [1,2,3,4,8] ?_; intro K1 k1
 refine zBox ⟨?_⟩
 refine zAlloc ⟨?_⟩
 refine zAssign ⟨?_⟩
 refine zAssign ⟨?_⟩
 refine k1 _ ?_
 refine zk ⟨?_⟩
 refine v_seqR [8,9,10] ?_; intro K2 k2
 refine zLoad ⟨?_⟩
 refine zMove ⟨?_⟩
 refine zMove ⟨?_⟩
 refine zMove ⟨?_⟩
 refine zc (leRun_con h u l sk ln hl) ⟨?_⟩
 refine zExtract ⟨?_⟩
 refine zExtract ⟨?_⟩
 refine zExtract ⟨?_⟩
 refine zStore ⟨?_⟩
 refine zAssign ⟨?_⟩
 refine zAssign ⟨?_⟩
 refine k2 _ ?_
 refine zk ⟨?_⟩
 refine v_ret ?_
 refine r0 _ ?_
 refine zf ⟨?_⟩
 simp only [zE, zL, zO, zN, aStepM, optable, set_some, Nat.reduceEqDiff, reduceIte, Nat.reduceLT, implies_true, forall_const, reduceCtorEq, V.ofValue, V.ofScalar, V.un, V.gd, aLoad, row_mk, Blk.row, PartOK, Go.Vm.part, V.cells, V.noSl, V.noRef, Nat.reduceAdd, Nat.reduceLeDiff, Nat.reduceMul, Try.underlying3, Ty.c3, Ty.a3, Try.underlying24, Ty.c24, Ty.a24]
 exact ret_all rfl (by first | decide | simp [newIds, refsOf, refs2, refs1]) (by simp) rfl (by simp [newIds, refsOf, refs2, refs1]) (by simp [Blk.kindIs, fillK_fd]) rfl
set_option maxHeartbeats 1000000 in
theorem implSentBy_con (h u : Int) (l : List (Int × Int × Int)) (sk ln : Int) (hl : l.length ≤ 1048576) : Con Try.prog 11 [.agg [.int .i64 h, .int .i64 u], .sl (l.map (fun t : Int × Int × Int => V.agg [V.int .i64 t.1, V.int .i64 t.2.1, V.int .i64 t.2.2])), .int .i64 sk, .int .i64 ln] [] (.tup [.ref 0, .bool (runB (h, u) l sk ln)]) [.arr ((sentR (h, u) l sk ln).map (V.int .i64)) .flat] := by
 refine v_con [.tmp 8, .tmp 9] [] Try.func11 rfl rfl rfl (by simp [Try.ntmps11]) ?_
 intro Q0 n0 r0
 simp only [Try.ntmps11, envFrom, Nat.reduceAdd]
 have T := Tys.mk (And.intro Ty.t3 (And.intro Ty.t4 (And.intro Ty.t24 (And.intro Ty.t25 (And.intro Ty.t28 (And.intro Ty.t31 Ty.t35))))))
 have F := Fc.mk True.intro
 refine v_seqR [1,2,3,4] ?_; intro K1 k1
 refine zBox ⟨?_⟩
 refine zAssign ⟨?_⟩
 refine zAssign ⟨?_⟩
 refine k1 _ ?_
 refine zk ⟨?_⟩
 refine v_seqR [1,11,12] ?_; intro K2 k2
 refine zLoad ⟨?_⟩
 refine zMove ⟨?_⟩
 refine zMove ⟨?_⟩
 refine zMove ⟨?_⟩
 refine zc (runAsks_con h u l sk ln hl) ⟨?_⟩
 refine zMove ⟨?_⟩
 refine zExtract ⟨?_⟩
 refine zExtract ⟨?_⟩
 refine zExtract ⟨?_⟩
 refine zAlloc ⟨?_⟩
 refine zStore ⟨?_⟩
 refine zAssign ⟨?_⟩
 refine zAssign ⟨?_⟩
 refine k2 _ ?_
 refine zk ⟨?_⟩
 refine v_seq ?_; intro Q3 n3 e3 r3
 refine v_seqR [1,11,26] ?_; intro K4 k4
 refine zMove ⟨?_⟩
 refine zUnOp ⟨?_⟩
 refine k4 _ ?_
 refine zk ⟨?_⟩
 refine v_condS _ rfl ?_ ?_
 ·intro hc0
  have hB : (runB (h, u) l sk ln) = false := hc0
  have hS : (sentR (h, u) l sk ln) = [] := by rw [sentR, hB]; rfl
  refine v_seqR [8,9] ?_; intro K6 k6
  refine zAssign ⟨?_⟩
  refine zAssign ⟨?_⟩
  refine k6 _ ?_
  refine zk ⟨?_⟩
  refine v_ret ?_
  refine r3 _ ?_
  refine r0 _ ?_
  refine zf ⟨?_⟩
  rw [hS, hB]
  exact ret_all rfl (by first | decide | simp [newIds, refsOf, refs2, refs1]) (by simp) rfl (by simp [newIds, refsOf, refs2, refs1]) (by simp [Blk.kindIs, fillK_fd]) rfl
 ·intro hc0
  have hB : (runB (h, u) l sk ln) = true := hc0
  obtain ⟨gs, hgs⟩ : ∃ gs, gs = (runTo (h, u) l sk ln).2 := ⟨_, rfl⟩
  have hrx : (runR (h, u) l sk ln).2 = gs := by rw [runR, hB, hgs]; rfl
  have hgl : gs.length = l.length := by have q := run_len (h, u) l sk ln l.length (Nat.le_refl _); rw [List.take_length, ← hgs] at q; exact q
  have hS : (sentR (h, u) l sk ln) = sentTo l gs l.length := by rw [sentR, hB, hgs]; rfl
  have hB2 := hB
  simp only [runB, Bool.and_eq_true, List.all_eq_true] at hB2
  have hreq := hB2.1.2
  refine v_skip ?_
  refine n3 _ _ (weak_keep [1, 11] _) ?_
  refine zk ⟨?_⟩
  refine v_seqR [1,11,13] ?_; intro K7 k7
  have F := Fc.mk hrx
  refine zBuildSlice ⟨?_⟩
  refine zAssign ⟨?_⟩
  refine k7 _ ?_
  refine zk ⟨?_⟩
  refine v_seq ?_; intro Q8 n8 e8 r8
  refine v_seqR [11,13,28,29,30] ?_; intro K9 k9
  refine zMove ⟨?_⟩
  refine zLen ⟨?_⟩
  refine zMove ⟨?_⟩
  refine k9 _ ?_
  refine zk ⟨?_⟩
  refine v_block ?_; intro Q10 n10 x10 e10 r10
  refine v_loop (fun i => ⟨[(11, .ref 0), (13, .ref 1), (28, .sl (l.map (fun t : Int × Int × Int => V.agg [V.int .i64 t.1, V.int .i64 t.2.1, V.int .i64 t.2.2]))), (29, .int .i64 l.length), (30, .int .i64 (Nat.cast i))], [.arr (gs.map V.bool) .flat, .arr ((sentTo l gs i).map (V.int .i64)) .flat], false, 54, 0⟩) (fun i => i ≤ l.length) (fun i => l.length - i) (0 : Nat) ?_ ?_ ?_
  ·refine weak_bothS [11, 13, 28, 29, 30] [2, 4] ⟨?_⟩
   rfl
  ·exact Nat.zero_le _
  ·rintro i hok11 Q11 n11 e11 r11
   have hi1 : i ≤ l.length := hok11
   refine v_seqR [11,13,28,29,30,31] ?_; intro K12 k12
   refine zBinOp ⟨?_⟩
   refine k12 _ ?_
   refine zk ⟨?_⟩
   refine v_seq ?_; intro Q13 n13 e13 r13
   refine v_condS _ rfl ?_ ?_
   ·intro hc1
    have hlt : i < l.length := by omega
    obtain ⟨⟨x0, x1, x2⟩, hx⟩ : ∃ x : Int × Int × Int, l[i]? = some x := ⟨l[i]'(by omega), List.getElem?_eq_getElem (by omega)⟩
    obtain ⟨g, hg⟩ : ∃ g, gs[i]? = some g := ⟨gs[i]'(by omega), List.getElem?_eq_getElem (by omega)⟩
    have hst := sent_step hx hg
    have hrq := req_bounds (hreq _ (List.mem_of_getElem? hx))
    simp only [] at hrq
    have hsl := sent_len l gs i
    obtain ⟨y, hy⟩ : ∃ y, (sentTo l gs i)[(x1 - 1).toNat]? = some y := ⟨(sentTo l gs i)[(x1 - 1).toNat]'(by omega), List.getElem?_eq_getElem (by omega)⟩
    have hyb := sent_le l gs i y (List.mem_of_getElem? hy)
    have hgd : (sentTo l gs i).getD (x1 - 1).toNat 0 = y := by rw [List.getD_eq_getElem?_getD, hy]; rfl
    refine v_skip ?_
    refine n13 _ _ (weak_keep [11, 13, 28, 29, 30] _) ?_
    refine zk ⟨?_⟩
    refine v_seq ?_; intro Q15 n15 e15 r15
    refine v_block ?_; intro Q16 n16 x16 e16 r16
    refine v_seqR [11,13,14,15,28,29,30] ?_; intro K17 k17
    have F := Fc.mk (And.intro hrx (And.intro (fun f => getD_map (f := f) hx) (And.intro (fun f => getD_map (f := f) hg) (fun f => getD_map (f := f) hy))))
    refine zMove ⟨?_⟩
    refine zIndexAddr ⟨?_⟩
    refine zLoad ⟨?_⟩
    refine zAlloc ⟨?_⟩
    refine zAssign ⟨?_⟩
    refine zStore ⟨?_⟩
    refine k17 _ ?_
    refine zk ⟨?_⟩
    refine v_seqR [11,13,15,28,29,30,43] ?_; intro K18 k18
    refine zMove ⟨?_⟩
    refine zMove ⟨?_⟩
    refine zIndexAddr ⟨?_⟩
    refine zLoad ⟨?_⟩
    refine zMove ⟨?_⟩
    refine zgFieldAddr ⟨?_⟩
    refine zgLoad ⟨?_⟩
    refine zgBinOp ⟨?_⟩
    refine zPick ⟨?_⟩
    refine k18 _ ?_
    refine zk ⟨?_⟩
    refine v_condS _ rfl ?_ ?_
    ·intro hc2
     have hgk : g = true ∧ x2 = 3 := by first | exact hc2 | exact ⟨hc2.2, hc2.1⟩
     have hst2 : sentTo l gs (i + 1) = (sentTo l gs i).set (x1 - 1).toNat (y + 1) := by rw [hst, if_pos hgk, sentF, hgd]
     refine v_region ?_; intro K20 k20
     refine zMove ⟨?_⟩
     refine zFieldAddr ⟨?_⟩
     refine zLoad ⟨?_⟩
     refine zBinOpW ⟨?_⟩
     refine zIndexAddr ⟨?_⟩
     refine zLoad ⟨?_⟩
     refine zBinOpW ⟨?_⟩
     refine zIndexAddr ⟨?_⟩
     refine zStore ⟨?_⟩
     refine k20 _ ?_
     refine n16 _ ?_
     refine n15 _ _ (weak_keep [11, 13, 28, 29, 30] _) ?_
     refine zk ⟨?_⟩
     refine v_region ?_; intro K21 k21
     refine zBinOpW ⟨?_⟩
     refine zMove ⟨?_⟩
     refine k21 _ ?_
     refine n11 _ (i + 1) ?_ ?_ ?_
     ·refine weak_bothS [11, 13, 28, 29, 30] [0, 1] ⟨?_⟩
      rw [hst2, ← setat_Int]; rfl
     ·exact hlt
     ·show _ < _; omega
    ·intro hc2
     have hst2 : sentTo l gs (i + 1) = sentTo l gs i := by rw [hst, if_neg (by intro q; obtain ⟨q1, q2⟩ := q; first | exact hc2 q1 q2 | exact hc2 q2 q1 | (have z := hc2 q2; rw [q1] at z; cases z) | (have z := hc2 q1; rw [q2] at z; cases z))]
     refine v_skip ?_
     refine n16 _ ?_
     refine n15 _ _ (weak_keep [11, 13, 28, 29, 30] _) ?_
     refine zk ⟨?_⟩
     refine v_region ?_; intro K22 k22
     refine zBinOpW ⟨?_⟩
     refine zMove ⟨?_⟩
     refine k22 _ ?_
     refine n11 _ (i + 1) ?_ ?_ ?_
     ·refine weak_bothS [11, 13, 28, 29, 30] [0, 1] ⟨?_⟩
      rw [hst2]; rfl
     ·exact hlt
     ·show _ < _; omega
   ·intro hc1
    have hend : i = l.length := by omega
    refine v_exit ?_
    refine e13 _ _ ?_
    refine e11 _ _ ?_
    refine x10 _ ?_
    refine n8 _ _ (weak_keep [13] _) ?_
    refine zk ⟨?_⟩
    refine v_seqR [8,9] ?_; intro K23 k23
    refine zMove ⟨?_⟩
    refine zAssign ⟨?_⟩
    refine zAssign ⟨?_⟩
    refine k23 _ ?_
    refine zk ⟨?_⟩
    refine v_ret ?_
    refine r0 _ ?_
    refine zf ⟨?_⟩
    rw [hS, hB, ← hend]
    exact ret_all rfl (by first | decide | simp [newIds, refsOf, refs2, refs1]) (by simp) rfl (by simp [newIds, refsOf, refs2, refs1]) (by simp [Blk.kindIs, fillK_fd]) rfl
set_option maxHeartbeats 1000000 in
theorem specSentBy_con (h u : Int) (l : List (Int × Int × Int)) (sk ln : Int) (hl : l.length ≤ 1048576) : Con Try.prog 12 [.agg [.int .i64 h, .int .i64 u], .sl (l.map (fun t : Int × Int × Int => V.agg [V.int .i64 t.1, V.int .i64 t.2.1, V.int .i64 t.2.2])), .int .i64 sk, .int .i64 ln] [] (.tup [.ref 0, .bool (runB (h, u) l sk ln)]) [.arr ((sentR (h, u) l sk ln).map (V.int .i64)) .flat] := by
 refine v_con [.tmp 8, .tmp 9] [] Try.func12 rfl rfl rfl (by simp [Try.ntmps12]) ?_
 intro Q0 n0 r0
 simp only [Try.ntmps12, envFrom, Nat.reduceAdd]
 have T := Tys.mk (And.intro Ty.t3 (And.intro Ty.t4 (And.intro Ty.t24 (And.intro Ty.t25 (And.intro Ty.t28 (And.intro Ty.t31 Ty.t35))))))
 have F := Fc.mk True.intro
 refine v_seqR [1,2,3,4] ?_; intro K1 k1
 refine zBox ⟨?_⟩
 refine zAssign ⟨?_⟩
 refine zAssign ⟨?_⟩
 refine k1 _ ?_
 refine zk ⟨?_⟩
 refine v_seqR [1,11,12] ?_; intro K2 k2
 refine zLoad ⟨?_⟩
 refine zMove ⟨?_⟩
 refine zMove ⟨?_⟩
 refine zMove ⟨?_⟩
 refine zc (leRun_con h u l sk ln hl) ⟨?_⟩
 refine zMove ⟨?_⟩
 refine zExtract ⟨?_⟩
 refine zExtract ⟨?_⟩
 refine zExtract ⟨?_⟩
 refine zAlloc ⟨?_⟩
 refine zStore ⟨?_⟩
 refine zAssign ⟨?_⟩
 refine zAssign ⟨?_⟩
 refine k2 _ ?_
 refine zk ⟨?_⟩
 refine v_seq ?_; intro Q3 n3 e3 r3
 refine v_seqR [1,11,26] ?_; intro K4 k4
 refine zMove ⟨?_⟩
 refine zUnOp ⟨?_⟩
 refine k4 _ ?_
 refine zk ⟨?_⟩
 refine v_condS _ rfl ?_ ?_
 ·intro hc0
  have hB : (runB (h, u) l sk ln) = false := hc0
  have hS : (sentR (h, u) l sk ln) = [] := by rw [sentR, hB]; rfl
  refine v_seqR [8,9] ?_; intro K6 k6
  refine zAssign ⟨?_⟩
  refine zAssign ⟨?_⟩
  refine k6 _ ?_
  refine zk ⟨?_⟩
  refine v_ret ?_
  refine r3 _ ?_
  refine r0 _ ?_
  refine zf ⟨?_⟩
  rw [hS, hB]
  exact ret_all rfl (by first | decide | simp [newIds, refsOf, refs2, refs1]) (by simp) rfl (by simp [newIds, refsOf, refs2, refs1]) (by simp [Blk.kindIs, fillK_fd]) rfl
 ·intro hc0
  have hB : (runB (h, u) l sk ln) = true := hc0
  obtain ⟨gs, hgs⟩ : ∃ gs, gs = (runTo (h, u) l sk ln).2 := ⟨_, rfl⟩
  have hrx : (runR (h, u) l sk ln).2 = gs := by rw [runR, hB, hgs]; rfl
  have hgl : gs.length = l.length := by have q := run_len (h, u) l sk ln l.length (Nat.le_refl _); rw [List.take_length, ← hgs] at q; exact q
  have hS : (sentR (h, u) l sk ln) = sentTo l gs l.length := by rw [sentR, hB, hgs]; rfl
  have hB2 := hB
  simp only [runB, Bool.and_eq_true, List.all_eq_true] at hB2
  have hreq := hB2.1.2
  refine v_skip ?_
  refine n3 _ _ (weak_keep [1, 11] _) ?_
  refine zk ⟨?_⟩
  refine v_seqR [1,11,13] ?_; intro K7 k7
  have F := Fc.mk hrx
  refine zBuildSlice ⟨?_⟩
  refine zAssign ⟨?_⟩
  refine k7 _ ?_
  refine zk ⟨?_⟩
  refine v_seq ?_; intro Q8 n8 e8 r8
  refine v_seqR [11,13,28,29,30] ?_; intro K9 k9
  refine zMove ⟨?_⟩
  refine zLen ⟨?_⟩
  refine zMove ⟨?_⟩
  refine k9 _ ?_
  refine zk ⟨?_⟩
  refine v_block ?_; intro Q10 n10 x10 e10 r10
  refine v_loop (fun i => ⟨[(11, .ref 0), (13, .ref 1), (28, .sl (l.map (fun t : Int × Int × Int => V.agg [V.int .i64 t.1, V.int .i64 t.2.1, V.int .i64 t.2.2]))), (29, .int .i64 l.length), (30, .int .i64 (Nat.cast i))], [.arr (gs.map V.bool) .flat, .arr ((sentTo l gs i).map (V.int .i64)) .flat], false, 54, 0⟩) (fun i => i ≤ l.length) (fun i => l.length - i) (0 : Nat) ?_ ?_ ?_
  ·refine weak_bothS [11, 13, 28, 29, 30] [2, 4] ⟨?_⟩
   rfl
  ·exact Nat.zero_le _
  ·rintro i hok11 Q11 n11 e11 r11
   have hi1 : i ≤ l.length := hok11
   refine v_seqR [11,13,28,29,30,31] ?_; intro K12 k12
   refine zBinOp ⟨?_⟩
   refine k12 _ ?_
   refine zk ⟨?_⟩
   refine v_seq ?_; intro Q13 n13 e13 r13
   refine v_condS _ rfl ?_ ?_
   ·intro hc1
    have hlt : i < l.length := by omega
    obtain ⟨⟨x0, x1, x2⟩, hx⟩ : ∃ x : Int × Int × Int, l[i]? = some x := ⟨l[i]'(by omega), List.getElem?_eq_getElem (by omega)⟩
    obtain ⟨g, hg⟩ : ∃ g, gs[i]? = some g := ⟨gs[i]'(by omega), List.getElem?_eq_getElem (by omega)⟩
    have hst := sent_step hx hg
    have hrq := req_bounds (hreq _ (List.mem_of_getElem? hx))
    simp only [] at hrq
    have hsl := sent_len l gs i
    obtain ⟨y, hy⟩ : ∃ y, (sentTo l gs i)[(x1 - 1).toNat]? = some y := ⟨(sentTo l gs i)[(x1 - 1).toNat]'(by omega), List.getElem?_eq_getElem (by omega)⟩
    have hyb := sent_le l gs i y (List.mem_of_getElem? hy)
    have hgd : (sentTo l gs i).getD (x1 - 1).toNat 0 = y := by rw [List.getD_eq_getElem?_getD, hy]; rfl
    refine v_skip ?_
    refine n13 _ _ (weak_keep [11, 13, 28, 29, 30] _) ?_
    refine zk ⟨?_⟩
    refine v_seq ?_; intro Q15 n15 e15 r15
    refine v_block ?_; intro Q16 n16 x16 e16 r16
    refine v_seqR [11,13,14,15,28,29,30] ?_; intro K17 k17
    have F := Fc.mk (And.intro hrx (And.intro (fun f => getD_map (f := f) hx) (And.intro (fun f => getD_map (f := f) hg) (fun f => getD_map (f := f) hy))))
    refine zMove ⟨?_⟩
    refine zIndexAddr ⟨?_⟩
    refine zLoad ⟨?_⟩
    refine zAlloc ⟨?_⟩
    refine zAssign ⟨?_⟩
    refine zStore ⟨?_⟩
    refine k17 _ ?_
    refine zk ⟨?_⟩
    refine v_seqR [11,13,15,28,29,30,43] ?_; intro K18 k18
    refine zFieldAddr ⟨?_⟩
    refine zLoad ⟨?_⟩
    refine zBinOp ⟨?_⟩
    refine zMove ⟨?_⟩
    refine zgMove ⟨?_⟩
    refine zgMove ⟨?_⟩
    refine zgIndexAddr ⟨?_⟩
    refine zgLoad ⟨?_⟩
    refine zPick ⟨?_⟩
    refine k18 _ ?_
    refine zk ⟨?_⟩
    refine v_condS _ rfl ?_ ?_
    ·intro hc2
     have hgk : g = true ∧ x2 = 3 := by first | exact hc2 | exact ⟨hc2.2, hc2.1⟩
     have hst2 : sentTo l gs (i + 1) = (sentTo l gs i).set (x1 - 1).toNat (y + 1) := by rw [hst, if_pos hgk, sentF, hgd]
     refine v_region ?_; intro K20 k20
     refine zMove ⟨?_⟩
     refine zFieldAddr ⟨?_⟩
     refine zLoad ⟨?_⟩
     refine zBinOpW ⟨?_⟩
     refine zIndexAddr ⟨?_⟩
     refine zLoad ⟨?_⟩
     refine zBinOpW ⟨?_⟩
     refine zIndexAddr ⟨?_⟩
     refine zStore ⟨?_⟩
     refine k20 _ ?_
     refine n16 _ ?_
     refine n15 _ _ (weak_keep [11, 13, 28, 29, 30] _) ?_
     refine zk ⟨?_⟩
     refine v_region ?_; intro K21 k21
     refine zBinOpW ⟨?_⟩
     refine zMove ⟨?_⟩
     refine k21 _ ?_
     refine n11 _ (i + 1) ?_ ?_ ?_
     ·refine weak_bothS [11, 13, 28, 29, 30] [0, 1] ⟨?_⟩
      rw [hst2, ← setat_Int]; rfl
     ·exact hlt
     ·show _ < _; omega
    ·intro hc2
     have hst2 : sentTo l gs (i + 1) = sentTo l gs i := by rw [hst, if_neg (by intro q; obtain ⟨q1, q2⟩ := q; first | exact hc2 q1 q2 | exact hc2 q2 q1 | (have z := hc2 q2; rw [q1] at z; cases z) | (have z := hc2 q1; rw [q2] at z; cases z))]
     refine v_skip ?_
     refine n16 _ ?_
     refine n15 _ _ (weak_keep [11, 13, 28, 29, 30] _) ?_
     refine zk ⟨?_⟩
     refine v_region ?_; intro K22 k22
     refine zBinOpW ⟨?_⟩
     refine zMove ⟨?_⟩
     refine k22 _ ?_
     refine n11 _ (i + 1) ?_ ?_ ?_
     ·refine weak_bothS [11, 13, 28, 29, 30] [0, 1] ⟨?_⟩
      rw [hst2]; rfl
     ·exact hlt
     ·show _ < _; omega
   ·intro hc1
    have hend : i = l.length := by omega
    refine v_exit ?_
    refine e13 _ _ ?_
    refine e11 _ _ ?_
    refine x10 _ ?_
    refine n8 _ _ (weak_keep [13] _) ?_
    refine zk ⟨?_⟩
    refine v_seqR [8,9] ?_; intro K23 k23
    refine zMove ⟨?_⟩
    refine zAssign ⟨?_⟩
    refine zAssign ⟨?_⟩
    refine k23 _ ?_
    refine zk ⟨?_⟩
    refine v_ret ?_
    refine r0 _ ?_
    refine zf ⟨?_⟩
    rw [hS, hB, ← hend]
    exact ret_all rfl (by first | decide | simp [newIds, refsOf, refs2, refs1]) (by simp) rfl (by simp [newIds, refsOf, refs2, refs1]) (by simp [Blk.kindIs, fillK_fd]) rfl
end Go.Proofs.Ytmlicajgbgjphaa
