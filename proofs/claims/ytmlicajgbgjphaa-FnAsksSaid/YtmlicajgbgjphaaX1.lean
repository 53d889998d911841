/- What functions compute. No condition. -/
import Derived.Test.YtmlicajgbgjphaaUty
import Derived.Test.YtmlicajgbgjphaaUmG
set_option linter.unusedSimpArgs false
set_option linter.unusedVariables false
set_option linter.defProp false
namespace Go.Proofs.Ytmlicajgbgjphaa
open Go Go.Vm

set_option maxHeartbeats 1000000 in
theorem inside_con (n lo hi : Int) : Con Try.prog 89 [.int .i64 n, .int .i64 lo, .int .i64 hi] [] (.bool (decide (lo ≤ n) && decide (n ≤ hi))) [] := by
 refine v_con [.tmp 6] [] Try.func89 rfl rfl rfl (by simp [Try.ntmps89]) ?_
 intro Q0 n0 r0
 simp only [Try.ntmps89, envFrom, Nat.reduceAdd]
 have T := Tys.mk Ty.t3
 have F := Fc.mk True.intro
 refine v_seqR [0,1,2] ?_; intro K1 k1
 refine zAssign ⟨?_⟩
 refine k1 _ ?_
 refine zk ⟨?_⟩
 refine v_seqR [6] ?_; intro K2 k2
 refine zMove ⟨?_⟩
 refine zMove ⟨?_⟩
 refine zBinOp ⟨?_⟩
 refine zMove ⟨?_⟩
 refine zgMove ⟨?_⟩
 refine zgMove ⟨?_⟩
 refine zgBinOp ⟨?_⟩
 refine zPick ⟨?_⟩
 refine zAssign ⟨?_⟩
 refine k2 _ ?_
 refine zk ⟨?_⟩
 refine v_ret ?_
 refine r0 _ ?_
 refine zf ⟨?_⟩
 exact ret_pure rfl (by first | rfl | simp) (.inl rfl)
set_option maxHeartbeats 1000000 in
theorem l1In_con (n lo hi : Int) : Con Try.prog 171 [.int .i64 n, .int .i64 lo, .int .i64 hi] [] (.bool (decide (lo ≤ n) && decide (n ≤ hi))) [] := by
 refine v_con [.tmp 6] [] Try.func171 rfl rfl rfl (by simp [Try.ntmps171]) ?_
 intro Q0 n0 r0
 simp only [Try.ntmps171, envFrom, Nat.reduceAdd]
 have T := Tys.mk Ty.t3
 have F := Fc.mk True.intro
 refine v_seqR [0,1,2] ?_; intro K1 k1
 refine zAssign ⟨?_⟩
 refine k1 _ ?_
 refine zk ⟨?_⟩
 refine v_seqR [6] ?_; intro K2 k2
 refine zMove ⟨?_⟩
 refine zMove ⟨?_⟩
 refine zBinOp ⟨?_⟩
 refine zMove ⟨?_⟩
 refine zgMove ⟨?_⟩
 refine zgMove ⟨?_⟩
 refine zgBinOp ⟨?_⟩
 refine zPick ⟨?_⟩
 refine zAssign ⟨?_⟩
 refine k2 _ ?_
 refine zk ⟨?_⟩
 refine v_ret ?_
 refine r0 _ ?_
 refine zf ⟨?_⟩
 exact ret_pure rfl (by first | rfl | simp) (.inl rfl)
theorem getElem_drop_cons {α : Type} {l : List α} {i : Nat} {x : α} (h : l[i]? = some x) : l.drop i = x :: l.drop (i + 1) := by
  obtain ⟨hi, rfl⟩ := List.getElem?_eq_some_iff.1 h
  exact List.drop_eq_getElem_cons hi
theorem eq_drop {α : Type} [DecidableEq α] {a b : List α} {i : Nat} (h : a.length = b.length) {x y : α} (hx : a[i]? = some x) (hy : b[i]? = some y) : (a.drop i = b.drop i) ↔ (x = y ∧ a.drop (i + 1) = b.drop (i + 1)) := by
  rw [getElem_drop_cons hx, getElem_drop_cons hy, List.cons.injEq]
theorem all_drop {α : Type} {f : α → Bool} {l : List α} {i : Nat} {x : α} (h : l[i]? = some x) : (l.drop i).all f = (f x && (l.drop (i + 1)).all f) := by
  rw [getElem_drop_cons h, List.all_cons]
theorem foldl_drop {α β : Type} {f : β → α → β} {l : List α} {i : Nat} {x : α} (h : l[i]? = some x) (b : β) : (l.drop i).foldl f b = (l.drop (i + 1)).foldl f (f b x) := by
  rw [getElem_drop_cons h, List.foldl_cons]
theorem foldl_end {α β : Type} {f : β → α → β} {l : List α} {i : Nat} (h : l.length ≤ i) (b : β) : (l.drop i).foldl f b = b := by
  rw [List.drop_of_length_le h]; rfl
theorem set_map {α : Type} {f : α → V} {l : List α} {i : Nat} {x : α} : (l.map f).set i (f x) = (l.set i x).map f := (List.map_set).symm

set_option maxHeartbeats 1000000 in
theorem l1Most_con (a b : Int) : Con Try.prog 167 [.int .i64 a, .int .i64 b] [] (.int .i64 (if b > a then b else a)) [] := by
 refine v_con [.tmp 4] [] Try.func167 rfl rfl rfl (by simp [Try.ntmps167]) ?_
 intro Q0 n0 r0
 simp only [Try.ntmps167, envFrom, Nat.reduceAdd]
 have T := Tys.mk Ty.t3
 have F := Fc.mk True.intro
 refine v_seqR [0,1] ?_; intro K1 k1
 refine zAssign ⟨?_⟩
 refine k1 _ ?_
 refine zk ⟨?_⟩
 refine v_seq ?_; intro Q2 n2 e2 r2
 refine v_seqR [0,1,7] ?_; intro K3 k3
 refine zMove ⟨?_⟩
 refine zMove ⟨?_⟩
 refine zBinOp ⟨?_⟩
 refine k3 _ ?_
 refine zk ⟨?_⟩
 refine v_condS _ rfl ?_ ?_
 ·intro hc0
  refine v_seqR [4] ?_; intro K5 k5
  refine zMove ⟨?_⟩
  refine zAssign ⟨?_⟩
  refine k5 _ ?_
  refine zk ⟨?_⟩
  refine v_ret ?_
  refine r2 _ ?_
  refine r0 _ ?_
  refine zf ⟨?_⟩
  exact ret_pure rfl (by congr 1; split <;> omega) (.inl rfl)
 ·intro hc0
  refine v_skip ?_
  refine n2 _ _ (weak_keep [1] _) ?_
  refine zk ⟨?_⟩
  refine v_seqR [4] ?_; intro K6 k6
  refine zMove ⟨?_⟩
  refine zAssign ⟨?_⟩
  refine k6 _ ?_
  refine zk ⟨?_⟩
  refine v_ret ?_
  refine r0 _ ?_
  refine zf ⟨?_⟩
  exact ret_pure rfl (by congr 1; split <;> omega) (.inl rfl)
def firstP {α : Type} (p : α → Bool) : Nat → List α → Int
  | _, [] => -1
  | i, x :: l => if p x = true then i else firstP p (i + 1) l
theorem first_step {α : Type} {p : α → Bool} {l : List α} {i : Nat} {x : α} (h : l[i]? = some x) : firstP p i (l.drop i) = if p x = true then (i : Int) else firstP p (i + 1) (l.drop (i + 1)) := by
  rw [getElem_drop_cons h, firstP]
theorem first_end {α : Type} {p : α → Bool} {l : List α} {i k : Nat} (h : l.length ≤ i) : firstP p k (l.drop i) = -1 := by
  rw [List.drop_of_length_le h, firstP]
theorem first_any {α : Type} (p : α → Bool) : ∀ (l : List α) (i : Nat), decide (0 ≤ firstP p i l) = l.any p
  | [], i => by rw [firstP]; rfl
  | x :: l, i => by
    rw [firstP, List.any_cons]
    by_cases h : p x = true
    · rw [if_pos h, h]; simp
    · rw [if_neg h, first_any p l (i + 1), Bool.eq_false_iff.2 h]; rfl
theorem first_none {α : Type} {p : α → Bool} : ∀ {l : List α} {i : Nat}, firstP p i l = -1 → l.filter (fun x => !p x) = l
  | [], _, _ => rfl
  | x :: l, i, h => by
    rw [firstP] at h
    by_cases q : p x = true
    · rw [if_pos q] at h; omega
    · rw [if_neg q] at h
      rw [List.filter_cons, if_pos (by simp [q]), first_none h]
theorem first_some {α : Type} {p : α → Bool} : ∀ {l : List α} {i : Nat}, firstP p i l ≠ -1 → ∃ k, k < l.length ∧ firstP p i l = ((i + k : Nat) : Int) ∧ (l.take (k + 1)).filter (fun x => !p x) = l.take k ∧ ∃ x, l[k]? = some x ∧ p x = true
  | [], i, h => absurd rfl h
  | x :: l, i, h => by
    rw [firstP] at h ⊢
    by_cases q : p x = true
    · rw [if_pos q]
      exact ⟨0, by simp, by simp, by simp [q], x, rfl, q⟩
    · rw [if_neg q] at h ⊢
      obtain ⟨k, h1, h2, h3, y, h4, h5⟩ := first_some (l := l) h
      refine ⟨k + 1, by simp; exact h1, by rw [h2]; congr 1; omega, ?_, y, by simpa using h4, h5⟩
      rw [List.take_succ_cons, List.filter_cons, if_pos (by simp [q]), h3, List.take_succ_cons]
theorem first_congr {α : Type} {p q : α → Bool} : ∀ {l : List α} {i : Nat}, (∀ x ∈ l, p x = q x) → firstP p i l = firstP q i l
  | [], _, _ => rfl
  | x :: l, i, h => by rw [firstP, firstP, h x (List.mem_cons_self ..), first_congr fun y hy => h y (List.mem_cons_of_mem _ hy)]
theorem del_end {α : Type} {p : α → Bool} {l ys : List α} {i j : Nat} (h1 : i ≤ ys.length) (hj : l.length ≤ j) (h : ys.take i = (l.take j).filter (fun x => !p x)) : i = (l.filter (fun x => !p x)).length ∧ ys.take i = l.filter (fun x => !p x) := by
  rw [List.take_of_length_le hj] at h
  refine ⟨?_, h⟩
  rw [← h, List.length_take]; omega
theorem del_keep {α : Type} {p : α → Bool} {l ys : List α} {i j : Nat} {x : α} (hij : i ≤ j) (hjl : ys.length = l.length) (hx : l[j]? = some x) (hp : p x = false) (h : ys.take i = (l.take j).filter (fun x => !p x)) (hd : ys.drop j = l.drop j) :
    (ys.set i x).take (i + 1) = (l.take (j + 1)).filter (fun x => !p x) ∧ (ys.set i x).drop (j + 1) = l.drop (j + 1) := by
  have hj : j < l.length := (List.getElem?_eq_some_iff.1 hx).1
  constructor
  · rw [List.take_add_one, List.take_add_one, hx, List.filter_append, ← h, List.getElem?_set_self (by omega), List.take_set, List.set_eq_of_length_le (by rw [List.length_take]; omega)]
    simp [hp]
  · rw [List.drop_set, if_pos (by omega)]
    have := congrArg (List.drop 1) hd
    rwa [List.drop_drop, List.drop_drop] at this
theorem del_drop {α : Type} {p : α → Bool} {l ys : List α} {i j : Nat} {x : α} (hx : l[j]? = some x) (hp : p x = true) (h : ys.take i = (l.take j).filter (fun x => !p x)) (hd : ys.drop j = l.drop j) :
    ys.take i = (l.take (j + 1)).filter (fun x => !p x) ∧ ys.drop (j + 1) = l.drop (j + 1) := by
  constructor
  · rw [List.take_add_one, hx, List.filter_append, ← h]; simp [hp]
  · have := congrArg (List.drop 1) hd
    rwa [List.drop_drop, List.drop_drop] at this
theorem del_get {α : Type} {l ys : List α} {j : Nat} {x : α} (hx : l[j]? = some x) (hd : ys.drop j = l.drop j) : ys[j]? = some x := by
  have := congrArg (fun z => z[0]?) hd
  simpa [hx] using this

theorem and255 (a : Int) : 0 ≤ IntKind.i64.wrap (IntKind.u64.wrap ((BitVec.ofInt IntKind.u64.bits a &&& BitVec.ofInt IntKind.u64.bits 255).toNat : Int)) ∧ IntKind.i64.wrap (IntKind.u64.wrap ((BitVec.ofInt IntKind.u64.bits a &&& BitVec.ofInt IntKind.u64.bits 255).toNat : Int)) ≤ 255 := by
  have h : (BitVec.ofInt IntKind.u64.bits a &&& BitVec.ofInt IntKind.u64.bits 255).toNat ≤ 255 := by
    rw [BitVec.toNat_and]
    exact Nat.le_trans Nat.and_le_right (by decide)
  generalize (BitVec.ofInt IntKind.u64.bits a &&& BitVec.ofInt IntKind.u64.bits 255).toNat = n at h
  have e : IntKind.u64.wrap (n : Int) = n := by
    simp only [IntKind.wrap, IntKind.bits, IntKind.signed]
    simp
    omega
  rw [e, wrap64 (by omega) (by omega)]
  omega
theorem tmod_in {x m : Int} (hx : 0 ≤ x) (hm : 1 < m) : 0 ≤ x.tmod m ∧ x.tmod m < m := ⟨Int.tmod_nonneg m hx, Int.tmod_lt_of_pos x (by omega)⟩

set_option maxHeartbeats 1000000 in
theorem next_con (code : List Int) (a s : Int) (hcode : ∀ x ∈ code, 0 ≤ x ∧ x ≤ 255) (hcl : code.length ≤ 9223372036854775807) (ha : 0 ≤ a ∧ a < 20000000000) : ConX Try.prog 166 [.ptr 0 0 0] [.box (.agg [.sl (code.map (V.int .u8)), .int .i64 a, .int .u64 s]) .shal] (fun r O' => ∃ (v : Int) (a' s' : Int), (0 ≤ v ∧ v ≤ 255) ∧ (a ≤ a' ∧ a' ≤ a + 1) ∧ r = .int .i64 v ∧ O' = [.box (.agg [.sl (code.map (V.int .u8)), .int .i64 a', .int .u64 s']) .shal]) := by
 refine v_conX [.tmp 2] [] Try.func166 rfl rfl rfl (by simp [Try.ntmps166]) ?_
 intro Q0 n0 r0
 simp only [Try.ntmps166, envFrom, Nat.reduceAdd]
 have T := Tys.mk (And.intro Ty.t3 (And.intro Ty.t5 (And.intro Ty.t22 (And.intro Ty.t118 (And.intro Ty.t120 Ty.t188)))))
 have F := Fc.mk True.intro
 refine v_seqR [0] ?_; intro K1 k1
 refine zAssign ⟨?_⟩
 refine k1 _ ?_
 refine zk ⟨?_⟩
 refine v_seqR [0,3] ?_; intro K2 k2
 refine zAssign ⟨?_⟩
 refine k2 _ ?_
 refine zk ⟨?_⟩
 refine v_seq ?_; intro Q3 n3 e3 r3
 refine v_seq ?_; intro Q4 n4 e4 r4
 refine v_draw (by kernel_rfl) ?_; intro K5 q5 k5
 show aAny _ _ _ _ 10 (Array.replicate 10 false) _
 refine zdMove q5 true 0 4 ?_
 refine zdNilCheck q5 true 1 5 ?_
 refine zdFieldAddr q5 true 2 6 ?_
 refine zdLoad q5 true 3 7 ?_
 refine zdMove q5 true 4 8 ?_
 refine zdNilCheck q5 true 5 9 ?_
 refine zdFieldAddr q5 true 6 10 ?_
 refine zdLoad q5 true 7 11 ?_
 refine zdLen q5 true 8 12 ?_
 refine zdBinOp q5 true 9 13 ?_
 refine aAny_done (by kernel_rfl) ?_
 refine k5 _ ?_
 refine n4 _ _ (weak_keep [0, 3, 13] _) ?_
 refine zk ⟨?_⟩
 refine v_condS _ rfl ?_ ?_
 ·intro hc0
  have hlt : a.toNat < code.length := by omega
  obtain ⟨x, hx⟩ : ∃ x, code[a.toNat]? = some x := ⟨code[a.toNat], List.getElem?_eq_getElem hlt⟩
  have hxb := hcode x (List.mem_of_getElem? hx)
  have hxw : IntKind.i64.wrap x = x := wrap64 (by omega) (by omega)
  refine v_draw (by kernel_rfl) ?_; intro K7 q7 k7
  show aAny _ _ _ _ 12 (Array.replicate 12 false) _
  have F := Fc.mk (And.intro (fun f => getD_map (f := f) hx) hxw)
  refine zdMove q7 true 0 14 ?_
  refine zdNilCheck q7 true 1 15 ?_
  refine zdFieldAddr q7 true 2 16 ?_
  refine zdLoad q7 true 3 17 ?_
  refine zdMove q7 true 4 18 ?_
  refine zdNilCheck q7 true 5 19 ?_
  refine zdFieldAddr q7 true 6 20 ?_
  refine zdLoad q7 true 7 21 ?_
  refine zdIndexAddr q7 true 8 22 ?_
  refine zdLoad q7 true 9 23 ?_
  refine zdConvert q7 true 10 24 ?_
  refine zoAssign 11 ⟨?_⟩
  refine aAny_done (by kernel_rfl) ?_
  refine k7 _ ?_
  refine n3 _ _ (weak_keep [0, 3] _) ?_
  refine zk ⟨?_⟩
  refine v_seqR [0,3] ?_; intro K8 k8
  refine zMove ⟨?_⟩
  refine zNilCheck ⟨?_⟩
  refine zFieldAddr ⟨?_⟩
  refine zLoad ⟨?_⟩
  refine zBinOpW ⟨?_⟩
  refine zNilCheck ⟨?_⟩
  refine zFieldAddr ⟨?_⟩
  refine zStore ⟨?_⟩
  refine k8 _ ?_
  refine zk ⟨?_⟩
  refine v_seqR [0,3] ?_; intro K9 k9
  refine zMove ⟨?_⟩
  refine zMove ⟨?_⟩
  refine zNilCheck ⟨?_⟩
  refine zFieldAddr ⟨?_⟩
  refine zLoad ⟨?_⟩
  refine zBinOpW ⟨?_⟩
  refine zMove ⟨?_⟩
  refine zConvert ⟨?_⟩
  refine zBinOpW ⟨?_⟩
  refine zBinOpW ⟨?_⟩
  refine zNilCheck ⟨?_⟩
  refine zFieldAddr ⟨?_⟩
  refine zStore ⟨?_⟩
  refine k9 _ ?_
  refine zk ⟨?_⟩
  refine v_seq ?_; intro Q10 n10 e10 r10
  refine v_seq ?_; intro Q11 n11 e11 r11
  refine v_draw (by kernel_rfl) ?_; intro K12 q12 k12
  show aAny _ _ _ _ 10 (Array.replicate 10 false) _
  refine zdMove q12 true 0 44 ?_
  refine zdNilCheck q12 true 1 45 ?_
  refine zdFieldAddr q12 true 2 46 ?_
  refine zdLoad q12 true 3 47 ?_
  refine zdMove q12 true 4 48 ?_
  refine zdNilCheck q12 true 5 49 ?_
  refine zdFieldAddr q12 true 6 50 ?_
  refine zdLoad q12 true 7 51 ?_
  refine zdLen q12 true 8 52 ?_
  refine zdBinOp q12 true 9 53 ?_
  refine aAny_done (by kernel_rfl) ?_
  refine k12 _ ?_
  refine n11 _ _ (weak_keep [0, 3, 53] _) ?_
  refine zk ⟨?_⟩
  refine v_condS _ rfl ?_ ?_
  ·intro hc1
   refine v_seqR [2] ?_; intro K14 k14
   refine zMove ⟨?_⟩
   refine zAssign ⟨?_⟩
   refine k14 _ ?_
   refine zk ⟨?_⟩
   refine v_ret ?_
   refine r10 _ ?_
   refine r0 _ ?_
   refine zf ⟨?_⟩
   refine ret_viewX ?_
   exact ⟨_, _, _, by omega, by omega, rfl, rfl⟩
  ·intro hc1
   refine v_skip ?_
   refine n10 _ _ (weak_keep [0] _) ?_
   refine zk ⟨?_⟩
   refine v_seqR [2] ?_; intro K15 k15
   refine zMove ⟨?_⟩
   refine zNilCheck ⟨?_⟩
   refine zFieldAddr ⟨?_⟩
   refine zLoad ⟨?_⟩
   refine zBinOp ⟨?_⟩
   refine zBinOp ⟨?_⟩
   refine zConvert ⟨?_⟩
   refine zAssign ⟨?_⟩
   refine k15 _ ?_
   refine zk ⟨?_⟩
   refine v_ret ?_
   refine r0 _ ?_
   refine zf ⟨?_⟩
   refine ret_viewX ?_
   exact ⟨_, _, _, and255 _, by omega, rfl, rfl⟩
 ·intro hc0
  refine v_skip ?_
  refine n3 _ _ (weak_keep [0, 3] _) ?_
  refine zk ⟨?_⟩
  refine v_seqR [0,3] ?_; intro K16 k16
  refine zMove ⟨?_⟩
  refine zNilCheck ⟨?_⟩
  refine zFieldAddr ⟨?_⟩
  refine zLoad ⟨?_⟩
  refine zBinOpW ⟨?_⟩
  refine zNilCheck ⟨?_⟩
  refine zFieldAddr ⟨?_⟩
  refine zStore ⟨?_⟩
  refine k16 _ ?_
  refine zk ⟨?_⟩
  refine v_seqR [0,3] ?_; intro K17 k17
  refine zMove ⟨?_⟩
  refine zMove ⟨?_⟩
  refine zNilCheck ⟨?_⟩
  refine zFieldAddr ⟨?_⟩
  refine zLoad ⟨?_⟩
  refine zBinOpW ⟨?_⟩
  refine zMove ⟨?_⟩
  refine zConvert ⟨?_⟩
  refine zBinOpW ⟨?_⟩
  refine zBinOpW ⟨?_⟩
  refine zNilCheck ⟨?_⟩
  refine zFieldAddr ⟨?_⟩
  refine zStore ⟨?_⟩
  refine k17 _ ?_
  refine zk ⟨?_⟩
  refine v_seq ?_; intro Q18 n18 e18 r18
  refine v_seq ?_; intro Q19 n19 e19 r19
  refine v_draw (by kernel_rfl) ?_; intro K20 q20 k20
  show aAny _ _ _ _ 10 (Array.replicate 10 false) _
  refine zdMove q20 true 0 44 ?_
  refine zdNilCheck q20 true 1 45 ?_
  refine zdFieldAddr q20 true 2 46 ?_
  refine zdLoad q20 true 3 47 ?_
  refine zdMove q20 true 4 48 ?_
  refine zdNilCheck q20 true 5 49 ?_
  refine zdFieldAddr q20 true 6 50 ?_
  refine zdLoad q20 true 7 51 ?_
  refine zdLen q20 true 8 52 ?_
  refine zdBinOp q20 true 9 53 ?_
  refine aAny_done (by kernel_rfl) ?_
  refine k20 _ ?_
  refine n19 _ _ (weak_keep [0, 3, 53] _) ?_
  refine zk ⟨?_⟩
  refine v_condS _ rfl ?_ ?_
  ·intro hc2
   refine v_seqR [2] ?_; intro K22 k22
   refine zMove ⟨?_⟩
   refine zAssign ⟨?_⟩
   refine k22 _ ?_
   refine zk ⟨?_⟩
   refine v_ret ?_
   refine r18 _ ?_
   refine r0 _ ?_
   refine zf ⟨?_⟩
   refine ret_viewX ?_
   exact ⟨_, _, _, by omega, by omega, rfl, rfl⟩
  ·intro hc2
   refine v_skip ?_
   refine n18 _ _ (weak_keep [0] _) ?_
   refine zk ⟨?_⟩
   refine v_seqR [2] ?_; intro K23 k23
   refine zMove ⟨?_⟩
   refine zNilCheck ⟨?_⟩
   refine zFieldAddr ⟨?_⟩
   refine zLoad ⟨?_⟩
   refine zBinOp ⟨?_⟩
   refine zBinOp ⟨?_⟩
   refine zConvert ⟨?_⟩
   refine zAssign ⟨?_⟩
   refine k23 _ ?_
   refine zk ⟨?_⟩
   refine v_ret ?_
   refine r0 _ ?_
   refine zf ⟨?_⟩
   refine ret_viewX ?_
   exact ⟨_, _, _, and255 _, by omega, rfl, rfl⟩
set_option maxHeartbeats 1000000 in
theorem pick_con (code : List Int) (a s : Int) (m : Int) (hcode : ∀ x ∈ code, 0 ≤ x ∧ x ≤ 255) (hcl : code.length ≤ 9223372036854775807) (ha : 0 ≤ a ∧ a < 19000000000) : ConX Try.prog 78 [.ptr 0 0 0, .int .i64 m] [.box (.agg [.sl (code.map (V.int .u8)), .int .i64 a, .int .u64 s]) .shal] (fun r O' => ∃ (v : Int) (a' s' : Int), (0 ≤ v ∧ (v < m ∨ (m ≤ 1 ∧ v = 0))) ∧ (a ≤ a' ∧ a' ≤ a + 2) ∧ r = .int .i64 v ∧ O' = [.box (.agg [.sl (code.map (V.int .u8)), .int .i64 a', .int .u64 s']) .shal]) := by
 refine v_conX [.tmp 4] [(166, [0])] Try.func78 rfl rfl rfl (by simp [Try.ntmps78]) ?_
 intro Q0 n0 r0
 simp only [Try.ntmps78, envFrom, Nat.reduceAdd]
 have T := Tys.mk (And.intro Ty.t3 (And.intro Ty.t5 (And.intro Ty.t22 (And.intro Ty.t117 (And.intro Ty.t118 Ty.t120)))))
 have F := Fc.mk True.intro
 refine v_seqR [0,1] ?_; intro K1 k1
 refine zAssign ⟨?_⟩
 refine k1 _ ?_
 refine zk ⟨?_⟩
 refine v_seq ?_; intro Q2 n2 e2 r2
 refine v_seqR [0,1,7] ?_; intro K3 k3
 refine zMove ⟨?_⟩
 refine zBinOp ⟨?_⟩
 refine k3 _ ?_
 refine zk ⟨?_⟩
 refine v_condS _ rfl ?_ ?_
 ·intro hc0
  refine v_seqR [4] ?_; intro K5 k5
  refine zAssign ⟨?_⟩
  refine k5 _ ?_
  refine zk ⟨?_⟩
  refine v_ret ?_
  refine r2 _ ?_
  refine r0 _ ?_
  refine zf ⟨?_⟩
  refine ret_viewX ?_
  exact ⟨0, _, _, by omega, by omega, rfl, rfl⟩
 ·intro hc0
  refine v_skip ?_
  refine n2 _ _ (weak_keep [0, 1] _) ?_
  refine zk ⟨?_⟩
  refine v_seqR [0,1,5] ?_; intro K6 k6
  refine zMove ⟨?_⟩
  refine v_op ?_; intro K k
  simp only [zE, zM, aStepM, optable, set_some, Nat.reduceEqDiff, reduceIte, Nat.reduceLT, implies_true, forall_const, reduceCtorEq, V.ofValue, V.ofScalar, V.un, V.gd, aExec, lentIds, lendOf, ‹Tys _›.h, ‹Fc _›.h]
  repeat (refine andC ?_)
  refine aCall_lentXA (next_con code a s hcode hcl (by omega)) ?_
  rintro _ _ ⟨v9, a9, s9, h9, k9, rfl, rfl⟩
  refine ⟨_, _, rfl, by first | exact .inr (List.all_eq_true.1 rfl) | exact .inl ⟨rfl, by simp [Blk.kindIs, fillK_fd]⟩, ?_⟩
  refine k _ ?_; clear k K
  simp only [zY, zW, set_some, Nat.reduceEqDiff, reduceIte, rho_one, rho_s, rho2_s, rho2_0, rho2_1, V.ren, V.renL, List.set_cons_zero, List.set_cons_succ, rho, Nat.reduceAdd, Nat.add_zero]
  refine zAssign ⟨?_⟩
  refine k6 _ ?_
  refine zk ⟨?_⟩
  refine v_seq ?_; intro Q7 n7 e7 r7
  refine v_seqR [0,1,5,11] ?_; intro K8 k8
  refine zMove ⟨?_⟩
  refine zBinOp ⟨?_⟩
  refine k8 _ ?_
  refine zk ⟨?_⟩
  refine v_condS _ rfl ?_ ?_
  ·intro hc1
   refine v_region ?_; intro K10 k10
   refine zMove ⟨?_⟩
   refine zBinOpW ⟨?_⟩
   refine zMove ⟨?_⟩
   refine v_op ?_; intro K k
   simp only [zE, zM, aStepM, optable, set_some, Nat.reduceEqDiff, reduceIte, Nat.reduceLT, implies_true, forall_const, reduceCtorEq, V.ofValue, V.ofScalar, V.un, V.gd, aExec, lentIds, lendOf, ‹Tys _›.h, ‹Fc _›.h]
   repeat (refine andC ?_)
   refine aCall_lentXA (next_con code a9 s9 hcode hcl (by omega)) ?_
   rintro _ _ ⟨v15, a15, s15, h15, k15, rfl, rfl⟩
   refine ⟨_, _, rfl, by first | exact .inr (List.all_eq_true.1 rfl) | exact .inl ⟨rfl, by simp [Blk.kindIs, fillK_fd]⟩, ?_⟩
   refine k _ ?_; clear k K
   simp only [zY, zW, set_some, Nat.reduceEqDiff, reduceIte, rho_one, rho_s, rho2_s, rho2_0, rho2_1, V.ren, V.renL, List.set_cons_zero, List.set_cons_succ, rho, Nat.reduceAdd, Nat.add_zero]
   refine zBinOpW ⟨?_⟩
   refine zAssign ⟨?_⟩
   refine k10 _ ?_
   refine n7 _ _ (weak_keep [1, 5] _) ?_
   refine zk ⟨?_⟩
   refine v_seqR [4] ?_; intro K11 k11
   refine zMove ⟨?_⟩
   refine zMove ⟨?_⟩
   refine zBinOp ⟨?_⟩
   refine zAssign ⟨?_⟩
   refine k11 _ ?_
   refine zk ⟨?_⟩
   refine v_ret ?_
   refine r0 _ ?_
   refine zf ⟨?_⟩
   have hm1 : 1 < m := by omega
   have ht := tmod_in (x := v9 * 256 + v15) (m := m) (by omega) hm1
   refine ret_viewX ?_
   exact ⟨_, _, _, by omega, by omega, rfl, rfl⟩
  ·intro hc1
   refine v_skip ?_
   refine n7 _ _ (weak_keep [1, 5] _) ?_
   refine zk ⟨?_⟩
   refine v_seqR [4] ?_; intro K12 k12
   refine zMove ⟨?_⟩
   refine zMove ⟨?_⟩
   refine zBinOp ⟨?_⟩
   refine zAssign ⟨?_⟩
   refine k12 _ ?_
   refine zk ⟨?_⟩
   refine v_ret ?_
   refine r0 _ ?_
   refine zf ⟨?_⟩
   have hm1 : 1 < m := by omega
   have ht := tmod_in (x := v9) (m := m) (by omega) hm1
   refine ret_viewX ?_
   exact ⟨_, _, _, by omega, by omega, rfl, rfl⟩
set_option maxHeartbeats 1000000 in
theorem one_con (code : List Int) (a s : Int) (m : Int) (hcode : ∀ x ∈ code, 0 ≤ x ∧ x ≤ 255) (hcl : code.length ≤ 9223372036854775807) (ha : 0 ≤ a ∧ a < 18000000000) : ConX Try.prog 79 [.ptr 0 0 0, .int .i64 m] [.box (.agg [.sl (code.map (V.int .u8)), .int .i64 a, .int .u64 s]) .shal] (fun r O' => ∃ (v : Bool) (a' s' : Int), (True) ∧ (a ≤ a' ∧ a' ≤ a + 2) ∧ r = .bool v ∧ O' = [.box (.agg [.sl (code.map (V.int .u8)), .int .i64 a', .int .u64 s']) .shal]) := by
 refine v_conX [.tmp 4] [(78, [0])] Try.func79 rfl rfl rfl (by simp [Try.ntmps79]) ?_
 intro Q0 n0 r0
 simp only [Try.ntmps79, envFrom, Nat.reduceAdd]
 have T := Tys.mk (And.intro Ty.t3 (And.intro Ty.t5 (And.intro Ty.t22 (And.intro Ty.t117 (And.intro Ty.t118 Ty.t120)))))
 have F := Fc.mk True.intro
 refine v_seqR [0,1] ?_; intro K1 k1
 refine zAssign ⟨?_⟩
 refine k1 _ ?_
 refine zk ⟨?_⟩
 refine v_seqR [4] ?_; intro K2 k2
 refine zMove ⟨?_⟩
 refine zMove ⟨?_⟩
 refine v_op ?_; intro K k
 simp only [zE, zM, aStepM, optable, set_some, Nat.reduceEqDiff, reduceIte, Nat.reduceLT, implies_true, forall_const, reduceCtorEq, V.ofValue, V.ofScalar, V.un, V.gd, aExec, lentIds, lendOf, ‹Tys _›.h, ‹Fc _›.h]
 repeat (refine andC ?_)
 refine aCall_lentXA (pick_con code a s (m) hcode hcl (by omega)) ?_
 rintro _ _ ⟨v7, a7, s7, h7, k7, rfl, rfl⟩
 refine ⟨_, _, rfl, by first | exact .inr (List.all_eq_true.1 rfl) | exact .inl ⟨rfl, by simp [Blk.kindIs, fillK_fd]⟩, ?_⟩
 refine k _ ?_; clear k K
 simp only [zY, zW, set_some, Nat.reduceEqDiff, reduceIte, rho_one, rho_s, rho2_s, rho2_0, rho2_1, V.ren, V.renL, List.set_cons_zero, List.set_cons_succ, rho, Nat.reduceAdd, Nat.add_zero]
 refine zBinOp ⟨?_⟩
 refine zAssign ⟨?_⟩
 refine k2 _ ?_
 refine zk ⟨?_⟩
 refine v_ret ?_
 refine r0 _ ?_
 refine zf ⟨?_⟩
 refine ret_viewX ?_
 exact ⟨_, _, _, trivial, by omega, rfl, rfl⟩
set_option maxHeartbeats 1000000 in
theorem among_con (code : List Int) (a s : Int) (l : List Int) (hl : 0 < l.length ∧ l.length ≤ 1048576) (hcode : ∀ x ∈ code, 0 ≤ x ∧ x ≤ 255) (hcl : code.length ≤ 9223372036854775807) (ha : 0 ≤ a ∧ a < 18000000000) : ConX Try.prog 81 [.ptr 0 0 0, .ref 1] [.box (.agg [.sl (code.map (V.int .u8)), .int .i64 a, .int .u64 s]) .shal, .arr (l.map (V.int .i64)) .flat] (fun r O' => ∃ (v : Int) (a' s' : Int), (v ∈ l) ∧ (a ≤ a' ∧ a' ≤ a + 2) ∧ r = .int .i64 v ∧ O' = [.box (.agg [.sl (code.map (V.int .u8)), .int .i64 a', .int .u64 s']) .shal, .arr (l.map (V.int .i64)) .flat]) := by
 refine v_conX [.tmp 4] [(78, [0])] Try.func81 rfl rfl rfl (by simp [Try.ntmps81]) ?_
 intro Q0 n0 r0
 simp only [Try.ntmps81, envFrom, Nat.reduceAdd]
 have T := Tys.mk (And.intro Ty.t3 (And.intro Ty.t5 (And.intro Ty.t22 (And.intro Ty.t31 (And.intro Ty.t117 (And.intro Ty.t118 Ty.t120))))))
 have F := Fc.mk True.intro
 refine v_seqR [0,1] ?_; intro K1 k1
 refine zAssign ⟨?_⟩
 refine k1 _ ?_
 refine zk ⟨?_⟩
 refine v_seqR [4] ?_; intro K2 k2
 refine zMove ⟨?_⟩
 refine zMove ⟨?_⟩
 refine zMove ⟨?_⟩
 refine zLen ⟨?_⟩
 refine v_op ?_; intro K k
 simp only [zE, zM, aStepM, optable, set_some, Nat.reduceEqDiff, reduceIte, Nat.reduceLT, implies_true, forall_const, reduceCtorEq, V.ofValue, V.ofScalar, V.un, V.gd, aExec, lentIds, lendOf, ‹Tys _›.h, ‹Fc _›.h]
 repeat (refine andC ?_)
 refine aCall_lentXA (pick_con code a s ((l.length : Int)) hcode hcl (by omega)) ?_
 rintro _ _ ⟨v9, a9, s9, h9, k9, rfl, rfl⟩
 obtain ⟨x, hx⟩ : ∃ x, l[v9.toNat]? = some x := ⟨l[v9.toNat]'(by omega), List.getElem?_eq_getElem (by omega)⟩
 refine ⟨_, _, rfl, by first | exact .inr (List.all_eq_true.1 rfl) | exact .inl ⟨rfl, by simp [Blk.kindIs, fillK_fd]⟩, ?_⟩
 refine k _ ?_; clear k K
 simp only [zY, zW, set_some, Nat.reduceEqDiff, reduceIte, rho_one, rho_s, rho2_s, rho2_0, rho2_1, V.ren, V.renL, List.set_cons_zero, List.set_cons_succ, rho, Nat.reduceAdd, Nat.add_zero]
 have F := Fc.mk (fun f => getD_map (f := f) hx)
 refine zIndexAddr ⟨?_⟩
 refine zLoad ⟨?_⟩
 refine zAssign ⟨?_⟩
 refine k2 _ ?_
 refine zk ⟨?_⟩
 refine v_ret ?_
 refine r0 _ ?_
 refine zf ⟨?_⟩
 refine ret_viewX ?_
 exact ⟨_, _, _, List.mem_of_getElem? hx, by omega, rfl, rfl⟩
theorem snoc_Int {a : List Int} {x : Int} : a.map (V.int .i64) ++ [V.int .i64 x] = (a ++ [x]).map (V.int .i64) := by simp
theorem setat_Int {a : List Int} {i : Nat} {x : Int} : (a.map (V.int .i64)).set i (V.int .i64 x) = (a.set i x).map (V.int .i64) := by rw [List.map_set]
theorem snoc_SL {a : List (List Int)} {x : List Int} : a.map (fun l : List Int => V.sl (l.map (V.int .i64))) ++ [V.sl (x.map (V.int .i64))] = (a ++ [x]).map (fun l : List Int => V.sl (l.map (V.int .i64))) := by simp
theorem setat_SL {a : List (List Int)} {i : Nat} {x : Int} {y : Int} : (a.map (fun l : List Int => V.sl (l.map (V.int .i64)))).set i (V.sl [V.int .i64 x, V.int .i64 y]) = (a.set i [x, y]).map (fun l : List Int => V.sl (l.map (V.int .i64))) := by rw [List.map_set]; rfl

set_option maxHeartbeats 1000000 in
theorem qInts_con (l : List (Int)) (hl : l.length ≤ 1048576) : Con Try.prog 17 [.sl (l.map (V.int .i64)), .sl (l.map (V.int .i64))] [] (.bool true) [] := by
 refine v_con [.tmp 4] [] Try.func17 rfl rfl rfl (by simp [Try.ntmps17]) ?_
 intro Q0 n0 r0
 simp only [Try.ntmps17, envFrom, Nat.reduceAdd]
 have T := Tys.mk (And.intro Ty.t3 Ty.t31)
 have F := Fc.mk True.intro
 refine v_seqR [0,1] ?_; intro K1 k1
 refine zAssign ⟨?_⟩
 refine k1 _ ?_
 refine zk ⟨?_⟩
 refine v_seq ?_; intro Q2 n2 e2 r2
 refine v_seqR [0,1,10] ?_; intro K3 k3
 refine zMove ⟨?_⟩
 refine zLen ⟨?_⟩
 refine zMove ⟨?_⟩
 refine zLen ⟨?_⟩
 refine zBinOp ⟨?_⟩
 refine k3 _ ?_
 refine zk ⟨?_⟩
 refine v_cond _ rfl ?_ ?_
 ·intro hc0
  exfalso; simp at hc0
 ·intro hc0
  try simp only [zC, reduceCtorEq] at hc0
  refine v_skip ?_
  refine n2 _ _ (weak_keep [0, 1] _) ?_
  refine zk ⟨?_⟩
  refine v_seq ?_; intro Q5 n5 e5 r5
  refine v_seqR [0,1,12,13] ?_; intro K6 k6
  refine zMove ⟨?_⟩
  refine zLen ⟨?_⟩
  refine zMove ⟨?_⟩
  refine k6 _ ?_
  refine zk ⟨?_⟩
  refine v_block ?_; intro Q7 n7 x7 e7 r7
  refine v_loop (fun i => ⟨[(0, .sl (l.map (V.int .i64))), (1, .sl (l.map (V.int .i64))), (12, .int .i64 l.length), (13, .int .i64 (Nat.cast i))], [], false, 26, 0⟩) (fun i => i ≤ l.length) (fun i => l.length - i) 0 ?_ ?_ ?_
  ·refine weak_of [0, 1, 12, 13] ?_
   simp only [keep_mk, keepE_nil, keepE_cons, look_cons, look_nil, Nat.reduceEqDiff, reduceIte]
   rfl
  ·exact Nat.zero_le _
  ·rintro i hok8 Q8 n8 e8 r8
   have hi1 : i ≤ l.length := hok8
   refine v_seqR [0,1,12,13,14] ?_; intro K9 k9
   refine zBinOp ⟨?_⟩
   refine k9 _ ?_
   refine zk ⟨?_⟩
   refine v_seq ?_; intro Q10 n10 e10 r10
   refine v_condS _ rfl ?_ ?_
   ·intro hc1
    have hlt : i < l.length := by omega
    obtain ⟨x, hx⟩ : ∃ x, l[i]? = some x := ⟨l[i], List.getElem?_eq_getElem hlt⟩
    refine v_skip ?_
    refine n10 _ _ (weak_keep [0, 1, 12, 13] _) ?_
    refine zk ⟨?_⟩
    refine v_seq ?_; intro Q12 n12 e12 r12
    refine v_block ?_; intro Q13 n13 x13 e13 r13
    refine v_seqR [0,1,5,12,13] ?_; intro K14 k14
    have F := Fc.mk (fun f => getD_map (f := f) hx)
    refine zMove ⟨?_⟩
    refine zAssign ⟨?_⟩
    refine k14 _ ?_
    refine zk ⟨?_⟩
    refine v_seq ?_; intro Q15 n15 e15 r15
    refine v_draw (by kernel_rfl) ?_; intro K16 q16 k16
    show aAny _ _ _ _ 9 (Array.replicate 9 false) _
    refine zdMove q16 true 0 16 ?_
    refine zdMove q16 true 1 17 ?_
    refine zdIndexAddr q16 true 2 18 ?_
    refine zdLoad q16 true 3 19 ?_
    refine zdMove q16 true 4 20 ?_
    refine zdMove q16 true 5 21 ?_
    refine zdIndexAddr q16 true 6 22 ?_
    refine zdLoad q16 true 7 23 ?_
    refine zdBinOp q16 true 8 24 ?_
    refine aAny_done (by kernel_rfl) ?_
    refine k16 _ ?_
    refine n15 _ _ (weak_keep [0, 1, 12, 13, 24] _) ?_
    refine zk ⟨?_⟩
    refine v_cond _ rfl ?_ ?_
    ·intro hc2
     exfalso; simp at hc2
    ·intro hc2
     try simp only [zC, reduceCtorEq] at hc2
     refine v_skip ?_
     refine n13 _ ?_
     refine n12 _ _ (weak_keep [0, 1, 12, 13] _) ?_
     refine zk ⟨?_⟩
     refine v_region ?_; intro K18 k18
     refine zBinOpW ⟨?_⟩
     refine zMove ⟨?_⟩
     refine k18 _ ?_
     refine n8 _ (i + 1) ?_ ?_ ?_
     ·refine weak_bothS [0, 1, 12, 13] [] ⟨?_⟩
      rfl
     ·exact hlt
     ·show _ < _; omega
   ·intro hc1
    refine v_exit ?_
    refine e10 _ _ ?_
    refine e8 _ _ ?_
    refine x7 _ ?_
    refine n5 _ _ (weak_keep [] _) ?_
    refine zk ⟨?_⟩
    refine v_seqR [4] ?_; intro K19 k19
    refine zAssign ⟨?_⟩
    refine k19 _ ?_
    refine zk ⟨?_⟩
    refine v_ret ?_
    refine r0 _ ?_
    refine zf ⟨?_⟩
    exact ret_pure rfl rfl (.inl rfl)
set_option maxHeartbeats 1000000 in
theorem qYes_con (l : List (Bool)) (hl : l.length ≤ 1048576) : Con Try.prog 16 [.sl (l.map V.bool), .sl (l.map V.bool)] [] (.bool true) [] := by
 refine v_con [.tmp 4] [] Try.func16 rfl rfl rfl (by simp [Try.ntmps16]) ?_
 intro Q0 n0 r0
 simp only [Try.ntmps16, envFrom, Nat.reduceAdd]
 have T := Tys.mk (And.intro Ty.t3 (And.intro Ty.t4 Ty.t28))
 have F := Fc.mk True.intro
 refine v_seqR [0,1] ?_; intro K1 k1
 refine zAssign ⟨?_⟩
 refine k1 _ ?_
 refine zk ⟨?_⟩
 refine v_seq ?_; intro Q2 n2 e2 r2
 refine v_seqR [0,1,10] ?_; intro K3 k3
 refine zMove ⟨?_⟩
 refine zLen ⟨?_⟩
 refine zMove ⟨?_⟩
 refine zLen ⟨?_⟩
 refine zBinOp ⟨?_⟩
 refine k3 _ ?_
 refine zk ⟨?_⟩
 refine v_cond _ rfl ?_ ?_
 ·intro hc0
  exfalso; simp at hc0
 ·intro hc0
  try simp only [zC, reduceCtorEq] at hc0
  refine v_skip ?_
  refine n2 _ _ (weak_keep [0, 1] _) ?_
  refine zk ⟨?_⟩
  refine v_seq ?_; intro Q5 n5 e5 r5
  refine v_seqR [0,1,12,13] ?_; intro K6 k6
  refine zMove ⟨?_⟩
  refine zLen ⟨?_⟩
  refine zMove ⟨?_⟩
  refine k6 _ ?_
  refine zk ⟨?_⟩
  refine v_block ?_; intro Q7 n7 x7 e7 r7
  refine v_loop (fun i => ⟨[(0, .sl (l.map V.bool)), (1, .sl (l.map V.bool)), (12, .int .i64 l.length), (13, .int .i64 (Nat.cast i))], [], false, 26, 0⟩) (fun i => i ≤ l.length) (fun i => l.length - i) 0 ?_ ?_ ?_
  ·refine weak_of [0, 1, 12, 13] ?_
   simp only [keep_mk, keepE_nil, keepE_cons, look_cons, look_nil, Nat.reduceEqDiff, reduceIte]
   rfl
  ·exact Nat.zero_le _
  ·rintro i hok8 Q8 n8 e8 r8
   have hi1 : i ≤ l.length := hok8
   refine v_seqR [0,1,12,13,14] ?_; intro K9 k9
   refine zBinOp ⟨?_⟩
   refine k9 _ ?_
   refine zk ⟨?_⟩
   refine v_seq ?_; intro Q10 n10 e10 r10
   refine v_condS _ rfl ?_ ?_
   ·intro hc1
    have hlt : i < l.length := by omega
    obtain ⟨x, hx⟩ : ∃ x, l[i]? = some x := ⟨l[i], List.getElem?_eq_getElem hlt⟩
    refine v_skip ?_
    refine n10 _ _ (weak_keep [0, 1, 12, 13] _) ?_
    refine zk ⟨?_⟩
    refine v_seq ?_; intro Q12 n12 e12 r12
    refine v_block ?_; intro Q13 n13 x13 e13 r13
    refine v_seqR [0,1,5,12,13] ?_; intro K14 k14
    have F := Fc.mk (fun f => getD_map (f := f) hx)
    refine zMove ⟨?_⟩
    refine zAssign ⟨?_⟩
    refine k14 _ ?_
    refine zk ⟨?_⟩
    refine v_seq ?_; intro Q15 n15 e15 r15
    refine v_draw (by kernel_rfl) ?_; intro K16 q16 k16
    show aAny _ _ _ _ 9 (Array.replicate 9 false) _
    refine zdMove q16 true 0 16 ?_
    refine zdMove q16 true 1 17 ?_
    refine zdIndexAddr q16 true 2 18 ?_
    refine zdLoad q16 true 3 19 ?_
    refine zdMove q16 true 4 20 ?_
    refine zdMove q16 true 5 21 ?_
    refine zdIndexAddr q16 true 6 22 ?_
    refine zdLoad q16 true 7 23 ?_
    refine zdBinOp q16 true 8 24 ?_
    refine aAny_done (by kernel_rfl) ?_
    refine k16 _ ?_
    refine n15 _ _ (weak_keep [0, 1, 12, 13, 24] _) ?_
    refine zk ⟨?_⟩
    refine v_cond _ rfl ?_ ?_
    ·intro hc2
     exfalso; simp at hc2
    ·intro hc2
     try simp only [zC, reduceCtorEq] at hc2
     refine v_skip ?_
     refine n13 _ ?_
     refine n12 _ _ (weak_keep [0, 1, 12, 13] _) ?_
     refine zk ⟨?_⟩
     refine v_region ?_; intro K18 k18
     refine zBinOpW ⟨?_⟩
     refine zMove ⟨?_⟩
     refine k18 _ ?_
     refine n8 _ (i + 1) ?_ ?_ ?_
     ·refine weak_bothS [0, 1, 12, 13] [] ⟨?_⟩
      rfl
     ·exact hlt
     ·show _ < _; omega
   ·intro hc1
    refine v_exit ?_
    refine e10 _ _ ?_
    refine e8 _ _ ?_
    refine x7 _ ?_
    refine n5 _ _ (weak_keep [] _) ?_
    refine zk ⟨?_⟩
    refine v_seqR [4] ?_; intro K19 k19
    refine zAssign ⟨?_⟩
    refine k19 _ ?_
    refine zk ⟨?_⟩
    refine v_ret ?_
    refine r0 _ ?_
    refine zf ⟨?_⟩
    exact ret_pure rfl rfl (.inl rfl)
theorem u8_all {c : List Int} (h : ∀ a ∈ c, (Lit.int .u8 a).wf = true) : ∀ x ∈ c, 0 ≤ x ∧ x ≤ 255 := by
  intro x hx
  have := h x hx
  simp [Lit.wf, IntKind.min, IntKind.max, IntKind.signed, IntKind.bits] at this
  omega

end Go.Proofs.Ytmlicajgbgjphaa
