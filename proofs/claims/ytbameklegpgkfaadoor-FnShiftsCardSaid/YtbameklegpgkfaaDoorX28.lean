/- What functions compute. No condition. -/
import Derived.Test.YtbameklegpgkfaaDoorUty
import Derived.Test.YtbameklegpgkfaaDoorUmG
import Derived.Test.YtbameklegpgkfaaDoorX18
import Derived.Test.YtbameklegpgkfaaDoorX6
import Derived.Test.YtbameklegpgkfaaDoorX12
import Derived.Test.YtbameklegpgkfaaDoorX4
import Derived.Test.YtbameklegpgkfaaDoorX24
import Derived.Test.YtbameklegpgkfaaDoorX26
set_option linter.unusedSimpArgs false
set_option linter.unusedVariables false
set_option linter.defProp false
namespace Go.Proofs.YtbameklegpgkfaaDoor
open Go Go.Vm

theorem risingFrom_of {lo hi : Int} : ∀ (l : List Int) (p : Option Int), l.Pairwise (· < ·) → (∀ x ∈ l, lo ≤ x ∧ x ≤ hi) → (∀ q, p = some q → ∀ x ∈ l, q < x) → risingFrom lo hi p l = true
  | [], p, _, _, _ => by cases p <;> rfl
  | x :: l, p, hp, hb, hq => by
    rw [List.pairwise_cons] at hp
    have ih := risingFrom_of l (some x) hp.2 (fun y hy => hb y (List.mem_cons_of_mem _ hy)) (fun q e y hy => by cases e; exact hp.1 y hy)
    have hx := hb x (List.mem_cons_self ..)
    have hin : inR x lo hi = true := by simp [inR, hx]
    cases p with
    | none => simp [risingFrom, ih, hin]
    | some q => simp [risingFrom, ih, hin, hq q rfl x (List.mem_cons_self ..)]
theorem breach_none {M : Nat → Int → Bool} : ∀ (l : List (List Int)) (i : Nat), (∀ k s, l[k]? = some s → ∀ x ∈ s, M (i + k) x = true) → breachFrom M i l = none
  | [], _, _ => rfl
  | s :: l, i, h => by
    have h0 := h 0 s rfl
    rw [breachFrom]
    have e : s.find? (fun x => !M i x) = none := by
      rw [List.find?_eq_none]
      intro x hx
      simpa using h0 x hx
    rw [e]
    exact breach_none l (i + 1) fun k t hk x hx => by
      have := h (k + 1) t (by simpa using hk) x hx
      rwa [show i + 1 + k = i + (k + 1) by omega]
theorem open_ge (needs : List Int) : ∀ (d : List (List Int)) (i : Nat) (x : Int), x ∈ openFrom needs i d → (i : Int) ≤ x
  | [], _, x, h => by cases h
  | l :: d, i, x, h => by
    rw [openFrom] at h
    split at h
    · rcases List.mem_cons.1 h with rfl | h
      · exact Int.le_refl _
      · have := open_ge needs d (i + 1) x h; omega
    · have := open_ge needs d (i + 1) x h; omega
theorem open_mem (needs : List Int) : ∀ (d : List (List Int)) (i k : Nat) (l : List Int), d[k]? = some l → (((i + k : Nat) : Int) ∈ openFrom needs i d ↔ (l.length : Int) < needs.getD (i + k) 0)
  | [], _, _, _, h => by simp at h
  | s :: d, i, 0, l, h => by
    simp only [List.getElem?_cons_zero, Option.some.injEq] at h
    subst h
    rw [openFrom, Nat.add_zero]
    by_cases q : (s.length : Int) < needs.getD i 0
    · rw [if_pos q]; exact ⟨fun _ => q, fun _ => List.mem_cons_self ..⟩
    · rw [if_neg q]
      exact ⟨fun h => by have := open_ge needs d (i + 1) _ h; omega, fun h => absurd h q⟩
  | s :: d, i, k + 1, l, h => by
    have ih := open_mem needs d (i + 1) k l (by simpa using h)
    rw [show i + 1 + k = i + (k + 1) by omega] at ih
    rw [openFrom]
    split
    · rw [List.mem_cons]
      exact ⟨fun q => q.elim (fun e => by omega) ih.1, fun q => .inr (ih.2 q)⟩
    · exact ih
theorem open_nil (needs : List Int) : ∀ (d : List (List Int)) (i : Nat), (∀ k s, d[k]? = some s → (s.length : Int) = needs.getD (i + k) 0) → openFrom needs i d = []
  | [], _, _ => rfl
  | s :: d, i, h => by
    have h0 := h 0 s rfl
    rw [Nat.add_zero] at h0
    rw [openFrom, if_neg (by omega)]
    exact open_nil needs d (i + 1) fun k t hk => by
      have := h (k + 1) t (by simpa using hk)
      rwa [show i + 1 + k = i + (k + 1) by omega]
def PM (a b c : Int) (N : List Int) (l : List (List Int)) (i : Nat) : Prop := ∀ (k : Nat) (s : List Int) (n : Int), k < i → l[k]? = some s → N[k]? = some n → (s.length : Int) = n ∧ s.Pairwise (· < ·) ∧ ∀ y ∈ s, (0 ≤ y ∧ y < a) ∧ mayB (l.take k) a b c y = true
theorem mk_good {a b c : Int} (ha : 1 ≤ a ∧ a ≤ 9) (N : List Int) (hn : ∀ x ∈ N, 0 ≤ x) : ∀ (m i : Nat) (l r : List (List Int)), m = N.length - i → i ≤ N.length → l.length = i → PM a b c N l i → makeR (keyS a) (mayS a b c) a.toNat (N.drop i) l = some r → r.length = N.length ∧ PM a b c N r N.length
  | 0, i, l, r, hm, hi, hl, hP, h => by
    have e : i = N.length := by omega
    rw [List.drop_of_length_le (by omega), makeR] at h
    cases h
    subst e
    exact ⟨hl, hP⟩
  | m + 1, i, l, r, hm, hi, hl, hP, h => by
    obtain ⟨n, hx⟩ : ∃ n, N[i]? = some n := ⟨N[i]'(by omega), List.getElem?_eq_getElem (by omega)⟩
    rw [mk_step hx] at h
    split at h
    · cases h
    · rename_i hc
      have hn0 := hn n (List.mem_of_getElem? hx)
      refine mk_good ha N hn m (i + 1) _ r (by omega) (by omega) (by simp [hl]) ?_ h
      intro k s n' hk hs hn'
      by_cases e : k = i
      · subst e
        rw [List.getElem?_append_right (by omega), hl, Nat.sub_self] at hs
        simp only [List.getElem?_cons_zero, Option.some.injEq] at hs
        subst hs
        rw [hx] at hn'
        cases hn'
        have hle : n.toNat ≤ (candTo (mayS a b c l) a.toNat).length := by omega
        refine ⟨by rw [shift_len hle]; omega, shift_rising, fun y hy => ?_⟩
        have h1 := ord_mem.1 (List.mem_of_mem_take (shift_mem.1 hy))
        have h2 := (cand_mem a.toNat y).1 h1
        have e2 : (l ++ [shiftK (keyS a l) (mayS a b c l) a.toNat n.toNat]).take k = l := by rw [List.take_append_of_le_length (by omega), List.take_of_length_le (by omega)]
        rw [e2]
        exact ⟨by omega, h2.2.2⟩
      · have hk' : k < i := by omega
        rw [List.getElem?_append_left (by omega)] at hs
        have := hP k s n' hk' hs hn'
        rw [List.take_append_of_le_length (by omega)]
        exact this
theorem mk_all {a b c : Int} {needs : List Int} (h : mkB2 a b c needs = true) : (1 ≤ a ∧ a ≤ 9) ∧ (dutyB a b c = true ∧ needB needs = true) ∧ (mkR2 a b c needs).length = needs.length ∧ PM a b c needs (mkR2 a b c needs) needs.length := by
  have h0 := h
  rw [mkB2, mkG, Bool.and_eq_true, Bool.and_eq_true] at h
  have hd := duty_in h.1.2
  have ha : 1 ≤ a ∧ a ≤ 9 := ⟨hd.1, hd.2.1⟩
  have hG : mkG a b c needs = true := by rw [mkG, h.1.1, h.1.2]; rfl
  have hsome : ∃ r, mkR a b c needs = some r := Option.isSome_iff_exists.1 h.2
  obtain ⟨r, hr⟩ := hsome
  have e : mkR2 a b c needs = r := by rw [mkR2, hG, orNil, mkL, hr]; rfl
  rw [e]
  have := mk_good ha needs (fun x hx => (need_in h.1.1 x hx).1) needs.length 0 [] r rfl (Nat.zero_le _) rfl (fun k s n hk => absurd hk (Nat.not_lt_zero k)) (by rw [List.drop_zero]; exact hr)
  exact ⟨ha, ⟨h.1.2, h.1.1⟩, this⟩
theorem mk_roster {a b c : Int} {needs : List Int} (h : mkB2 a b c needs = true) : rosterB (mkR2 a b c needs) a = true := by
  obtain ⟨ha, ⟨hd, hn⟩, hl, hP⟩ := mk_all h
  have h21 : needs.length ≤ 21 := by simp only [needB, Bool.and_eq_true, decide_eq_true_eq] at hn; omega
  simp only [rosterB, Bool.and_eq_true, decide_eq_true_eq, List.all_eq_true]
  refine ⟨⟨fun s hs => ?_, ha⟩, by omega⟩
  obtain ⟨k, hk, e⟩ := List.getElem_of_mem hs
  obtain ⟨n, hx⟩ : ∃ n, needs[k]? = some n := ⟨needs[k]'(by omega), List.getElem?_eq_getElem (by omega)⟩
  have hp := hP k s n (by omega) (by rw [List.getElem?_eq_getElem hk, e]) hx
  rw [wrap64 (by omega) (by omega)]
  have := risingFrom_of (lo := 0) (hi := a - 1) s none hp.2.1 (fun y hy => by have := (hp.2.2 y hy).1; omega) (fun q e => by cases e)
  simpa [risingAt] using this
theorem mk_keeps {a b c : Int} {needs : List Int} (h : mkB2 a b c needs = true) : dutyB a b c = true ∧ breachR (mkR2 a b c needs) a b c = none := by
  obtain ⟨ha, ⟨hd, hn⟩, hl, hP⟩ := mk_all h
  refine ⟨hd, ?_⟩
  rw [breachR, hd, mk_roster h]
  show breachOf _ a b c = none
  refine breach_none _ 0 fun k s hk x hx => ?_
  obtain ⟨hkl, e⟩ := List.getElem?_eq_some_iff.1 hk
  obtain ⟨n, hxn⟩ : ∃ n, needs[k]? = some n := ⟨needs[k]'(by omega), List.getElem?_eq_getElem (by omega)⟩
  rw [Nat.zero_add]
  exact ((hP k s n (by omega) hk hxn).2.2 x hx).2
theorem mk_at {a b c : Int} {needs : List Int} (h : mkB2 a b c needs = true) {k : Nat} {s : List Int} (hk : (mkR2 a b c needs)[k]? = some s) : ∃ n, needs[k]? = some n ∧ (s.length : Int) = n := by
  obtain ⟨ha, ⟨hd, hn⟩, hl, hP⟩ := mk_all h
  obtain ⟨hkl, e⟩ := List.getElem?_eq_some_iff.1 hk
  obtain ⟨n, hxn⟩ : ∃ n, needs[k]? = some n := ⟨needs[k]'(by omega), List.getElem?_eq_getElem (by omega)⟩
  exact ⟨n, hxn, (hP k s n (by omega) hk hxn).1⟩
theorem mk_open {a b c : Int} {needs : List Int} (h : mkB2 a b c needs = true) : openB (mkR2 a b c needs) a needs = true ∧ openR (mkR2 a b c needs) a needs = [] := by
  obtain ⟨ha, ⟨hd, hn⟩, hl, hP⟩ := mk_all h
  have hB : openB (mkR2 a b c needs) a needs = true := by
    rw [openB, mk_roster h, hn, decide_eq_true (by omega)]; rfl
  refine ⟨hB, ?_⟩
  rw [openR, if_pos hB]
  refine open_nil needs _ 0 fun k s hk => ?_
  obtain ⟨n, hxn, e⟩ := mk_at h hk
  rw [Nat.zero_add, List.getD_eq_getElem?_getD, hxn]
  exact e
theorem fewK_spec {ok : Nat → Bool} : ∀ (k p : Nat), k ≤ 9 → fewK ok k = some p → ok p = true ∧ (10 - k ≤ p ∧ p ≤ 9) ∧ ∀ q, 10 - k ≤ q → q < p → ok q = false
  | 0, _, _, h => by cases h
  | k + 1, p, hk, h => by
    rw [fewK] at h
    split at h
    · rename_i ho
      cases h
      exact ⟨ho, by omega, fun q h1 h2 => by omega⟩
    · rename_i ho
      obtain ⟨a1, a2, a3⟩ := fewK_spec k p (by omega) h
      refine ⟨a1, by omega, fun q h1 h2 => ?_⟩
      by_cases e : q = 9 - k
      · subst e; simpa using ho
      · exact a3 q (by omega) h2
theorem few_good {b c : Int} {needs : List Int} (h : (few b c needs).isSome = true) : mkB2 (fewI (few b c needs)) b c needs = true ∧ (1 ≤ fewI (few b c needs) ∧ fewI (few b c needs) ≤ 9) ∧ (1 < fewI (few b c needs) → mkB2 (fewI (few b c needs) - 1) b c needs = false) := by
  obtain ⟨p, hp⟩ := Option.isSome_iff_exists.1 h
  rw [hp]
  show mkB2 (p : Int) b c needs = true ∧ (1 ≤ (p : Int) ∧ (p : Int) ≤ 9) ∧ (1 < (p : Int) → mkB2 ((p : Int) - 1) b c needs = false)
  rw [few] at hp
  split at hp
  · rename_i hG
    obtain ⟨a1, a2, a3⟩ := fewK_spec 9 p (Nat.le_refl _) hp
    refine ⟨by rw [mkB2, mkG_any (by omega), hG, a1]; rfl, by omega, fun h1 => ?_⟩
    obtain ⟨q, rfl⟩ : ∃ q, p = q + 1 := ⟨p - 1, by omega⟩
    have := a3 q (by omega) (by omega)
    rw [show ((q + 1 : Nat) : Int) - 1 = (q : Int) by omega, mkB2]
    rw [this, Bool.and_false]
  · cases hp
theorem open_has {d : List (List Int)} {n : Int} {c : List Int} (h : openB d n c = true) {k : Nat} {l : List Int} (hk : d[k]? = some l) : ∃ z, c[k]? = some z ∧ ((k : Int) ∈ openR d n c ↔ (l.length : Int) < z) := by
  have h2 := h
  simp only [openB, Bool.and_eq_true, decide_eq_true_eq] at h
  obtain ⟨hkl, e⟩ := List.getElem?_eq_some_iff.1 hk
  obtain ⟨z, hz⟩ : ∃ z, c[k]? = some z := ⟨c[k]'(by omega), List.getElem?_eq_getElem (by omega)⟩
  refine ⟨z, hz, ?_⟩
  have := open_mem c d 0 k l hk
  rw [Nat.zero_add, List.getD_eq_getElem?_getD, hz] at this
  rw [openR, if_pos h2]
  exact this

set_option maxHeartbeats 1000000 in
theorem qLists_con (d : List (List Int)) (hd : d.length ≤ 1048576) (hds : ∀ l ∈ d, l.length ≤ 1048576) : Con Tryd.prog 20 [.sl (d.map fun l => V.sl (l.map (V.int .i64))), .sl (d.map fun l => V.sl (l.map (V.int .i64)))] [] (.bool true) [] := by
 refine v_con [.tmp 4] [] Tryd.func20 rfl rfl rfl (by simp [Tryd.ntmps20]) ?_
 intro Q0 n0 r0
 simp only [Tryd.ntmps20, envFrom, Nat.reduceAdd]
 have T := Tys.mk (And.intro Ty.t3 (And.intro Ty.t4 (And.intro Ty.t23 Ty.t36)))
 have F := Fc.mk True.intro
 refine v_seqR [0,1] ?_; intro K1 k1
 refine zAssign ⟨?_⟩
 refine k1 _ ?_
 refine zk ⟨?_⟩
 refine v_seq ?_; intro Q2 n2 e2 r2
 refine v_seqR [0,1,10] ?_; intro K3 k3
 refine zMove ⟨?_⟩
 refine zLen ⟨?_⟩
 refine zMove ⟨?_⟩
 refine zLen ⟨?_⟩
 refine zBinOp ⟨?_⟩
 refine k3 _ ?_
 refine zk ⟨?_⟩
 refine v_cond _ rfl ?_ ?_
 ·intro hc0
  exfalso; simp at hc0
 ·intro hc0
  try simp only [zC, reduceCtorEq] at hc0
  refine v_skip ?_
  refine n2 _ _ (weak_keep [0, 1] _) ?_
  refine zk ⟨?_⟩
  refine v_seq ?_; intro Q5 n5 e5 r5
  refine v_seqR [0,1,12,13] ?_; intro K6 k6
  refine zMove ⟨?_⟩
  refine zLen ⟨?_⟩
  refine zMove ⟨?_⟩
  refine k6 _ ?_
  refine zk ⟨?_⟩
  refine v_block ?_; intro Q7 n7 x7 e7 r7
  refine v_loop (fun i => ⟨[(0, .sl (d.map fun l => V.sl (l.map (V.int .i64)))), (1, .sl (d.map fun l => V.sl (l.map (V.int .i64)))), (12, .int .i64 d.length), (13, .int .i64 (Nat.cast i))], [], false, 27, 0⟩) (fun i => i ≤ d.length) (fun i => d.length - i) 0 ?_ ?_ ?_
  ·refine weak_of [0, 1, 12, 13] ?_
   simp only [keep_mk, keepE_nil, keepE_cons, look_cons, look_nil, Nat.reduceEqDiff, reduceIte]
   rfl
  ·exact Nat.zero_le _
  ·rintro i hok8 Q8 n8 e8 r8
   have hi1 : i ≤ d.length := hok8
   refine v_seqR [0,1,12,13,14] ?_; intro K9 k9
   refine zBinOp ⟨?_⟩
   refine k9 _ ?_
   refine zk ⟨?_⟩
   refine v_seq ?_; intro Q10 n10 e10 r10
   refine v_condS _ rfl ?_ ?_
   ·intro hc1
    have hlt : i < d.length := by omega
    obtain ⟨x, hx⟩ : ∃ x, d[i]? = some x := ⟨d[i], List.getElem?_eq_getElem hlt⟩
    have hlx := hds x (List.mem_of_getElem? hx)
    refine v_skip ?_
    refine n10 _ _ (weak_keep [0, 1, 12, 13] _) ?_
    refine zk ⟨?_⟩
    refine v_seq ?_; intro Q12 n12 e12 r12
    refine v_block ?_; intro Q13 n13 x13 e13 r13
    refine v_seqR [0,1,5,12,13] ?_; intro K14 k14
    have F := Fc.mk (fun f => getD_map (f := f) hx)
    refine zMove ⟨?_⟩
    refine zAssign ⟨?_⟩
    refine k14 _ ?_
    refine zk ⟨?_⟩
    refine v_seq ?_; intro Q15 n15 e15 r15
    refine v_draw (by kernel_rfl) ?_; intro K16 q16 k16
    show aAny _ _ _ _ 10 (Array.replicate 10 false) _
    refine zdMove q16 true 0 16 ?_
    refine zdMove q16 true 1 17 ?_
    refine zdIndexAddr q16 true 2 18 ?_
    refine zdLoad q16 true 3 19 ?_
    refine zdMove q16 true 4 20 ?_
    refine zdMove q16 true 5 21 ?_
    refine zdIndexAddr q16 true 6 22 ?_
    refine zdLoad q16 true 7 23 ?_
    refine zoc 8 (qInts_con x hlx) ⟨?_⟩
    refine zdUnOp q16 true 9 25 ?_
    refine aAny_done (by kernel_rfl) ?_
    refine k16 _ ?_
    refine n15 _ _ (weak_keep [0, 1, 12, 13, 25] _) ?_
    refine zk ⟨?_⟩
    refine v_cond _ rfl ?_ ?_
    ·intro hc2
     exfalso; simp at hc2
    ·intro hc2
     try simp only [zC, reduceCtorEq] at hc2
     refine v_skip ?_
     refine n13 _ ?_
     refine n12 _ _ (weak_keep [0, 1, 12, 13] _) ?_
     refine zk ⟨?_⟩
     refine v_region ?_; intro K18 k18
     refine zBinOpW ⟨?_⟩
     refine zMove ⟨?_⟩
     refine k18 _ ?_
     refine n8 _ (i + 1) ?_ ?_ ?_
     ·refine weak_bothS [0, 1, 12, 13] [] ⟨?_⟩
      rfl
     ·exact hlt
     ·show _ < _; omega
   ·intro hc1
    refine v_exit ?_
    refine e10 _ _ ?_
    refine e8 _ _ ?_
    refine x7 _ ?_
    refine n5 _ _ (weak_keep [] _) ?_
    refine zk ⟨?_⟩
    refine v_seqR [4] ?_; intro K19 k19
    refine zAssign ⟨?_⟩
    refine k19 _ ?_
    refine zk ⟨?_⟩
    refine v_ret ?_
    refine r0 _ ?_
    refine zf ⟨?_⟩
    exact ret_pure rfl rfl (.inl rfl)
def dropOw (ow : Ow) (id : Nat) : Ow := fun b => match ow b with
  | some (r, j) => if j = id then none else some (r, j)
  | none => none
theorem dropOw_ne {ow : Ow} {id b : Nat} (h : dropOw ow id b ≠ none) : ow b ≠ none := fun e => h (by simp [dropOw, e])
theorem dropOw_keep {ow : Ow} {id b j : Nat} {r : Bool} (h : ow b = some (r, j)) (hj : j ≠ id) : dropOw ow id b = ow b := by simp [dropOw, h, hj]
theorem dropOw_in {ow : Ow} {id b : Nat} {r : Bool} (h : ow b = some (r, id)) : dropOw ow id b = none := by simp [dropOw, h]
theorem vok_drop {cx : Cx} {ow : Ow} {vw : Bool} {b : Nat} (id : Nat) (h : VOK cx ow vw b) : VOK cx (dropOw ow id) vw b := by
  refine ⟨?_, h.2⟩
  rcases h.1 with e | ⟨v, j, e⟩
  · exact .inl (by simp [dropOw, e])
  · by_cases q : j = id
    · exact .inl (by subst q; exact dropOw_in e)
    · exact .inr ⟨v, j, by rw [dropOw_keep e q]; exact e⟩
theorem row_drop {cx : Cx} {w : World} {μ : Nat → Option Vm.Loc} {ow : Ow} {vw : Bool} {id j : Nat} {xs : List V} {k : Kd} (hj : j ≠ id) (h : RowOK cx w μ ow vw j xs k) : RowOK cx w μ (dropOw ow id) vw j xs k := by
  obtain ⟨l, h1, h2, h3⟩ := h
  refine ⟨l, h1, h2, h3.imp (fun z => z) fun ⟨a1, a2, bl, a3, a4, a5⟩ => ⟨a1, (dropOw_keep a2 hj).trans a2, bl, a3, ?_, a5⟩⟩
  cases k with
  | flat => exact a4
  | thin => exact a4
  | deep => exact ⟨a4.1, fun b hb => (dropOw_keep (a4.2 b hb) hj).trans (a4.2 b hb)⟩
  | shal => exact fun b hb => vok_drop id (a4 b hb)
  | mix => exact fun b hb => vok_drop id (a4 b hb)
/-- AN OWNED ROW IS GIVEN UP: from here on it is only read. -/
theorem weak_giveup {m : Nat} {s : St} (t i : Nat) (xs : List V) (k : Kd) (ht : s.get t = .ref i) (hO : s.O[i]? = some (.arr xs k)) (hk : k = .flat ∨ k = .deep ∨ k = .thin) : Weak m s { s with env := (t, .sl xs) :: s.env, O := s.O.set i .dead } := by
  intro cx a w μ ow hmu h
  have hli : i < s.O.length := (List.getElem?_eq_some_iff.1 hO).1
  have htc : takeCell s (.ref i) = some (.sl xs, [i], false) := by
    simp only [takeCell, St.row, hO, Option.bind_some, Blk.row]
    rcases hk with e | e | e <;> subst e <;> rfl
  refine ⟨μ, dropOw ow i, h.dfr, h.sz, fun t2 => ?_, fun j bk e => ?_, fun j hj => h.dom j (by rwa [List.length_set] at hj), fun b hb => h.owl b (dropOw_ne hb), fun b hb => h.own b (dropOw_ne hb), h.frm, h.mu⟩
  · obtain ⟨bl, r1, r2⟩ := h.env t2
    show ∃ bl, Rep w μ (Vm.look t2 ((t, V.sl xs) :: s.env)) _ bl ∧ _
    rw [look_cons]
    by_cases q : t2 = t
    · subst q
      rw [if_pos rfl]
      rw [ht] at r1
      obtain ⟨bl', t1, _, _, t4, _⟩ := takeCell_rep h.sup r1 r2 htc
      obtain ⟨_, own⟩ := t4 rfl
      refine ⟨bl', t1.keep (MLe.zero μ) fun _ _ => rfl, fun b hb => ?_⟩
      obtain ⟨j, hj, r, e⟩ := own b hb
      rw [List.mem_singleton] at hj
      subst hj
      exact ⟨.inl (dropOw_in e), .inr (h.own b (by rw [e]; simp))⟩
    · rw [if_neg q]
      exact ⟨bl, r1, fun b hb => vok_drop i (r2 b hb)⟩
  · have e2 : (s.O.set i .dead)[j]? = some bk := e
    by_cases q : j = i
    · subst q
      rw [List.getElem?_set_self hli] at e2
      simp only [Option.some.injEq] at e2
      subst e2
      trivial
    · rw [List.getElem?_set_ne (fun z => q z.symm)] at e2
      have := h.blk j bk e2
      cases bk with
      | dead => trivial
      | arr ys k2 => exact row_drop q this
      | box y k2 => exact row_drop q this

end Go.Proofs.YtbameklegpgkfaaDoor
