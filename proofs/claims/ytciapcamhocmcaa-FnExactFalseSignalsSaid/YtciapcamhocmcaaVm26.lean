/- The value machine, part 26: a row of which only the head is still named; rows that may be empty in memory. -/
import Derived.Test.YtciapcamhocmcaaVm22
set_option linter.unusedSimpArgs false
set_option linter.unusedVariables false
namespace Go.Vm
open Go

theorem fillK_thin (i : Nat) : (fillK i ≠ .thin) = True := by unfold fillK; split <;> simp

/-- A flat row told as a thin one. -/
theorem weak_thin {m : Nat} {s : St} (id : Nat) (xs : List V) (hO : s.O[id]? = some (.arr xs .flat)) : Weak m s { s with O := s.O.set id (.arr xs .thin) } := by
  intro cx a w μ ow hmu h
  have hlid : id < s.O.length := by
    rcases Nat.lt_or_ge id s.O.length with q | q
    · exact q
    · rw [List.getElem?_eq_none q] at hO; cases hO
  refine ⟨μ, ow, h.mut (O' := s.O.set id (.arr xs .thin)) (fun _ => False) (MLe.refl μ) (fun j hj => h.dom j (by rwa [List.length_set] at hj)) (Nat.le_refl _) (fun _ _ _ => rfl) rfl rfl rfl (fun _ _ => rfl)
    (fun _ _ e => e) (fun b j e => .inr ⟨j, e⟩) (fun j bk e => ?_) h.owl (fun b hb => .inl hb)⟩
  by_cases hj : j = id
  · subst hj
    rw [List.getElem?_set_self hlid] at e
    simp only [Option.some.injEq] at e
    subst e
    right
    obtain ⟨l, q1, q2, q3⟩ := h.blk j _ hO
    refine ⟨l, q1, q2, ?_⟩
    rcases q3 with q3 | ⟨q3, q4, bl, q5, q6, q7⟩
    · exact .inl q3
    · exact .inr ⟨q3, q4, bl, q5, q6, fun q => absurd rfl q⟩
  · left
    rw [List.getElem?_set_ne (fun q => hj q.symm)] at e
    exact ⟨e, fun q => q, fun _ _ _ => rfl⟩

/-- The slot named by t gets this value. -/
def atSlot (t : Nat) (v : V) (l : List (Nat × V)) : List (Nat × V) := l.map fun p => if p.1 = t then (p.1, v) else p

theorem look_atSlot (t : Nat) (v : V) : ∀ (l : List (Nat × V)) (k : Nat), (look t l ≠ .any ∨ k ≠ t) → look k (atSlot t v l) = if k = t then v else look k l
  | [], k, h => by
    rcases h with h | h
    · exact absurd rfl h
    · simp [atSlot, look, h]
  | (j, x) :: l, k, h => by
    show look k ((if j = t then (j, v) else (j, x)) :: atSlot t v l) = _
    by_cases hj : j = t
    · subst hj
      rw [if_pos rfl, look_cons, look_cons]
      by_cases hk : k = j
      · rw [if_pos hk, if_pos hk]
      · rw [if_neg hk, if_neg hk, if_neg hk, look_atSlot j v l k (.inr hk), if_neg hk]
    · rw [if_neg hj, look_cons, look_cons]
      by_cases hk : k = j
      · rw [if_pos hk, if_pos hk, if_neg (fun q => hj (hk ▸ q))]
      · rw [if_neg hk, if_neg hk]
        refine look_atSlot t v l k ?_
        rcases h with h | h
        · rw [look_cons] at h
          by_cases ht : t = j
          · exact absurd ht.symm hj
          · rw [if_neg ht] at h; exact .inl h
        · exact .inr h

/-- Only the head of a row is still named: by one slot. -/
theorem weak_narrow {m : Nat} {s : St} (id n t : Nat) (xs : List V) (k : Kd) (hm : m ≤ id) (hO : s.O[id]? = some (.arr xs k)) (hk : k = .flat ∨ k = .thin) (hmix : ∀ bk ∈ s.O, bk.kindIs (fun k => k != .mix) = true)
    (ht : s.get t = .sub id 0 n) (he : ∀ p ∈ s.env, p.1 = t ∨ p.2.only (fun j => j != id) = true) :
    Weak m s { s with env := atSlot t (.ref id) s.env, O := s.O.set id (.arr (xs.take n) .thin) } := by
  intro cx a w μ ow hmu h
  have hlid : id < s.O.length := by
    rcases Nat.lt_or_ge id s.O.length with q | q
    · exact q
    · rw [List.getElem?_eq_none q] at hO; cases hO
  obtain ⟨bt, rt, _⟩ := h.env t
  rw [ht] at rt
  -- the new place
  have key : ∃ l' : Loc, Hd l' (a.tmps.getD t undef) ∧ l'.n = (xs.take n).length ∧ ((l'.real = false ∧ xs.take n = []) ∨ (l'.real = true ∧ ow l'.b = some (true, id) ∧ ∃ bl, Cells w M0 l' (xs.take n) bl ∧ bl = [])) := by
    obtain ⟨l, q1, q2, q3⟩ := h.blk id _ hO
    have hmu0 : k.mu μ = M0 := by rcases hk with e | e <;> subst e <;> rfl
    generalize a.tmps.getD t undef = x at rt
    cases rt with
    | sub0 _ _ l2 q hl hn => exact ⟨⟨0, 0, 0, 0, 0, false⟩, .nil q rfl rfl, by simp, .inl ⟨rfl, by simp⟩⟩
    | sub _ _ _ l2 hl hr hn =>
      rw [hl] at q1
      obtain rfl := Option.some.inj q1
      rcases q3 with ⟨q3, _⟩ | ⟨q3, q4, bl, q5, q6, q7⟩
      · rw [hr] at q3; cases q3
      · rw [hmu0] at q5
        have hbl : bl = [] := by rcases hk with e | e <;> subst e <;> exact q6
        subst hbl
        have hlen : (xs.take n).length = n := by rw [List.length_take]; omega
        obtain ⟨c0, c1, c2, c, tc, vs, c4, c5, c6, c7, c8⟩ := q5
        refine ⟨{ l2 with n := n }, ?_, hlen.symm, .inr ⟨hr, q4, [], ⟨by show n ≤ l2.cap; omega, c1, fun x hx => c2 x (List.mem_of_mem_take hx), c, tc, vs.take (n * l2.sz), c4, c5, ?_, fun v hv => c7 v (List.mem_of_mem_take hv), fun j x hj => ?_⟩, rfl⟩⟩
        · have := Hd.real (l := { l2 with n := n }) hr
          simpa using this
        · rw [flatMap_take _ l2.sz c2]
          obtain ⟨b', p1, p2⟩ := c6.take (n * l2.sz)
          have : b' = [] := List.eq_nil_iff_forall_not_mem.2 fun b hb => by simpa using p2 b hb
          subst this
          exact p1
        · have hjl : j < n * l2.sz := by
            rcases Nat.lt_or_ge j (n * l2.sz) with q | q
            · exact q
            · rw [List.getElem?_eq_none (by rw [List.length_take]; omega)] at hj; cases hj
          rw [List.getElem?_take_of_lt hjl] at hj
          exact c8 j x hj
  obtain ⟨l', hhd, hn', hl'⟩ := key
  let μ' : Nat → Option Loc := fun j => if j = id then some l' else μ j
  have hother : ∀ j l, (j != id) = true → μ j = some l → μ' j = some l := by
    intro j l hj e
    have : ¬ j = id := by simpa using hj
    simp [μ', this, e]
  refine ⟨μ', ow, h.dfr, h.sz, fun k' => ?_, fun j bk e => ?_, fun j hj => ?_, h.owl, h.own, h.frm, fun j l e => ?_⟩
  · show ∃ bl, Rep w μ' (look k' (atSlot t (.ref id) s.env)) _ bl ∧ _
    have hne : look t s.env ≠ .any := by
      have : look t s.env = .sub id 0 n := ht
      rw [this]; simp
    rw [look_atSlot t _ s.env k' (.inl hne)]
    by_cases hkt : k' = t
    · subst hkt
      rw [if_pos rfl]
      exact ⟨[], .ref id l' _ (by simp [μ']) hhd, by simp⟩
    · rw [if_neg hkt]
      obtain ⟨bl, r1, r2⟩ := h.env k'
      refine ⟨bl, Rep.only (p := fun j => j != id) hother r1 ?_, r2⟩
      have : ∀ l : List (Nat × V), (∀ p ∈ l, p.1 = t ∨ p.2.only (fun j => j != id) = true) → (look k' l).only (fun j => j != id) = true := by
        intro l
        induction l with
        | nil => intro _; simp [look, V.only]
        | cons p l ih =>
          intro hl
          obtain ⟨j, x⟩ := p
          rw [look_cons]
          by_cases hkj : k' = j
          · rw [if_pos hkj]
            rcases hl (j, x) (List.mem_cons_self ..) with q | q
            · exact absurd (hkj.trans q) hkt
            · exact q
          · rw [if_neg hkj]
            exact ih fun p hp => hl p (List.mem_cons_of_mem _ hp)
      exact this s.env he
  · by_cases hj : j = id
    · subst hj
      have e' : (s.O.set j (.arr (xs.take n) .thin))[j]? = some bk := e
      rw [List.getElem?_set_self hlid] at e'
      simp only [Option.some.injEq] at e'
      subst e'
      refine ⟨l', by simp [μ'], hn', ?_⟩
      rcases hl' with q | ⟨q1, q2, bl, q3, q4⟩
      · exact .inl q
      · exact .inr ⟨q1, q2, bl, q3, q4, fun q => absurd rfl q⟩
    · have e' : (s.O.set id (.arr (xs.take n) .thin))[j]? = some bk := e
      rw [List.getElem?_set_ne (fun q => hj q.symm)] at e'
      have hb := h.blk j bk e'
      have hnm := hmix bk (List.mem_of_getElem? e')
      have row : ∀ ys k, k ≠ .mix → RowOK cx w μ ow s.vw j ys k → RowOK cx w μ' ow s.vw j ys k := by
        intro ys k hkm ⟨l, q1, q2, q3⟩
        refine ⟨l, hother j l (by simpa using hj) q1, q2, ?_⟩
        rcases q3 with q3 | ⟨q3, q4, bl, q5, q6, q7⟩
        · exact .inl q3
        · exact .inr ⟨q3, q4, bl, by rw [mu_ne_mix hkm]; rw [mu_ne_mix hkm] at q5; exact q5, q6, q7⟩
      cases bk with
      | dead => trivial
      | arr ys k => exact row ys k (by simpa [Blk.kindIs] using hnm) hb
      | box y k => exact row [y] k (by simpa [Blk.kindIs] using hnm) hb
  · have hj' : s.O.length ≤ j := by simpa using hj
    have : ¬ j = id := by omega
    simp only [μ', this, if_false]
    exact h.dom j hj'
  · have hlt : j < m := by
      rcases Nat.lt_or_ge j m with q | q
      · exact q
      · rw [hmu j q] at e; cases e
    have : ¬ j = id := by omega
    simp only [μ', this, if_false]
    exact h.mu j l e

/-- The head of an owned row, kept. -/
theorem atSlot_cons (t k : Nat) (v x : V) (l : List (Nat × V)) : atSlot t v ((k, x) :: l) = (if k = t then (k, v) else (k, x)) :: atSlot t v l := rfl
theorem atSlot_nil (t : Nat) (v : V) : atSlot t v [] = [] := rfl

/-- A whole row told as a part of itself. -/
theorem weak_whole {m : Nat} {s : St} (id t : Nat) (xs : List V) (k : Kd) (hO : s.O[id]? = some (.arr xs k)) (ht : s.get t = .ref id) : Weak m s { s with env := atSlot t (.sub id 0 xs.length) s.env } := by
  intro cx a w μ ow hmu h
  refine ⟨μ, ow, h.dfr, h.sz, fun k' => ?_, h.blk, h.dom, h.owl, h.own, h.frm, h.mu⟩
  show ∃ bl, Rep w μ (look k' (atSlot t (.sub id 0 xs.length) s.env)) _ bl ∧ _
  have hne : look t s.env ≠ .any := by
    have : look t s.env = .ref id := ht
    rw [this]; simp
  rw [look_atSlot t _ s.env k' (.inl hne)]
  by_cases hkt : k' = t
  · subst hkt
    rw [if_pos rfl]
    obtain ⟨bl, r1, _⟩ := h.env k'
    rw [ht] at r1
    obtain ⟨l, q1, q2, q3⟩ := h.blk id _ hO
    refine ⟨[], ?_, by simp⟩
    generalize a.tmps.getD k' undef = x at r1
    cases r1 with
    | ref _ l2 _ hl hd =>
      rw [hl] at q1
      obtain rfl := Option.some.inj q1
      cases hd with
      | real hr =>
        have := Rep.sub (w := w) (μ := μ) id 0 xs.length l2 hl hr (by omega)
        rw [Nat.zero_mul, Nat.add_zero, Nat.sub_zero, ← q2] at this
        rw [← q2]
        exact this
      | nil q hf h0 =>
        have : xs.length = 0 := by omega
        rw [this]
        exact .sub0 id 0 l2 q hl (Nat.zero_le _)
  · rw [if_neg hkt]
    exact h.env k'

/-- A part of a lent row is returned. -/
theorem ret_lent_sub {s : St} {m id lo n : Nat} {r : V} {O' : List Blk} (hid : id < m) (hm : m ≤ s.O.length) (e : V.sub id lo n = r) (hO : s.O.take m = O') (hk : ∀ bk ∈ O', bk.kindIs (fun k => k != .shal && k != .mix) = true) :
    RetOK m s (.sub id lo n) r O' := by
  subst e
  refine ⟨⟨?_, by simp [refsOf, refs2, refs1], hm⟩, ?_, by simp [refsOf, refs2, refs1, hO], fun bk hb => ?_, .inr ⟨rfl, hk⟩⟩
  · simp [V.only]; left; exact hid
  · simp [V.ren, outNo, hid]
  · have := hk bk hb
    cases bk with
    | dead => simp [Blk.kindIs] at this ⊢
    | arr xs k => cases k <;> simp_all [Blk.kindIs]
    | box x k => cases k <;> simp_all [Blk.kindIs]

/-- A new slice is returned. -/
theorem ret_refK {s : St} {k : Nat} {xs ys : List V} {kd : Kd} (hO : s.O[k]? = some (.arr xs kd)) (hk : (kd != .shal && kd != .mix) = true) (e : xs = ys) : RetOK 0 s (.ref k) (.ref 0) [.arr ys kd] := by
  subst e
  have hf : (refsOf (.ref k)).filter (fun id => Nat.ble 0 id) = [k] := by simp [refsOf, refs2, refs1]
  unfold RetOK
  simp only [hf]
  simp only [Bool.and_eq_true] at hk
  refine ⟨⟨by simp [V.only, idx], by simp, Nat.zero_le _⟩, by simp [V.ren, outNo, idx], by simp [hO], ?_, .inr ⟨by simp [V.clean, V.noSl], ?_⟩⟩
  · intro bk hb
    rw [List.mem_singleton] at hb
    subst hb
    exact hk.2
  · intro bk hb
    rw [List.mem_singleton] at hb
    subst hb
    show (kd != .shal && kd != .mix) = true
    rw [hk.1, hk.2]; rfl

/-- A new slice is returned, and a plain value. -/
theorem ret_refK_tup {s : St} {k : Nat} {xs ys : List V} {kd : Kd} {v : V} (hv : v.only (fun _ => false) = true) (hc : v.noSl = true) (hO : s.O[k]? = some (.arr xs kd)) (hk : (kd != .shal && kd != .mix) = true) (e : xs = ys) :
    RetOK 0 s (.tup [.ref k, v]) (.tup [.ref 0, v]) [.arr ys kd] := by
  subst e
  have hr : refs2 v = [] := refs2_only hv
  have hf : (refsOf (.tup [.ref k, v])).filter (fun id => Nat.ble 0 id) = [k] := by
    show List.filter _ (refs2 (.ref k) ++ (refs2 v ++ [])) = [k]
    rw [hr]; simp [refs2, refs1]
  unfold RetOK
  simp only [hf]
  simp only [Bool.and_eq_true] at hk
  refine ⟨⟨by simp [V.only, V.onlyL, idx]; exact only_mono (by simp) hv, by simp, Nat.zero_le _⟩, by simp [V.ren, V.renL, outNo, idx]; exact (ren_only (by simp) hv).symm, by simp [hO], ?_, .inr ⟨by show (V.noSl (.ref k) && (V.noSl v && true)) = true; rw [hc]; rfl, ?_⟩⟩
  · intro bk hb
    rw [List.mem_singleton] at hb
    subst hb
    exact hk.2
  · intro bk hb
    rw [List.mem_singleton] at hb
    subst hb
    show (kd != .shal && kd != .mix) = true
    rw [hk.1, hk.2]; rfl

/-- A contract that promises less of its new row. -/
theorem Con.thin {P : Program} {f : FuncId} {args : List V} {r : V} {xs : List V} (h : Con P f args [] r [.arr xs .flat]) : Con P f args [] r [.arr xs .thin] := by
  refine ⟨h.1, fun w vals μ ow vis hi => (h.2 w vals μ ow vis hi).mono ?_⟩
  rintro e w' ⟨v, μ', ow', he, hout⟩
  refine ⟨v, μ', ow', he, hout.rep, fun id bk hb => ?_, ?_, hout.same, hout.len, hout.dom, hout.owl, hout.own, hout.frm⟩
  · cases id with
    | zero =>
      simp only [List.getElem?_cons_zero, Option.some.injEq] at hb
      subst hb
      obtain ⟨l, q1, q2, q3⟩ := hout.blk 0 (.arr xs .flat) rfl
      refine ⟨l, q1, q2, ?_⟩
      rcases q3 with q3 | ⟨q3, q4, bl, q5, q6, q7⟩
      · exact .inl q3
      · exact .inr ⟨q3, q4, bl, q5, q6, fun q => absurd rfl q⟩
    | succ n => simp at hb
  · intro bk hb
    rw [List.mem_singleton] at hb
    subst hb
    rfl

theorem join_t : kdJoin .thin false false = some .thin := rfl
theorem thin_mix : (Kd.thin != Kd.mix) = true := rfl
theorem shal_mix : (Kd.shal != Kd.mix) = true := rfl
theorem nil_eql : (BinOp.eql == BinOp.neq) = false := rfl
theorem nil_neq : (BinOp.neq == BinOp.neq) = true := rfl

/-- What a function value has caught: nothing of the call's own. -/
structure Caps (caps : List V) : Prop where
  cc : ∀ s ls, toCells s ls caps = some caps
  ca : ∀ s, toArgs s [] caps = some caps
  cn : ∀ p, V.onlyL p caps = true
  cr : ∀ ρ, V.renL ρ caps = caps
theorem Caps.nil : Caps [] := ⟨fun _ _ => rfl, fun _ => rfl, fun _ => by simp [V.onlyL], fun _ => rfl⟩
theorem Caps.pv {caps : List V} (xs : List V) (h : Caps caps) : Caps (.pv xs 0 0 :: caps) :=
  ⟨fun s ls => by simp [toCells, toCell, h.cc], fun s => by simp [toArgs, toArg, toCell, h.ca], fun p => by simp [V.onlyL, V.only, h.cn], fun ρ => by simp [V.renL, V.ren, h.cr]⟩

theorem weak_eq {m : Nat} {s : St} (s' : St) (e : s = s') : Weak m s s' := e ▸ weak_refl m s

theorem rho_one (id n : Nat) : rho [id] n 0 = id := rfl
theorem take_map_len {α : Type} (f : α → V) (l : List α) (r : List V) : (l.map f ++ r).take l.length = l.map f := List.take_left' (List.length_map ..)

/-- A variable that names an owned row: the row becomes the variable's own. -/
theorem weak_freeze {m : Nat} {s : St} (b id : Nat) (xs : List V) (k : Kd) (hb : s.O[b]? = some (.box (.ref id) .mix)) (hO : s.O[id]? = some (.arr xs k)) (hk : k = .flat ∨ k = .deep ∨ k = .thin) (hne : b ≠ id) :
    Weak m s { s with O := (s.O.set b (.box (.sl xs) .deep)).set id .dead } := by
  intro cx a w μ ow hmu h
  have hlb : b < s.O.length := by
    rcases Nat.lt_or_ge b s.O.length with q | q
    · exact q
    · rw [List.getElem?_eq_none q] at hb; cases hb
  have ht : takeCell s (.ref id) = some (.sl xs, [id], false) := by
    simp only [takeCell, St.row, hO, Option.bind_some, Blk.row]
    rcases hk with e | e | e <;> subst e <;> rfl
  obtain ⟨l, q1, q2, q3⟩ := h.blk b _ hb
  rcases q3 with ⟨_, q3⟩ | ⟨q3, q4, bl, q5, q6, _⟩
  · cases q3
  obtain ⟨c0, c1, c2, c, tc, vs, c4, c5, c6, c7, c8⟩ := q5
  have c6' : RepL w μ [V.ref id] vs bl := c6
  cases c6' with
  | cons _ x bx _ vs' bl2 r1 r2 =>
    cases r2
    obtain ⟨bl', t1, t2, t3, t4, _⟩ := takeCell_rep h.sup r1 (fun y hy => q6 y (by simp [hy])) ht
    obtain ⟨nd, own⟩ := t4 rfl
    refine ⟨μ, moveOw ow [id] b, h.mut (O' := (s.O.set b (.box (.sl xs) .deep)).set id .dead) (fun _ => False) (MLe.refl μ) (fun j hj => h.dom j (by rwa [List.length_set, List.length_set] at hj)) (Nat.le_refl _) (fun _ _ _ => rfl) rfl rfl rfl (fun _ _ => rfl)
      (fun _ _ e => moveOw_none e) (fun b j e => .inr (moveOw_false e)) (fun j bk e => ?_) (fun y hy => h.owl y (moveOw_ne hy)) (fun y hy => .inl (moveOw_ne hy))⟩
    by_cases hj : j = id
    · subst hj
      have hlid : j < (s.O.set b (.box (.sl xs) .deep)).length := by
        rw [List.length_set]
        exact (List.getElem?_eq_some_iff.1 hO).1
      rw [List.getElem?_set_self hlid] at e
      simp only [Option.some.injEq] at e
      subst e
      exact .inr trivial
    · rw [List.getElem?_set_ne (fun q => hj q.symm)] at e
      by_cases hjb : j = b
      · subst hjb
        rw [List.getElem?_set_self hlb] at e
        simp only [Option.some.injEq] at e
        subst e
        right
        refine ⟨l, q1, q2, .inr ⟨q3, (moveOw_keep q4 (by simpa using hj)).trans q4, bl', ⟨c0, c1, ?_, c, tc, [x], c4, c5, ?_, ?_, ?_⟩, ⟨nd, ?_⟩, fun _ => by simp⟩⟩
        · intro y hy
          rw [List.mem_singleton] at hy
          subst hy
          exact c2 (.ref id) (by simp)
        · have := RepL.cons (w := w) (μ := M0) _ x bl' [] [] [] t1 .nil
          rw [List.append_nil] at this
          exact this
        · intro v hv
          exact c7 v hv
        · intro i y hy
          exact c8 i y hy
        · intro y hy
          obtain ⟨i, hi, r, e⟩ := own y hy
          exact moveOw_in e hi
      · left
        rw [List.getElem?_set_ne (fun q => hjb q.symm)] at e
        exact ⟨e, fun q => q, fun y r ey => moveOw_keep ey (by simpa using hj)⟩

theorem beq_dec (m n : Nat) : Nat.beq m n = decide (m = n) := by
  cases h : Nat.beq m n with
  | true => rw [decide_eq_true (Nat.eq_of_beq_eq_true h)]
  | false => rw [decide_eq_false fun e => by rw [e, Nat.beq_refl] at h; cases h]

end Go.Vm
