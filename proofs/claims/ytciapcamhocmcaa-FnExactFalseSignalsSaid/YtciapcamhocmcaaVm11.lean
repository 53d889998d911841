/- The value machine, part 11: what moves into a row; stores. -/
import Derived.Test.YtciapcamhocmcaaVm10
set_option linter.unusedSimpArgs false
set_option linter.unusedVariables false
namespace Go.Vm
open Go

theorem killAll_len : ∀ (ids : List Nat) (O : List Blk), (killAll O ids).length = O.length
  | [], O => rfl
  | id :: l, O => by rw [killAll, killAll_len]; simp

theorem killAll_get : ∀ (ids : List Nat) (O : List Blk) (j : Nat) (bk : Blk), (killAll O ids)[j]? = some bk → bk ≠ .dead → O[j]? = some bk ∧ j ∉ ids
  | [], O, j, bk, h, _ => ⟨h, by simp⟩
  | id :: l, O, j, bk, h, hd => by
    obtain ⟨h1, h2⟩ := killAll_get l _ j bk h hd
    by_cases e : id = j
    · subst e
      rw [List.getElem?_set] at h1
      split at h1
      · split at h1
        · simp only [Option.some.injEq] at h1; exact absurd h1.symm hd
        · cases h1
      · exact absurd rfl ‹_›
    · rw [List.getElem?_set_ne e] at h1
      exact ⟨h1, by simp [h2, Ne.symm e]⟩

section
variable {P : Program} {cx : Cx} {s : St} {a : Act} {w : World} {μ : Nat → Option Loc} {ow : Ow}

/-- What moves: an owned slice as content. -/
theorem takeCell_rep (h : Sup cx s a w μ ow) {v v' : V} {x : Value} {bl : List Nat} {ids : List Nat} {vi : Bool} (hr : Rep w μ v x bl) (hb : ∀ b ∈ bl, VOK cx ow s.vw b) (ht : takeCell s v = some (v', ids, vi)) :
    ∃ bl', Rep w M0 v' x bl' ∧ v'.isVal = true ∧ ((vi = false → ids = [] → bl' = []) ∧ (ids = [] → ∀ b ∈ bl', VOK cx ow s.vw b)) ∧ (vi = false → bl'.Nodup ∧ ∀ b ∈ bl', ∃ id ∈ ids, ∃ r, ow b = some (r, id)) ∧ (vi = true → ids = []) := by
  have plain : v' = v → ids = [] → vi = false → Rep w M0 v x [] → v.isVal = true → ∃ bl', Rep w M0 v' x bl' ∧ v'.isVal = true ∧ ((vi = false → ids = [] → bl' = []) ∧ (ids = [] → ∀ b ∈ bl', VOK cx ow s.vw b)) ∧ (vi = false → bl'.Nodup ∧ ∀ b ∈ bl', ∃ id ∈ ids, ∃ r, ow b = some (r, id)) ∧ (vi = true → ids = []) := by
    rintro rfl rfl rfl q1 q2
    exact ⟨[], q1, q2, by simp, by simp, by simp⟩
  cases v with
  | int k n => cases hr; simp [takeCell] at ht; obtain ⟨rfl, rfl, rfl⟩ := ht; exact plain rfl rfl rfl (.int k n) rfl
  | bool t => cases hr; simp [takeCell] at ht; obtain ⟨rfl, rfl, rfl⟩ := ht; exact plain rfl rfl rfl (.bool t) rfl
  | str t => cases hr; simp [takeCell] at ht; obtain ⟨rfl, rfl, rfl⟩ := ht; exact plain rfl rfl rfl (.str t) rfl
  | npt => cases hr; simp [takeCell] at ht; obtain ⟨rfl, rfl, rfl⟩ := ht; exact plain rfl rfl rfl .npt rfl
  | nfn => cases hr; simp [takeCell] at ht; obtain ⟨rfl, rfl, rfl⟩ := ht; exact plain rfl rfl rfl .nfn rfl
  | nsl =>
    cases hr with
    | nsl q => simp [takeCell] at ht; obtain ⟨rfl, rfl, rfl⟩ := ht; exact ⟨[], .sl0 q 0, rfl, by simp, by simp, by simp⟩
  | sl xs =>
    simp [takeCell] at ht
    obtain ⟨rfl, rfl, rfl⟩ := ht
    refine ⟨bl, ?_, rfl, ⟨by simp, fun _ => hb⟩, by simp, by simp⟩
    cases hr with
    | sl0 q c => exact .sl0 q c
    | sl _ b off c sz vs bl h0 hc hs hz hl h1 hr' => exact .sl _ b off c sz vs bl h0 hc hs hz hl h1 hr'
  | agg => simp [takeCell] at ht
  | tup => simp [takeCell] at ht
  | opt => simp [takeCell] at ht
  | any => simp [takeCell] at ht
  | fn => simp [takeCell] at ht
  | pv => simp [takeCell] at ht
  | sub => simp [takeCell] at ht
  | ptr => simp [takeCell] at ht
  | ref id =>
    simp only [takeCell] at ht
    cases hrow : s.row id with
    | none => rw [hrow] at ht; cases ht
    | some xk =>
      obtain ⟨xs, k⟩ := xk
      rw [hrow] at ht
      simp only at ht
      cases hk : (k == .flat || k == .deep || k == .thin) with
      | false => rw [hk] at ht; cases ht
      | true =>
        rw [hk, cond_true] at ht
        simp only [Option.some.injEq, Prod.mk.injEq] at ht
        obtain ⟨rfl, rfl, rfl⟩ := ht
        obtain ⟨l, h1, h2, h3⟩ := h.row hrow
        have hmu : k.mu μ = M0 := by cases k <;> first | rfl | (simp at hk; done)
        cases hr with
        | ref _ l' _ hl hd =>
          rw [hl] at h1
          obtain rfl := Option.some.inj h1
          rcases h3 with ⟨h3, h4⟩ | ⟨h3, h4, bl, h5, h6, h7⟩
          · subst h4
            cases hd with
            | nil q _ _ => exact ⟨[], .sl0 q 0, rfl, by simp, by simp, by simp⟩
            | real hreal => rw [hreal] at h3; cases h3
          · cases hd with
            | nil _ hf' _ => rw [h3] at hf'; cases hf'
            | real _ =>
              rw [hmu] at h5
              have hown : (∀ b ∈ l'.b :: bl, ∃ r, ow b = some (r, id)) ∧ (l'.b :: bl).Nodup := by
                cases k with
                | flat | thin => have : bl = [] := h6; subst this; exact ⟨fun b hb => by simp at hb; subst hb; exact ⟨true, h4⟩, by simp⟩
                | deep =>
                  refine ⟨fun b hb => ?_, List.nodup_cons.2 ⟨fun hm => ?_, h6.1⟩⟩
                  · cases List.mem_cons.1 hb with
                    | inl e => subst e; exact ⟨true, h4⟩
                    | inr e => exact ⟨false, h6.2 b e⟩
                  · have := h6.2 _ hm; rw [h4] at this; cases this
                | shal => simp at hk
                | mix => simp at hk
              by_cases hn0 : xs = []
              · subst hn0
                have : l'.n = 0 := by simpa using h2
                rw [this]
                exact ⟨[], .sl0 _ _, rfl, by simp, by simp, by simp⟩
              · obtain ⟨vs, c1, c2, c3⟩ := h5.rowOf
                have := Rep.sl (w := w) (μ := M0) xs l'.b l'.off l'.cap l'.sz vs bl hn0 ⟨by have := h5.le; omega, by obtain ⟨cc, tt, _, g1, g2, _⟩ := h5.row; exact ⟨cc, tt, _, g1, g2⟩⟩ h5.sz h5.each c1 c2 c3
                rw [← h2] at this
                exact ⟨l'.b :: bl, this, rfl, by simp, fun _ => ⟨hown.2, fun b hb => ⟨id, by simp, hown.1 b hb⟩⟩, by simp⟩

theorem takeCells_rep (h : Sup cx s a w μ ow) : ∀ {cs cs' : List V} {xs : List Value} {bl : List Nat} {ids : List Nat} {vi : Bool}, RepL w μ cs xs bl → (∀ b ∈ bl, VOK cx ow s.vw b) → takeCells s cs = some (cs', ids, vi) → ids.Nodup →
    ∃ bl', RepL w M0 cs' xs bl' ∧ ((vi = false → ids = [] → bl' = []) ∧ (ids = [] → ∀ b ∈ bl', VOK cx ow s.vw b)) ∧ (vi = false → bl'.Nodup ∧ ∀ b ∈ bl', ∃ id ∈ ids, ∃ r, ow b = some (r, id))
  | [], cs', _, _, ids, vi, hr, _, ht, _ => by
    cases hr
    simp [takeCells] at ht
    obtain ⟨rfl, rfl, rfl⟩ := ht
    exact ⟨[], .nil, by simp, by simp⟩
  | c :: cs, cs', _, _, ids, vi, hr, hb, ht, hnd => by
    cases hr with
    | cons _ x b1 _ xs b2 hc hrest =>
      unfold takeCells at ht
      cases q1 : takeCell s c with
      | none => rw [q1] at ht; cases ht
      | some r1 =>
        obtain ⟨c', l1, v1⟩ := r1
        cases q2 : takeCells s cs with
        | none => rw [q1, q2] at ht; cases ht
        | some r2 =>
          obtain ⟨cs2, l2, v2⟩ := r2
          rw [q1, q2] at ht
          simp only [Option.some.injEq, Prod.mk.injEq] at ht
          obtain ⟨rfl, rfl, rfl⟩ := ht
          have hn := List.nodup_append.1 hnd
          obtain ⟨d1, e1, _, e3, e4, e5⟩ := takeCell_rep h hc (fun b hbb => hb b (List.mem_append_left _ hbb)) q1
          obtain ⟨d2, g1, g3, g4⟩ := takeCells_rep h hrest (fun b hbb => hb b (List.mem_append_right _ hbb)) q2 hn.2.1
          refine ⟨d1 ++ d2, .cons _ _ _ _ _ _ e1 g1, ⟨fun hv hi => ?_, fun hi b hbb => ?_⟩, fun hv => ?_⟩
          · simp only [Bool.or_eq_false_iff] at hv
            simp only [List.append_eq_nil_iff] at hi
            rw [e3.1 hv.1 hi.1, g3.1 hv.2 hi.2]; rfl
          · simp only [List.append_eq_nil_iff] at hi
            exact (List.mem_append.1 hbb).elim (e3.2 hi.1 b) (g3.2 hi.2 b)
          · simp only [Bool.or_eq_false_iff] at hv
            obtain ⟨m1, m2⟩ := e4 hv.1
            obtain ⟨m3, m4⟩ := g4 hv.2
            refine ⟨List.nodup_append.2 ⟨m1, m3, fun x hx y hy e => ?_⟩, fun b hbb => ?_⟩
            · subst e
              obtain ⟨i1, j1, r1, k1⟩ := m2 x hx
              obtain ⟨i2, j2, r2, k2⟩ := m4 x hy
              rw [k1] at k2
              simp only [Option.some.injEq, Prod.mk.injEq] at k2
              exact hn.2.2 i1 j1 i2 j2 k2.2
            · rcases List.mem_append.1 hbb with q | q
              · obtain ⟨i1, j1, r1, k1⟩ := m2 b q; exact ⟨i1, List.mem_append_left _ j1, r1, k1⟩
              · obtain ⟨i1, j1, r1, k1⟩ := m4 b q; exact ⟨i1, List.mem_append_right _ j1, r1, k1⟩

theorem takeV_rep (h : Sup cx s a w μ ow) {v v' : V} {x : Value} {bl : List Nat} {ids : List Nat} {vi : Bool} (hr : Rep w μ v x bl) (hb : ∀ b ∈ bl, VOK cx ow s.vw b) (ht : takeV s v = some (v', ids, vi)) (hnd : ids.Nodup) :
    ∃ bl', RepL w M0 v'.cells x.cells.toList bl' ∧ (∀ c ∈ x.cells.toList, c.oneCell' = true) ∧ ((vi = false → ids = [] → bl' = []) ∧ (ids = [] → ∀ b ∈ bl', VOK cx ow s.vw b)) ∧ (vi = false → bl'.Nodup ∧ ∀ b ∈ bl', ∃ id ∈ ids, ∃ r, ow b = some (r, id)) := by
  have one : takeCell s v = some (v', ids, vi) → ∃ bl', RepL w M0 v'.cells x.cells.toList bl' ∧ (∀ c ∈ x.cells.toList, c.oneCell' = true) ∧ ((vi = false → ids = [] → bl' = []) ∧ (ids = [] → ∀ b ∈ bl', VOK cx ow s.vw b)) ∧ (vi = false → bl'.Nodup ∧ ∀ b ∈ bl', ∃ id ∈ ids, ∃ r, ow b = some (r, id)) := by
    intro q
    obtain ⟨bl', r1, r2, r3, r4, _⟩ := takeCell_rep h hr hb q
    obtain ⟨c1, c2⟩ := r1.cells r2
    exact ⟨bl', c1, c2, r3, r4⟩
  cases v with
  | agg cs =>
    simp only [takeV] at ht
    cases q : takeCells s cs with
    | none => rw [q] at ht; cases ht
    | some r =>
      obtain ⟨cs', l, b⟩ := r
      rw [q] at ht
      simp only [Option.some.injEq, Prod.mk.injEq] at ht
      obtain ⟨rfl, rfl, rfl⟩ := ht
      cases hr with
      | agg _ vs _ hl h1 =>
        obtain ⟨bl', r1, r2, r3⟩ := takeCells_rep h hl hb q hnd
        exact ⟨bl', r1, h1, r2, r3⟩
  | _ => exact one ht

end
end Go.Vm
