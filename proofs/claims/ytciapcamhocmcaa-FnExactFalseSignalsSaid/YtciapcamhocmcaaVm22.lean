/- The value machine, part 22: a block of slices seen as many blocks, and back. -/
import Derived.Test.YtciapcamhocmcaaVm20
set_option linter.unusedSimpArgs false
set_option linter.unusedVariables false
namespace Go.Vm
open Go

section
variable {α : Type} {f : α → V}

def rowV (N : Nat) (l : List α) : V := if l.isEmpty then .sl [] else .ref N
/-- The outer row of an opened block: each row that is not empty is a block of its own. -/
def rowsF : Nat → List (List α) → List V
  | _, [] => []
  | N, l :: ll => rowV N l :: rowsF (N + 1) ll
def rowB (f : α → V) (l : List α) : Blk := if l.isEmpty then .dead else .arr (l.map f) .flat
def newsF (f : α → V) (ll : List (List α)) : List Blk := ll.map (rowB f)

theorem rowsF_len : ∀ (ll : List (List α)) (N : Nat), (rowsF N ll).length = ll.length
  | [], _ => rfl
  | l :: ll, N => by rw [rowsF, List.length_cons, List.length_cons, rowsF_len ll]
theorem rowsF_get : ∀ (ll : List (List α)) (N i : Nat) (l : List α), ll[i]? = some l → (rowsF N ll)[i]? = some (rowV (N + i) l)
  | [], _, _, _, h => by simp at h
  | x :: ll, N, 0, l, h => by simp at h; subst h; rfl
  | x :: ll, N, i + 1, l, h => by
    rw [rowsF, List.getElem?_cons_succ, rowsF_get ll (N + 1) i l (by simpa using h)]
    congr 2; omega
theorem rowsF_cells : ∀ (ll : List (List α)) (N : Nat), (rowsF N ll).flatMap V.cells = rowsF N ll
  | [], _ => rfl
  | l :: ll, N => by
    rw [rowsF, List.flatMap_cons, rowsF_cells ll]
    unfold rowV
    split <;> rfl
theorem rowsF_cell1 : ∀ (ll : List (List α)) (N : Nat), ∀ x ∈ rowsF N ll, x.cells.length = 1
  | [], _, x, h => by cases h
  | l :: ll, N, x, h => by
    rcases List.mem_cons.1 h with e | e
    · subst e; unfold rowV; split <;> rfl
    · exact rowsF_cell1 ll _ x e
theorem rowsF_same : ∀ (ll ll' : List (List α)) (N : Nat), ll.map List.isEmpty = ll'.map List.isEmpty → rowsF N ll = rowsF N ll'
  | [], [], _, _ => rfl
  | [], _ :: _, _, h => by simp at h
  | _ :: _, [], _, h => by simp at h
  | l :: ll, l' :: ll', N, h => by
    simp only [List.map_cons, List.cons.injEq] at h
    rw [rowsF, rowsF, rowsF_same ll ll' _ h.2, rowV, rowV, h.1]

def slR (f : α → V) (l : List α) : V := .sl (l.map f)
theorem slR_cells (ll : List (List α)) : (ll.map (slR f)).flatMap V.cells = ll.map (slR f) := by
  induction ll with
  | nil => rfl
  | cons l ll ih => rw [List.map_cons, List.flatMap_cons, ih]; rfl

def posOf (b : Nat) : List (Option Loc) → Option Nat
  | [] => none
  | o :: l => if o.map Loc.b = some b then some 0 else (posOf b l).map (· + 1)
theorem posOf_some {b : Nat} : ∀ {l : List (Option Loc)} {i : Nat}, posOf b l = some i → ∃ loc, l[i]? = some (some loc) ∧ loc.b = b
  | [], _, h => by cases h
  | o :: l, i, h => by
    rw [posOf] at h
    split at h
    · rename_i e
      cases h
      cases o with
      | none => cases e
      | some loc => simp at e; exact ⟨loc, rfl, e⟩
    · rw [Option.map_eq_some_iff] at h
      obtain ⟨j, h1, h2⟩ := h
      subst h2
      obtain ⟨loc, q1, q2⟩ := posOf_some h1
      exact ⟨loc, by simpa using q1, q2⟩
theorem posOf_get : ∀ {l : List (Option Loc)} {i : Nat} {loc : Loc}, (l.filterMap (Option.map Loc.b)).Nodup → l[i]? = some (some loc) → posOf loc.b l = some i
  | [], _, _, _, h => by simp at h
  | o :: l, 0, loc, _, h => by
    simp at h; subst h
    rw [posOf]; exact if_pos rfl
  | o :: l, i + 1, loc, hn, h => by
    have h' : l[i]? = some (some loc) := by simpa using h
    have hmem : loc.b ∈ l.filterMap (Option.map Loc.b) := List.mem_filterMap.2 ⟨some loc, List.mem_of_getElem? h', rfl⟩
    cases o with
    | none =>
      rw [posOf, if_neg (by simp), posOf_get (by simpa using hn) h']; rfl
    | some loc0 =>
      simp only [List.filterMap_cons, Option.map_some, List.nodup_cons] at hn
      rw [posOf, if_neg (by intro e; simp at e; rw [e] at hn; exact hn.1 hmem), posOf_get hn.2 h']; rfl
theorem posOf_none {b : Nat} {l : List (Option Loc)} (h : b ∉ l.filterMap (Option.map Loc.b)) : posOf b l = none := by
  cases e : posOf b l with
  | none => rfl
  | some i =>
    obtain ⟨loc, h1, h2⟩ := posOf_some e
    exact absurd (List.mem_filterMap.2 ⟨some loc, List.mem_of_getElem? h1, by rw [← h2]; rfl⟩) h

/-- What lies behind a row of slices. -/
theorem open_rows {w : World} (hf : ∀ a, (f a).noSl = true) : ∀ (ll : List (List α)) {vs : List Value} {bl : List Nat}, RepL w M0 (ll.map (slR f)) vs bl → (∀ b ∈ bl, Live w b) →
    ∃ locs : List (Option Loc), locs.length = ll.length ∧ bl = locs.filterMap (Option.map Loc.b) ∧
      (∀ (i : Nat) (l : List α), ll[i]? = some l → l.isEmpty = false → ∃ loc, locs[i]? = some (some loc) ∧ loc.real = true ∧ loc.n = (l.map f).length ∧ Cells w M0 loc (l.map f) []) ∧
      ∀ (μ' : Nat → Option Loc) (N : Nat), (∀ (i : Nat) (loc : Loc), locs[i]? = some (some loc) → μ' (N + i) = some loc) → RepL w μ' (rowsF N ll) vs []
  | [], vs, bl, h, _ => by
    cases h
    exact ⟨[], rfl, rfl, by simp, fun _ _ _ => .nil⟩
  | l :: ll, vs, bl, h, hl => by
    rw [List.map_cons] at h
    cases h with
    | cons _ x blh _ xs bl' h1 h2 =>
      obtain ⟨locs, q1, q2, q3, q4⟩ := open_rows hf ll h2 fun b hb => hl b (List.mem_append_right _ hb)
      cases hl0 : l.isEmpty with
      | true =>
        have e0 : l = [] := List.isEmpty_iff.1 hl0
        subst e0
        have hx : (∃ a c, x = .slice a 0 c) ∧ blh = [] := by
          have h1' : Rep w M0 (.sl []) x blh := h1
          cases h1' with
          | sl0 a c => exact ⟨⟨a, c, rfl⟩, rfl⟩
          | sl _ _ _ _ _ _ _ h0 => exact absurd rfl h0
        obtain ⟨⟨a, c, rfl⟩, rfl⟩ := hx
        refine ⟨none :: locs, by simp [q1], by simpa using q2, ?_, ?_⟩
        · intro i l hi hne
          cases i with
          | zero => simp at hi; subst hi; simp at hne
          | succ i => exact q3 i l (by simpa using hi) hne
        · intro μ' N hμ
          have := q4 μ' (N + 1) fun i loc hi => by have := hμ (i + 1) loc (by simpa using hi); rwa [show N + (i + 1) = N + 1 + i by omega] at this
          exact .cons _ _ [] _ _ [] (.sl0 a c) this
      | false =>
        have hne : l.map f ≠ [] := by
          intro e
          rw [List.map_eq_nil_iff] at e
          subst e; simp at hl0
        have h1' : Rep w M0 (.sl (l.map f)) x blh := h1
        generalize hxs : l.map f = ys at h1' hne
        cases h1' with
        | sl0 a c => exact absurd rfl hne
        | sl _ b off c sz vs' bl'' h0 hc hs hz hl' k1 hr =>
          have hnil : bl'' = [] := noSl_all hl' (by rw [← hxs, List.all_map, List.all_eq_true]; intro a _; exact hf a)
          subst hnil
          obtain ⟨cs, t, hh⟩ := hl b (by simp)
          let loc : Loc := ⟨b, off, sz, ys.length, c, true⟩
          have hcells : Cells w M0 loc ys [] := by
            refine ⟨hc.1, hs, hz, cs, t, vs', hh, ?_, hl', k1, fun j y hj => ?_⟩
            · obtain ⟨cs2, t2, fr2, e2, e3⟩ := hc.2
              rw [hh] at e2
              cases e2
              exact e3
            · have := hr j y hj
              rwa [cell_of_row w b _ cs t _ hh] at this
          refine ⟨some loc :: locs, by simp [q1], by simp [loc, q2], ?_, ?_⟩
          · intro i l2 hi hne2
            cases i with
            | zero => simp at hi; subst hi; exact ⟨loc, rfl, rfl, by rw [hxs], by rw [hxs]; exact hcells⟩
            | succ i => exact q3 i l2 (by simpa using hi) hne2
          · intro μ' N hμ
            have := q4 μ' (N + 1) fun i loc hi => by have := hμ (i + 1) loc (by simpa using hi); rwa [show N + (i + 1) = N + 1 + i by omega] at this
            have hm := hμ 0 loc rfl
            refine .cons _ _ [] _ _ [] ?_ this
            unfold rowV
            rw [hl0]
            exact .ref N loc _ hm (Hd.real (l := loc) rfl)

theorem weak_open {m : Nat} {s : St} (id : Nat) (ll : List (List α)) (k : Kd) (hO : s.O[id]? = some (.arr (ll.map (slR f)) k)) (hk : k = .flat ∨ k = .deep) (hv : s.vw = false) (hf : ∀ a, (f a).noSl = true) :
    Weak m s { s with O := s.O.set id (.arr (rowsF s.O.length ll) .mix) ++ newsF f ll } := by
  intro cx a w μ ow hmu h
  have hid : id < s.O.length := (List.getElem?_eq_some_iff.1 hO).1
  obtain ⟨l, hl1, hl2, hl3⟩ := h.blk id _ hO
  have hbl : ∃ locs : List (Option Loc), locs.length = ll.length ∧ (locs.filterMap (Option.map Loc.b)).Nodup ∧ (∀ b ∈ locs.filterMap (Option.map Loc.b), ow b = some (false, id)) ∧
      (∀ (i : Nat) (l : List α), ll[i]? = some l → l.isEmpty = false → ∃ loc, locs[i]? = some (some loc) ∧ loc.real = true ∧ loc.n = (l.map f).length ∧ Cells w M0 loc (l.map f) []) ∧
      ∀ (μ' : Nat → Option Loc), MLe μ μ' → (∀ (i : Nat) (loc : Loc), locs[i]? = some (some loc) → μ' (s.O.length + i) = some loc) →
        (l.real = false ∧ rowsF s.O.length ll = []) ∨ (l.real = true ∧ ow l.b = some (true, id) ∧ Cells w μ' l (rowsF s.O.length ll) [] ∧ rowsF s.O.length ll ≠ []) := by
    rcases hl3 with ⟨q1, q2⟩ | ⟨q1, q2, bl, q3, q4, q5⟩
    · have e0 : ll = [] := by simpa using q2
      subst e0
      exact ⟨[], rfl, by simp, by simp, by simp, fun _ _ _ => .inl ⟨q1, rfl⟩⟩
    · have hne := q5 (by rcases hk with e | e <;> subst e <;> simp)
      have hkm : k.mu μ = M0 := by rcases hk with e | e <;> subst e <;> rfl
      rw [hkm] at q3
      obtain ⟨c1, c2, c3, c, t, vs, c4, c5, c6, c7, c8⟩ := q3
      rw [slR_cells] at c6
      have hown : bl.Nodup ∧ ∀ b ∈ bl, ow b = some (false, id) := by
        rcases hk with e | e
        · subst e; have : bl = [] := q4; subst this; simp
        · subst e; exact q4
      obtain ⟨locs, p1, p2, p3, p4⟩ := open_rows hf ll c6 fun b hb => h.owl b (by rw [hown.2 b hb]; simp)
      subst p2
      refine ⟨locs, p1, hown.1, hown.2, p3, fun μ' hm hμ => .inr ⟨q1, q2, ⟨c1, c2, ?_, c, t, vs, c4, c5, ?_, c7, c8⟩, ?_⟩⟩
      rotate_left 2
      · intro e
        have := rowsF_len ll s.O.length
        rw [e] at this
        have h0 : ll = [] := List.length_eq_zero_iff.1 this.symm
        subst h0
        exact hne rfl
      · intro x hx
        rw [rowsF_cell1 ll _ x hx]
        have hll : ∃ y, y ∈ ll.map (slR f) := List.exists_mem_of_ne_nil _ hne
        obtain ⟨y, hy⟩ := hll
        have h1 := c3 y hy
        obtain ⟨l0, _, rfl⟩ := List.mem_map.1 hy
        exact h1
      · rw [rowsF_cells]
        exact p4 μ' _ hμ
  obtain ⟨locs, p1, p2, p3, p4, p5⟩ := hbl
  let N := s.O.length
  let μ' : Nat → Option Loc := fun j => if j < N then μ j else (locs[j - N]?).join
  let ow' : Ow := fun b => match posOf b locs with | some i => some (true, N + i) | none => ow b
  have hm : MLe μ μ' := by
    intro j lc e
    have : j < N := by
      rcases Nat.lt_or_ge j N with q | q
      · exact q
      · rw [h.dom j q] at e; cases e
    simp only [μ', this, if_true]; exact e
  have hμ : ∀ i loc, locs[i]? = some (some loc) → μ' (N + i) = some loc := by
    intro i loc e
    have h1 : ¬ N + i < N := by omega
    simp only [μ', h1, if_false, Nat.add_sub_cancel_left, e]; rfl
  have hnone : ∀ b, ow b ≠ some (false, id) → ow' b = ow b := by
    intro b hb
    have : posOf b locs = none := posOf_none fun hx => hb (p3 b hx)
    simp only [ow', this]
  have hne : ∀ b, ow' b ≠ none → ow b ≠ none := by
    intro b hb e
    apply hb
    rw [hnone b (by rw [e]; simp)]; exact e
  have hvok : ∀ b, VOK cx ow s.vw b → VOK cx ow' s.vw b := by
    intro b hb
    rw [hv] at hb ⊢
    have h0 : ow b = none := hb.1.resolve_right (by simp)
    exact ⟨.inl (by rw [hnone b (by rw [h0]; simp)]; exact h0), hb.2⟩
  refine ⟨μ', ow', h.dfr, h.sz, fun t => ?_, fun j bk e => ?_, fun j hj => ?_, fun b hb => h.owl b (hne b hb), fun b hb => h.own b (hne b hb), h.frm, h.mu.trans hm⟩
  · obtain ⟨bl, r1, r2⟩ := h.env t
    exact ⟨bl, r1.keep hm fun _ _ => rfl, fun b hb => hvok b (r2 b hb)⟩
  · rcases Nat.lt_or_ge j N with hj | hj
    · rw [List.getElem?_append_left (by rw [List.length_set]; exact hj)] at e
      by_cases hji : j = id
      · subst hji
        rw [List.getElem?_set_self hid] at e
        simp only [Option.some.injEq] at e
        subst e
        refine ⟨l, hm _ _ hl1, by rw [rowsF_len]; simpa using hl2, ?_⟩
        rcases p5 μ' hm hμ with q | ⟨q1, q2, q3, q4⟩
        · exact .inl q
        · exact .inr ⟨q1, by rw [hnone l.b (by rw [q2]; simp)]; exact q2, [], q3, by simp [KdOK], fun _ => q4⟩
      · rw [List.getElem?_set_ne (fun q => hji q.symm)] at e
        refine (h.blk j bk e).keep hm (fun q => q) fun b hb hc => ⟨rfl, hnone b ?_⟩
        rcases hc with q | q | q
        · rw [q]; simp
        · rw [q]; simp; exact hji
        · rw [hv] at q
          rw [q.1.resolve_right (by simp)]; simp
    · rw [List.getElem?_append_right (by rw [List.length_set]; exact hj), List.length_set] at e
      have e' : (newsF f ll)[j - N]? = some bk := e
      rw [newsF, List.getElem?_map, Option.map_eq_some_iff] at e'
      obtain ⟨l0, e1, e2⟩ := e'
      subst e2
      unfold rowB
      cases hl0 : l0.isEmpty with
      | true => simp only [if_true]; trivial
      | false =>
        simp only [Bool.false_eq_true, if_false]
        obtain ⟨loc, z1, z2, z3, z4⟩ := p4 _ _ e1 hl0
        have hjn : N + (j - N) = j := by omega
        refine ⟨loc, by rw [← hjn]; exact hμ _ _ z1, z3, .inr ⟨z2, ?_, [], z4, rfl, fun _ q => by rw [List.map_eq_nil_iff] at q; subst q; simp at hl0⟩⟩
        simp only [ow', posOf_get p2 z1]
        rw [hjn]
  · have hlen : (s.O.set id (.arr (rowsF s.O.length ll) .mix) ++ newsF f ll).length = N + ll.length := by simp [newsF, N]
    have hj' : N + ll.length ≤ j := by rw [← hlen]; exact hj
    have h1 : ¬ j < N := by omega
    have h2 : locs[j - N]? = none := List.getElem?_eq_none (by omega)
    simp only [μ', h1, if_false, h2]; rfl

/-- What lies behind a row of blocks. -/
theorem close_rows {w : World} {μ : Nat → Option Loc} {ow : Ow} : ∀ (ll : List (List α)) (N : Nat) {vs : List Value} {bl : List Nat}, RepL w μ (rowsF N ll) vs bl →
    (∀ (i : Nat) (l : List α), ll[i]? = some l → l.isEmpty = false → ∃ loc, μ (N + i) = some loc ∧ loc.real = true ∧ loc.n = (l.map f).length ∧ Cells w M0 loc (l.map f) [] ∧ ow loc.b = some (true, N + i)) →
    ∃ bl', RepL w M0 (ll.map (slR f)) vs bl' ∧ bl'.Nodup ∧ ∀ b ∈ bl', ∃ i, ow b = some (true, N + i)
  | [], N, vs, bl, h, _ => by
    cases h
    exact ⟨[], .nil, by simp, by simp⟩
  | l :: ll, N, vs, bl, h, hl => by
    rw [rowsF] at h
    cases h with
    | cons _ x blh _ xs bl' h1 h2 =>
      obtain ⟨bt, q1, q2, q3⟩ := close_rows ll (N + 1) h2 fun i l hi hne => by
        obtain ⟨loc, z1, z2⟩ := hl (i + 1) l (by simpa using hi) hne
        rw [show N + (i + 1) = N + 1 + i by omega] at z1 z2
        exact ⟨loc, z1, z2⟩
      have q3' : ∀ b ∈ bt, ∃ i, ow b = some (true, N + (i + 1)) := fun b hb => by
        obtain ⟨i, e⟩ := q3 b hb
        exact ⟨i, by rw [e]; congr 2; omega⟩
      unfold rowV at h1
      cases hl0 : l.isEmpty with
      | true =>
        have e0 : l = [] := List.isEmpty_iff.1 hl0
        subst e0
        have hx : ∃ a c, x = .slice a 0 c := by
          have h1' : Rep w μ (.sl []) x blh := h1
          cases h1' with
          | sl0 a c => exact ⟨a, c, rfl⟩
          | sl _ _ _ _ _ _ _ h0 => exact absurd rfl h0
        obtain ⟨a, c, rfl⟩ := hx
        refine ⟨[] ++ bt, .cons _ _ _ _ _ _ (.sl0 a c) q1, by simpa using q2, fun b hb => ?_⟩
        obtain ⟨i, e⟩ := q3' b (by simpa using hb)
        exact ⟨i + 1, e⟩
      | false =>
        rw [hl0] at h1
        obtain ⟨loc, z1, z2, z3, ⟨c1, c2, c3, c, t, vs', c4, c5, c6, c7, c8⟩, z5⟩ := hl 0 l rfl hl0
        have h1' : Rep w μ (.ref N) x blh := h1
        have hx : x = .slice (some ⟨loc.b, loc.off, none⟩) (l.map f).length loc.cap := by
          cases h1' with
          | ref _ lc _ hm hd =>
            have hm' : μ N = some loc := z1
            rw [hm'] at hm
            cases hm
            rw [← z3]
            cases hd with
            | real hr => rfl
            | nil a hr h0 => rw [z2] at hr; cases hr
        subst hx
        have hrep : Rep w M0 (slR f l) (.slice (some ⟨loc.b, loc.off, none⟩) (l.map f).length loc.cap) [loc.b] :=
          .sl (l.map f) loc.b loc.off loc.cap loc.sz vs' [] (fun q => by rw [List.map_eq_nil_iff] at q; subst q; simp at hl0) ⟨by rw [← z3]; exact c1, c, t, (0, 0), c4, c5⟩ c2 c3 c6 c7 fun j y hj => by
            rw [cell_of_row w loc.b _ c t _ c4]; exact c8 j y hj
        refine ⟨[loc.b] ++ bt, .cons _ _ _ _ _ _ hrep q1, ?_, ?_⟩
        · rw [List.cons_append, List.nil_append, List.nodup_cons]
          refine ⟨fun hb => ?_, q2⟩
          obtain ⟨i, e⟩ := q3' _ hb
          rw [z5] at e
          simp only [Option.some.injEq, Prod.mk.injEq, true_and] at e
          omega
        · intro b hb
          rcases List.mem_append.1 hb with e | e
          · rw [List.mem_singleton] at e; subst e; exact ⟨0, z5⟩
          · obtain ⟨i, e⟩ := q3' b e; exact ⟨i + 1, e⟩

theorem weak_close {m : Nat} {s : St} (A : List Blk) (id : Nat) (ll : List (List α)) (hO : s.O = A ++ newsF f ll) (hA : A[id]? = some (.arr (rowsF A.length ll) .mix)) :
    Weak m s { s with O := A.set id (.arr (ll.map (slR f)) .deep) ++ List.replicate ll.length .dead } := by
  intro cx a w μ ow hmu h
  have hid : id < A.length := (List.getElem?_eq_some_iff.1 hA).1
  let N := A.length
  obtain ⟨l, hl1, hl2, hl3⟩ := h.blk id (.arr (rowsF A.length ll) .mix) (by rw [hO, List.getElem?_append_left hid]; exact hA)
  have hin : ∀ (i : Nat) (l : List α), ll[i]? = some l → l.isEmpty = false → ∃ loc, μ (N + i) = some loc ∧ loc.real = true ∧ loc.n = (l.map f).length ∧ Cells w M0 loc (l.map f) [] ∧ ow loc.b = some (true, N + i) := by
    intro i l hi hne
    have hb := h.blk (N + i) (.arr (l.map f) .flat) (by
      rw [hO, List.getElem?_append_right (by show A.length ≤ A.length + i; omega)]
      show (newsF f ll)[A.length + i - A.length]? = _
      rw [Nat.add_sub_cancel_left, newsF, List.getElem?_map, hi]
      simp only [Option.map_some, rowB, hne, Bool.false_eq_true, if_false])
    obtain ⟨loc, z1, z2, z3⟩ := hb
    rcases z3 with ⟨_, z3⟩ | ⟨z3, z4, bl, z5, z6⟩
    · rw [List.map_eq_nil_iff] at z3; subst z3; simp at hne
    · have : bl = [] := z6.1
      subst this
      exact ⟨loc, z1, z3, z2, z5, z4⟩
  let ow' : Ow := fun b => match ow b with
    | some (true, j) => if N ≤ j then some (false, id) else some (true, j)
    | o => o
  have o0 : ∀ b, ow b = none → ow' b = none := fun b e => by simp [ow', e]
  have o1 : ∀ b j, ow b = some (false, j) → ow' b = some (false, j) := fun b j e => by simp [ow', e]
  have o2 : ∀ b j, j < N → ow b = some (true, j) → ow' b = some (true, j) := fun b j hj e => by
    have : ¬ N ≤ j := by omega
    simp [ow', e, this]
  have o3 : ∀ b j, N ≤ j → ow b = some (true, j) → ow' b = some (false, id) := fun b j hj e => by simp [ow', e, hj]
  have hvok : ∀ b, VOK cx ow s.vw b → ow' b = ow b := by
    intro b hb
    rcases hb.1 with e | ⟨_, j, e⟩
    · rw [o0 b e, e]
    · rw [o1 b j e, e]
  have hne : ∀ b, ow' b ≠ none → ow b ≠ none := fun b hb e => hb (o0 b e)
  refine ⟨μ, ow', h.dfr, h.sz, fun t => ?_, fun j bk e => ?_, fun j hj => ?_, fun b hb => h.owl b (hne b hb), fun b hb => h.own b (hne b hb), h.frm, h.mu⟩
  · obtain ⟨bl, r1, r2⟩ := h.env t
    exact ⟨bl, r1, fun b hb => (r2 b hb).mono (hvok b (r2 b hb)) (fun q => q)⟩
  · rcases Nat.lt_or_ge j N with hj | hj
    · rw [List.getElem?_append_left (by rw [List.length_set]; exact hj)] at e
      by_cases hji : j = id
      · subst hji
        rw [List.getElem?_set_self hid] at e
        simp only [Option.some.injEq] at e
        subst e
        rw [rowsF_len] at hl2
        refine ⟨l, hl1, by simpa using hl2, ?_⟩
        rcases hl3 with ⟨q1, q2⟩ | ⟨q1, q2, bl, ⟨c1, c2, c3, c, t, vs, c4, c5, c6, c7, c8⟩, q4, hne1⟩
        · have := rowsF_len ll A.length
          rw [q2] at this
          have h0 : ll = [] := List.length_eq_zero_iff.1 this.symm
          subst h0
          exact .inl ⟨q1, rfl⟩
        · have c6' : RepL w μ (rowsF A.length ll) vs bl := by rw [← rowsF_cells ll A.length]; exact c6
          obtain ⟨bl', k1, k2, k3⟩ := close_rows (f := f) (ow := ow) ll A.length c6' hin
          have hne0 := hne1 (by simp)
          refine .inr ⟨q1, o2 _ _ hid q2, bl', ⟨c1, c2, ?_, c, t, vs, c4, c5, ?_, c7, c8⟩, ⟨k2, ?_⟩, ?_⟩
          rotate_left 3
          · intro _ e
            rw [List.map_eq_nil_iff] at e
            subst e
            exact hne0 rfl
          · intro x hx
            obtain ⟨l0, _, rfl⟩ := List.mem_map.1 hx
            obtain ⟨y, hy⟩ := List.exists_mem_of_ne_nil _ hne0
            rw [← c3 y hy, rowsF_cell1 ll _ y hy]; rfl
          · rw [slR_cells]; exact k1
          · intro b hb
            obtain ⟨i, e⟩ := k3 b hb
            exact o3 b _ (by show A.length ≤ A.length + i; omega) e
      · rw [List.getElem?_set_ne (fun q => hji q.symm)] at e
        refine (h.blk j bk (by rw [hO, List.getElem?_append_left hj]; exact e)).keep (MLe.refl _) (fun q => q) fun b _ hc => ⟨rfl, ?_⟩
        rcases hc with q | q | q
        · rw [o2 b j hj q, q]
        · rw [o1 b j q, q]
        · exact hvok b q
    · rw [List.getElem?_append_right (by rw [List.length_set]; exact hj)] at e
      rw [List.eq_of_mem_replicate (List.mem_of_getElem? e)]
      trivial
  · refine h.dom j ?_
    rw [hO]
    have hj' : (A.set id (.arr (ll.map (slR f)) .deep) ++ List.replicate ll.length Blk.dead).length ≤ j := hj
    simpa [newsF] using hj'

end
end Go.Vm
