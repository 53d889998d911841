/- The value machine, part 7. -/
import Derived.Sort.Grow
import Derived.Lib.LaidTab
import Derived.Lib.Join
import Derived.Below
import Derived.Deep.Draws
import Derived.Test.YtbameklegpgkfaaDoorUmF
set_option linter.unusedSimpArgs false
set_option linter.unusedVariables false
set_option linter.defProp false
namespace Go.Vm
open Go
section
variable {α : Type} {f : α → V}
def rowV (N : Nat) (l : List α) : V := if l.isEmpty then .sl [] else .ref N
def rowsF : Nat → List (List α) → List V
  | _, [] => []
  | N, l :: ll => rowV N l :: rowsF (N + 1) ll
def rowB (f : α → V) (l : List α) : Blk := if l.isEmpty then .dead else .arr (l.map f) .flat
def newsF (f : α → V) (ll : List (List α)) : List Blk := ll.map (rowB f)
theorem rowsF_len : ∀ (ll : List (List α)) (N : Nat), (rowsF N ll).length = ll.length
  | [], _ => rfl
  | l :: ll, N => by rw [rowsF, List.length_cons, List.length_cons, rowsF_len ll]
theorem rowsF_get : ∀ (ll : List (List α)) (N i : Nat) (l : List α), ll[i]? = some l → (rowsF N ll)[i]? = some (rowV (N + i) l)
  | [], _, _, _, h => by simp at h
  | x :: ll, N, 0, l, h => by simp at h; subst h; rfl
  | x :: ll, N, i + 1, l, h => by
    rw [rowsF, List.getElem?_cons_succ, rowsF_get ll (N + 1) i l (by simpa using h)]
    congr 2; omega
theorem rowsF_cells : ∀ (ll : List (List α)) (N : Nat), (rowsF N ll).flatMap V.cells = rowsF N ll
  | [], _ => rfl
  | l :: ll, N => by
    rw [rowsF, List.flatMap_cons, rowsF_cells ll]
    unfold rowV
    split <;> rfl
theorem rowsF_cell1 : ∀ (ll : List (List α)) (N : Nat), ∀ x ∈ rowsF N ll, x.cells.length = 1
  | [], _, x, h => by cases h
  | l :: ll, N, x, h => by
    rcases List.mem_cons.1 h with e | e
    · subst e; unfold rowV; split <;> rfl
    · exact rowsF_cell1 ll _ x e
theorem rowsF_same : ∀ (ll ll' : List (List α)) (N : Nat), ll.map List.isEmpty = ll'.map List.isEmpty → rowsF N ll = rowsF N ll'
  | [], [], _, _ => rfl
  | [], _ :: _, _, h => by simp at h
  | _ :: _, [], _, h => by simp at h
  | l :: ll, l' :: ll', N, h => by
    simp only [List.map_cons, List.cons.injEq] at h
    rw [rowsF, rowsF, rowsF_same ll ll' _ h.2, rowV, rowV, h.1]
def slR (f : α → V) (l : List α) : V := .sl (l.map f)
theorem slR_cells (ll : List (List α)) : (ll.map (slR f)).flatMap V.cells = ll.map (slR f) := by
  induction ll with
  | nil => rfl
  | cons l ll ih => rw [List.map_cons, List.flatMap_cons, ih]; rfl
def posOf (b : Nat) : List (Option Loc) → Option Nat
  | [] => none
  | o :: l => if o.map Loc.b = some b then some 0 else (posOf b l).map (· + 1)
theorem posOf_some {b : Nat} : ∀ {l : List (Option Loc)} {i : Nat}, posOf b l = some i → ∃ loc, l[i]? = some (some loc) ∧ loc.b = b
  | [], _, h => by cases h
  | o :: l, i, h => by
    rw [posOf] at h
    split at h
    · rename_i e
      cases h
      cases o with
      | none => cases e
      | some loc => simp at e; exact ⟨loc, rfl, e⟩
    · rw [Option.map_eq_some_iff] at h
      obtain ⟨j, h1, h2⟩ := h
      subst h2
      obtain ⟨loc, q1, q2⟩ := posOf_some h1
      exact ⟨loc, by simpa using q1, q2⟩
theorem posOf_get : ∀ {l : List (Option Loc)} {i : Nat} {loc : Loc}, (l.filterMap (Option.map Loc.b)).Nodup → l[i]? = some (some loc) → posOf loc.b l = some i
  | [], _, _, _, h => by simp at h
  | o :: l, 0, loc, _, h => by
    simp at h; subst h
    rw [posOf]; exact if_pos rfl
  | o :: l, i + 1, loc, hn, h => by
    have h' : l[i]? = some (some loc) := by simpa using h
    have hmem : loc.b ∈ l.filterMap (Option.map Loc.b) := List.mem_filterMap.2 ⟨some loc, List.mem_of_getElem? h', rfl⟩
    cases o with
    | none =>
      rw [posOf, if_neg (by simp), posOf_get (by simpa using hn) h']; rfl
    | some loc0 =>
      simp only [List.filterMap_cons, Option.map_some, List.nodup_cons] at hn
      rw [posOf, if_neg (by intro e; simp at e; rw [e] at hn; exact hn.1 hmem), posOf_get hn.2 h']; rfl
theorem posOf_none {b : Nat} {l : List (Option Loc)} (h : b ∉ l.filterMap (Option.map Loc.b)) : posOf b l = none := by
  cases e : posOf b l with
  | none => rfl
  | some i =>
    obtain ⟨loc, h1, h2⟩ := posOf_some e
    exact absurd (List.mem_filterMap.2 ⟨some loc, List.mem_of_getElem? h1, by rw [← h2]; rfl⟩) h
theorem open_rows {w : World} (hf : ∀ a, (f a).noSl = true) : ∀ (ll : List (List α)) {vs : List Value} {bl : List Nat}, RepL w M0 (ll.map (slR f)) vs bl → (∀ b ∈ bl, Live w b) →
    ∃ locs : List (Option Loc), locs.length = ll.length ∧ bl = locs.filterMap (Option.map Loc.b) ∧
      (∀ (i : Nat) (l : List α), ll[i]? = some l → l.isEmpty = false → ∃ loc, locs[i]? = some (some loc) ∧ loc.real = true ∧ loc.n = (l.map f).length ∧ Cells w M0 loc (l.map f) []) ∧
      ∀ (μ' : Nat → Option Loc) (N : Nat), (∀ (i : Nat) (loc : Loc), locs[i]? = some (some loc) → μ' (N + i) = some loc) → RepL w μ' (rowsF N ll) vs []
  | [], vs, bl, h, _ => by
    cases h
    exact ⟨[], rfl, rfl, by simp, fun _ _ _ => .nil⟩
  | l :: ll, vs, bl, h, hl => by
    rw [List.map_cons] at h
    cases h with
    | cons _ x blh _ xs bl' h1 h2 =>
      obtain ⟨locs, q1, q2, q3, q4⟩ := open_rows hf ll h2 fun b hb => hl b (List.mem_append_right _ hb)
      cases hl0 : l.isEmpty with
      | true =>
        have e0 : l = [] := List.isEmpty_iff.1 hl0
        subst e0
        have hx : (∃ a c, x = .slice a 0 c) ∧ blh = [] := by
          have h1' : Rep w M0 (.sl []) x blh := h1
          cases h1' with
          | sl0 a c => exact ⟨⟨a, c, rfl⟩, rfl⟩
          | sl _ _ _ _ _ _ _ h0 => exact absurd rfl h0
        obtain ⟨⟨a, c, rfl⟩, rfl⟩ := hx
        refine ⟨none :: locs, by simp [q1], by simpa using q2, ?_, ?_⟩
        · intro i l hi hne
          cases i with
          | zero => simp at hi; subst hi; simp at hne
          | succ i => exact q3 i l (by simpa using hi) hne
        · intro μ' N hμ
          have := q4 μ' (N + 1) fun i loc hi => by have := hμ (i + 1) loc (by simpa using hi); rwa [show N + (i + 1) = N + 1 + i by omega] at this
          exact .cons _ _ [] _ _ [] (.sl0 a c) this
      | false =>
        have hne : l.map f ≠ [] := by
          intro e
          rw [List.map_eq_nil_iff] at e
          subst e; simp at hl0
        have h1' : Rep w M0 (.sl (l.map f)) x blh := h1
        generalize hxs : l.map f = ys at h1' hne
        cases h1' with
        | sl0 a c => exact absurd rfl hne
        | sl _ b off c sz vs' bl'' h0 hc hs hz hl' k1 hr =>
          have hnil : bl'' = [] := noSl_all hl' (by rw [← hxs, List.all_map, List.all_eq_true]; intro a _; exact hf a)
          subst hnil
          obtain ⟨cs, t, hh⟩ := hl b (by simp)
          let loc : Loc := ⟨b, off, sz, ys.length, c, true⟩
          have hcells : Cells w M0 loc ys [] := by
            refine ⟨hc.1, hs, hz, cs, t, vs', hh, ?_, hl', k1, fun j y hj => ?_⟩
            · obtain ⟨cs2, t2, fr2, e2, e3⟩ := hc.2
              rw [hh] at e2
              cases e2
              exact e3
            · have := hr j y hj
              rwa [cell_of_row w b _ cs t _ hh] at this
          refine ⟨some loc :: locs, by simp [q1], by simp [loc, q2], ?_, ?_⟩
          · intro i l2 hi hne2
            cases i with
            | zero => simp at hi; subst hi; exact ⟨loc, rfl, rfl, by rw [hxs], by rw [hxs]; exact hcells⟩
            | succ i => exact q3 i l2 (by simpa using hi) hne2
          · intro μ' N hμ
            have := q4 μ' (N + 1) fun i loc hi => by have := hμ (i + 1) loc (by simpa using hi); rwa [show N + (i + 1) = N + 1 + i by omega] at this
            have hm := hμ 0 loc rfl
            refine .cons _ _ [] _ _ [] ?_ this
            unfold rowV
            rw [hl0]
            exact .ref N loc _ hm (Hd.real (l := loc) rfl)
theorem weak_open {m : Nat} {s : St} (id : Nat) (ll : List (List α)) (k : Kd) (hO : s.O[id]? = some (.arr (ll.map (slR f)) k)) (hk : k = .flat ∨ k = .deep) (hv : s.vw = false) (hf : ∀ a, (f a).noSl = true) :
    Weak m s { s with O := s.O.set id (.arr (rowsF s.O.length ll) .mix) ++ newsF f ll } := by
  intro cx a w μ ow hmu h
  have hid : id < s.O.length := (List.getElem?_eq_some_iff.1 hO).1
  obtain ⟨l, hl1, hl2, hl3⟩ := h.blk id _ hO
  have hbl : ∃ locs : List (Option Loc), locs.length = ll.length ∧ (locs.filterMap (Option.map Loc.b)).Nodup ∧ (∀ b ∈ locs.filterMap (Option.map Loc.b), ow b = some (false, id)) ∧
      (∀ (i : Nat) (l : List α), ll[i]? = some l → l.isEmpty = false → ∃ loc, locs[i]? = some (some loc) ∧ loc.real = true ∧ loc.n = (l.map f).length ∧ Cells w M0 loc (l.map f) []) ∧
      ∀ (μ' : Nat → Option Loc), MLe μ μ' → (∀ (i : Nat) (loc : Loc), locs[i]? = some (some loc) → μ' (s.O.length + i) = some loc) →
        (l.real = false ∧ rowsF s.O.length ll = []) ∨ (l.real = true ∧ ow l.b = some (true, id) ∧ Cells w μ' l (rowsF s.O.length ll) [] ∧ rowsF s.O.length ll ≠ []) := by
    rcases hl3 with ⟨q1, q2⟩ | ⟨q1, q2, bl, q3, q4, q5⟩
    · have e0 : ll = [] := by simpa using q2
      subst e0
      exact ⟨[], rfl, by simp, by simp, by simp, fun _ _ _ => .inl ⟨q1, rfl⟩⟩
    · have hne := q5 (by rcases hk with e | e <;> subst e <;> simp)
      have hkm : k.mu μ = M0 := by rcases hk with e | e <;> subst e <;> rfl
      rw [hkm] at q3
      obtain ⟨c1, c2, c3, c, t, vs, c4, c5, c6, c7, c8⟩ := q3
      rw [slR_cells] at c6
      have hown : bl.Nodup ∧ ∀ b ∈ bl, ow b = some (false, id) := by
        rcases hk with e | e
        · subst e; have : bl = [] := q4; subst this; simp
        · subst e; exact q4
      obtain ⟨locs, p1, p2, p3, p4⟩ := open_rows hf ll c6 fun b hb => h.owl b (by rw [hown.2 b hb]; simp)
      subst p2
      refine ⟨locs, p1, hown.1, hown.2, p3, fun μ' hm hμ => .inr ⟨q1, q2, ⟨c1, c2, ?_, c, t, vs, c4, c5, ?_, c7, c8⟩, ?_⟩⟩
      rotate_left 2
      · intro e
        have := rowsF_len ll s.O.length
        rw [e] at this
        have h0 : ll = [] := List.length_eq_zero_iff.1 this.symm
        subst h0
        exact hne rfl
      · intro x hx
        rw [rowsF_cell1 ll _ x hx]
        have hll : ∃ y, y ∈ ll.map (slR f) := List.exists_mem_of_ne_nil _ hne
        obtain ⟨y, hy⟩ := hll
        have h1 := c3 y hy
        obtain ⟨l0, _, rfl⟩ := List.mem_map.1 hy
        exact h1
      · rw [rowsF_cells]
        exact p4 μ' _ hμ
  obtain ⟨locs, p1, p2, p3, p4, p5⟩ := hbl
  let N := s.O.length
  let μ' : Nat → Option Loc := fun j => if j < N then μ j else (locs[j - N]?).join
  let ow' : Ow := fun b => match posOf b locs with | some i => some (true, N + i) | none => ow b
  have hm : MLe μ μ' := by
    intro j lc e
    have : j < N := by
      rcases Nat.lt_or_ge j N with q | q
      · exact q
      · rw [h.dom j q] at e; cases e
    simp only [μ', this, if_true]; exact e
  have hμ : ∀ i loc, locs[i]? = some (some loc) → μ' (N + i) = some loc := by
    intro i loc e
    have h1 : ¬ N + i < N := by omega
    simp only [μ', h1, if_false, Nat.add_sub_cancel_left, e]; rfl
  have hnone : ∀ b, ow b ≠ some (false, id) → ow' b = ow b := by
    intro b hb
    have : posOf b locs = none := posOf_none fun hx => hb (p3 b hx)
    simp only [ow', this]
  have hne : ∀ b, ow' b ≠ none → ow b ≠ none := by
    intro b hb e
    apply hb
    rw [hnone b (by rw [e]; simp)]; exact e
  have hvok : ∀ b, VOK cx ow s.vw b → VOK cx ow' s.vw b := by
    intro b hb
    rw [hv] at hb ⊢
    have h0 : ow b = none := hb.1.resolve_right (by simp)
    exact ⟨.inl (by rw [hnone b (by rw [h0]; simp)]; exact h0), hb.2⟩
  refine ⟨μ', ow', h.dfr, h.sz, fun t => ?_, fun j bk e => ?_, fun j hj => ?_, fun b hb => h.owl b (hne b hb), fun b hb => h.own b (hne b hb), h.frm, h.mu.trans hm⟩
  · obtain ⟨bl, r1, r2⟩ := h.env t
    exact ⟨bl, r1.keep hm fun _ _ => rfl, fun b hb => hvok b (r2 b hb)⟩
  · rcases Nat.lt_or_ge j N with hj | hj
    · rw [List.getElem?_append_left (by rw [List.length_set]; exact hj)] at e
      by_cases hji : j = id
      · subst hji
        rw [List.getElem?_set_self hid] at e
        simp only [Option.some.injEq] at e
        subst e
        refine ⟨l, hm _ _ hl1, by rw [rowsF_len]; simpa using hl2, ?_⟩
        rcases p5 μ' hm hμ with q | ⟨q1, q2, q3, q4⟩
        · exact .inl q
        · exact .inr ⟨q1, by rw [hnone l.b (by rw [q2]; simp)]; exact q2, [], q3, by simp [KdOK], fun _ => q4⟩
      · rw [List.getElem?_set_ne (fun q => hji q.symm)] at e
        refine (h.blk j bk e).keep hm (fun q => q) fun b hb hc => ⟨rfl, hnone b ?_⟩
        rcases hc with q | q | q
        · rw [q]; simp
        · rw [q]; simp; exact hji
        · rw [hv] at q
          rw [q.1.resolve_right (by simp)]; simp
    · rw [List.getElem?_append_right (by rw [List.length_set]; exact hj), List.length_set] at e
      have e' : (newsF f ll)[j - N]? = some bk := e
      rw [newsF, List.getElem?_map, Option.map_eq_some_iff] at e'
      obtain ⟨l0, e1, e2⟩ := e'
      subst e2
      unfold rowB
      cases hl0 : l0.isEmpty with
      | true => simp only [if_true]; trivial
      | false =>
        simp only [Bool.false_eq_true, if_false]
        obtain ⟨loc, z1, z2, z3, z4⟩ := p4 _ _ e1 hl0
        have hjn : N + (j - N) = j := by omega
        refine ⟨loc, by rw [← hjn]; exact hμ _ _ z1, z3, .inr ⟨z2, ?_, [], z4, rfl, fun _ q => by rw [List.map_eq_nil_iff] at q; subst q; simp at hl0⟩⟩
        simp only [ow', posOf_get p2 z1]
        rw [hjn]
  · have hlen : (s.O.set id (.arr (rowsF s.O.length ll) .mix) ++ newsF f ll).length = N + ll.length := by simp [newsF, N]
    have hj' : N + ll.length ≤ j := by rw [← hlen]; exact hj
    have h1 : ¬ j < N := by omega
    have h2 : locs[j - N]? = none := List.getElem?_eq_none (by omega)
    simp only [μ', h1, if_false, h2]; rfl
theorem close_rows {w : World} {μ : Nat → Option Loc} {ow : Ow} : ∀ (ll : List (List α)) (N : Nat) {vs : List Value} {bl : List Nat}, RepL w μ (rowsF N ll) vs bl →
    (∀ (i : Nat) (l : List α), ll[i]? = some l → l.isEmpty = false → ∃ loc, μ (N + i) = some loc ∧ loc.real = true ∧ loc.n = (l.map f).length ∧ Cells w M0 loc (l.map f) [] ∧ ow loc.b = some (true, N + i)) →
    ∃ bl', RepL w M0 (ll.map (slR f)) vs bl' ∧ bl'.Nodup ∧ ∀ b ∈ bl', ∃ i, ow b = some (true, N + i)
  | [], N, vs, bl, h, _ => by
    cases h
    exact ⟨[], .nil, by simp, by simp⟩
  | l :: ll, N, vs, bl, h, hl => by
    rw [rowsF] at h
    cases h with
    | cons _ x blh _ xs bl' h1 h2 =>
      obtain ⟨bt, q1, q2, q3⟩ := close_rows ll (N + 1) h2 fun i l hi hne => by
        obtain ⟨loc, z1, z2⟩ := hl (i + 1) l (by simpa using hi) hne
        rw [show N + (i + 1) = N + 1 + i by omega] at z1 z2
        exact ⟨loc, z1, z2⟩
      have q3' : ∀ b ∈ bt, ∃ i, ow b = some (true, N + (i + 1)) := fun b hb => by
        obtain ⟨i, e⟩ := q3 b hb
        exact ⟨i, by rw [e]; congr 2; omega⟩
      unfold rowV at h1
      cases hl0 : l.isEmpty with
      | true =>
        have e0 : l = [] := List.isEmpty_iff.1 hl0
        subst e0
        have hx : ∃ a c, x = .slice a 0 c := by
          have h1' : Rep w μ (.sl []) x blh := h1
          cases h1' with
          | sl0 a c => exact ⟨a, c, rfl⟩
          | sl _ _ _ _ _ _ _ h0 => exact absurd rfl h0
        obtain ⟨a, c, rfl⟩ := hx
        refine ⟨[] ++ bt, .cons _ _ _ _ _ _ (.sl0 a c) q1, by simpa using q2, fun b hb => ?_⟩
        obtain ⟨i, e⟩ := q3' b (by simpa using hb)
        exact ⟨i + 1, e⟩
      | false =>
        rw [hl0] at h1
        obtain ⟨loc, z1, z2, z3, ⟨c1, c2, c3, c, t, vs', c4, c5, c6, c7, c8⟩, z5⟩ := hl 0 l rfl hl0
        have h1' : Rep w μ (.ref N) x blh := h1
        have hx : x = .slice (some ⟨loc.b, loc.off, none⟩) (l.map f).length loc.cap := by
          cases h1' with
          | ref _ lc _ hm hd =>
            have hm' : μ N = some loc := z1
            rw [hm'] at hm
            cases hm
            rw [← z3]
            cases hd with
            | real hr => rfl
            | nil a hr h0 => rw [z2] at hr; cases hr
        subst hx
        have hrep : Rep w M0 (slR f l) (.slice (some ⟨loc.b, loc.off, none⟩) (l.map f).length loc.cap) [loc.b] :=
          .sl (l.map f) loc.b loc.off loc.cap loc.sz vs' [] (fun q => by rw [List.map_eq_nil_iff] at q; subst q; simp at hl0) ⟨by rw [← z3]; exact c1, c, t, (0, 0), c4, c5⟩ c2 c3 c6 c7 fun j y hj => by
            rw [cell_of_row w loc.b _ c t _ c4]; exact c8 j y hj
        refine ⟨[loc.b] ++ bt, .cons _ _ _ _ _ _ hrep q1, ?_, ?_⟩
        · rw [List.cons_append, List.nil_append, List.nodup_cons]
          refine ⟨fun hb => ?_, q2⟩
          obtain ⟨i, e⟩ := q3' _ hb
          rw [z5] at e
          simp only [Option.some.injEq, Prod.mk.injEq, true_and] at e
          omega
        · intro b hb
          rcases List.mem_append.1 hb with e | e
          · rw [List.mem_singleton] at e; subst e; exact ⟨0, z5⟩
          · obtain ⟨i, e⟩ := q3' b e; exact ⟨i + 1, e⟩
theorem weak_close {m : Nat} {s : St} (A : List Blk) (id : Nat) (ll : List (List α)) (hO : s.O = A ++ newsF f ll) (hA : A[id]? = some (.arr (rowsF A.length ll) .mix)) :
    Weak m s { s with O := A.set id (.arr (ll.map (slR f)) .deep) ++ List.replicate ll.length .dead } := by
  intro cx a w μ ow hmu h
  have hid : id < A.length := (List.getElem?_eq_some_iff.1 hA).1
  let N := A.length
  obtain ⟨l, hl1, hl2, hl3⟩ := h.blk id (.arr (rowsF A.length ll) .mix) (by rw [hO, List.getElem?_append_left hid]; exact hA)
  have hin : ∀ (i : Nat) (l : List α), ll[i]? = some l → l.isEmpty = false → ∃ loc, μ (N + i) = some loc ∧ loc.real = true ∧ loc.n = (l.map f).length ∧ Cells w M0 loc (l.map f) [] ∧ ow loc.b = some (true, N + i) := by
    intro i l hi hne
    have hb := h.blk (N + i) (.arr (l.map f) .flat) (by
      rw [hO, List.getElem?_append_right (by show A.length ≤ A.length + i; omega)]
      show (newsF f ll)[A.length + i - A.length]? = _
      rw [Nat.add_sub_cancel_left, newsF, List.getElem?_map, hi]
      simp only [Option.map_some, rowB, hne, Bool.false_eq_true, if_false])
    obtain ⟨loc, z1, z2, z3⟩ := hb
    rcases z3 with ⟨_, z3⟩ | ⟨z3, z4, bl, z5, z6⟩
    · rw [List.map_eq_nil_iff] at z3; subst z3; simp at hne
    · have : bl = [] := z6.1
      subst this
      exact ⟨loc, z1, z3, z2, z5, z4⟩
  let ow' : Ow := fun b => match ow b with
    | some (true, j) => if N ≤ j then some (false, id) else some (true, j)
    | o => o
  have o0 : ∀ b, ow b = none → ow' b = none := fun b e => by simp [ow', e]
  have o1 : ∀ b j, ow b = some (false, j) → ow' b = some (false, j) := fun b j e => by simp [ow', e]
  have o2 : ∀ b j, j < N → ow b = some (true, j) → ow' b = some (true, j) := fun b j hj e => by
    have : ¬ N ≤ j := by omega
    simp [ow', e, this]
  have o3 : ∀ b j, N ≤ j → ow b = some (true, j) → ow' b = some (false, id) := fun b j hj e => by simp [ow', e, hj]
  have hvok : ∀ b, VOK cx ow s.vw b → ow' b = ow b := by
    intro b hb
    rcases hb.1 with e | ⟨_, j, e⟩
    · rw [o0 b e, e]
    · rw [o1 b j e, e]
  have hne : ∀ b, ow' b ≠ none → ow b ≠ none := fun b hb e => hb (o0 b e)
  refine ⟨μ, ow', h.dfr, h.sz, fun t => ?_, fun j bk e => ?_, fun j hj => ?_, fun b hb => h.owl b (hne b hb), fun b hb => h.own b (hne b hb), h.frm, h.mu⟩
  · obtain ⟨bl, r1, r2⟩ := h.env t
    exact ⟨bl, r1, fun b hb => (r2 b hb).mono (hvok b (r2 b hb)) (fun q => q)⟩
  · rcases Nat.lt_or_ge j N with hj | hj
    · rw [List.getElem?_append_left (by rw [List.length_set]; exact hj)] at e
      by_cases hji : j = id
      · subst hji
        rw [List.getElem?_set_self hid] at e
        simp only [Option.some.injEq] at e
        subst e
        rw [rowsF_len] at hl2
        refine ⟨l, hl1, by simpa using hl2, ?_⟩
        rcases hl3 with ⟨q1, q2⟩ | ⟨q1, q2, bl, ⟨c1, c2, c3, c, t, vs, c4, c5, c6, c7, c8⟩, q4, hne1⟩
        · have := rowsF_len ll A.length
          rw [q2] at this
          have h0 : ll = [] := List.length_eq_zero_iff.1 this.symm
          subst h0
          exact .inl ⟨q1, rfl⟩
        · have c6' : RepL w μ (rowsF A.length ll) vs bl := by rw [← rowsF_cells ll A.length]; exact c6
          obtain ⟨bl', k1, k2, k3⟩ := close_rows (f := f) (ow := ow) ll A.length c6' hin
          have hne0 := hne1 (by simp)
          refine .inr ⟨q1, o2 _ _ hid q2, bl', ⟨c1, c2, ?_, c, t, vs, c4, c5, ?_, c7, c8⟩, ⟨k2, ?_⟩, ?_⟩
          rotate_left 3
          · intro _ e
            rw [List.map_eq_nil_iff] at e
            subst e
            exact hne0 rfl
          · intro x hx
            obtain ⟨l0, _, rfl⟩ := List.mem_map.1 hx
            obtain ⟨y, hy⟩ := List.exists_mem_of_ne_nil _ hne0
            rw [← c3 y hy, rowsF_cell1 ll _ y hy]; rfl
          · rw [slR_cells]; exact k1
          · intro b hb
            obtain ⟨i, e⟩ := k3 b hb
            exact o3 b _ (by show A.length ≤ A.length + i; omega) e
      · rw [List.getElem?_set_ne (fun q => hji q.symm)] at e
        refine (h.blk j bk (by rw [hO, List.getElem?_append_left hj]; exact e)).keep (MLe.refl _) (fun q => q) fun b _ hc => ⟨rfl, ?_⟩
        rcases hc with q | q | q
        · rw [o2 b j hj q, q]
        · rw [o1 b j q, q]
        · exact hvok b q
    · rw [List.getElem?_append_right (by rw [List.length_set]; exact hj)] at e
      rw [List.eq_of_mem_replicate (List.mem_of_getElem? e)]
      trivial
  · refine h.dom j ?_
    rw [hO]
    have hj' : (A.set id (.arr (ll.map (slR f)) .deep) ++ List.replicate ll.length Blk.dead).length ≤ j := hj
    simpa [newsF] using hj'
end
end Go.Vm
namespace Go.Vm
open Go
end Go.Vm
namespace Go.Vm
open Go
theorem rep_ints {w : World} {μ : Nat → Option Loc} : ∀ (ns : List Int) {vs : List Value} {bl : List Nat}, RepL w μ ((ns.map (V.int .i64)).flatMap V.cells) vs bl → vs = ns.map (Value.int .i64)
  | [], vs, bl, h => by cases h; rfl
  | n :: ns, vs, bl, h => by
    simp only [List.map_cons, List.flatMap_cons, V.cells, List.cons_append, List.nil_append] at h
    cases h with
    | cons _ x bl _ xs bl' h1 h2 =>
      have := rep_ints ns h2
      rw [this, h1.int_inv]; rfl
theorem ints_rep {w : World} {μ : Nat → Option Loc} : ∀ ns : List Int, RepL w μ ((ns.map (V.int .i64)).flatMap V.cells) (ns.map (Value.int .i64)) []
  | [] => .nil
  | n :: ns => by
    simp only [List.map_cons, List.flatMap_cons, V.cells, List.cons_append, List.nil_append]
    exact .cons _ _ [] _ _ [] (.int _ _) (ints_rep ns)
def sortL (zs : List Int) : List Int := zs.mergeSort fun x y => decide (x ≤ y)
theorem sortL_len (zs : List Int) : (sortL zs).length = zs.length := List.length_mergeSort ..
theorem con_sort {P : Program} {f : FuncId} (zs : List Int) (hf : ∃ fn, P.funcs[f]? = some fn ∧ (fn.name == "runtime.NumGoroutine") = false ∧ fn.body.isNone = false) (hne : zs ≠ [])
    (h : ∀ (blk off cap : Nat) (w : World), Sort.Holds (Value.int .i64) w blk off zs.toArray → blk < w.heap.size → Calls P f #[.slice (some ⟨blk, off, none⟩) zs.length cap] w fun e w' =>
      e = .returned (.tuple #[]) ∧ ∃ n os, w' = Sort.grow (Sort.putRow (Value.int .i64) (Sort.ahead w n) blk off (sortL zs).toArray) os) :
    Con P f [.ref 0] [.arr (zs.map (V.int .i64)) .flat] (.tup []) [.arr ((sortL zs).map (V.int .i64)) .flat] := by
  refine ⟨hf, fun w vals μ ow vis hi => ?_⟩
  obtain ⟨l, hl, hn, h3⟩ := hi.blk 0 _ rfl
  rcases h3 with ⟨_, h3⟩ | ⟨hreal, hroot, bl, ⟨c1, c2, c3, c, t, vs, c4, c5, c6, c7, c8⟩, hk, hne'⟩
  · exact absurd (by simpa using h3) hne
  have hbl : bl = [] := hk
  subst hbl
  have hvs := rep_ints zs c6
  subst hvs
  have hsz : l.sz = 1 := by
    obtain ⟨z, hz⟩ := List.exists_mem_of_ne_nil _ hne
    have := c3 (.int .i64 z) (List.mem_map.2 ⟨z, hz, rfl⟩)
    exact this.symm
  have hn' : l.n = zs.length := by simpa using hn
  have h0 : vals.getD 0 undef = .slice (some ⟨l.b, l.off, none⟩) zs.length l.cap := by
    obtain ⟨b0, r0, _⟩ := hi.arg 0 _ rfl
    generalize vals.getD 0 undef = x at r0 ⊢
    cases r0 with
    | ref _ l2 _ hm hd =>
      rw [hl] at hm
      cases hm
      rw [← hn']
      cases hd with
      | real _ => rfl
      | nil a hr _ => rw [hreal] at hr; cases hr
  have hv : vals = #[.slice (some ⟨l.b, l.off, none⟩) zs.length l.cap] := by
    have hs : vals.size = 1 := hi.sz
    apply Array.ext
    · simpa using hs
    · intro i hi1 hi2
      have : i = 0 := by simp at hi2; exact hi2
      subst this
      have e : vals.getD 0 undef = vals[0] := by simp [Array.getD, hi1]
      rw [← e, h0]; rfl
  subst hv
  have hlt : l.b < w.heap.size := by
    rcases Nat.lt_or_ge l.b w.heap.size with q | q
    · exact q
    · rw [Array.getElem?_eq_none q] at c4; cases c4
  have hH : Sort.Holds (Value.int .i64) w l.b l.off zs.toArray := by
    intro j hj
    have hj' : j < zs.length := by simpa using hj
    refine ⟨?_, by simp [World.frozen?, c4]⟩
    rw [cell_of_row w l.b _ c t _ c4, c8 j (.int .i64 zs[j]) (by simp [hj'])]
    congr 2
    simp [hj']
  refine (h l.b l.off l.cap w hH hlt).mono ?_
  rintro e w' ⟨rfl, n, os, rfl⟩
  let enc : Int → Value := Value.int .i64
  let d := (sortL zs).toArray
  have hother : ∀ b, b < w.heap.size → b ≠ l.b → (Sort.grow (Sort.putRow enc (Sort.ahead w n) l.b l.off d) os).heap[b]? = w.heap[b]? := by
    intro b hb hne
    rw [Sort.heap_grow_old _ _ (by simpa using hb)]
    simp [Sort.putRow, Sort.mapBlock, Array.getElem?_modify, Ne.symm hne]
  have hself : (Sort.grow (Sort.putRow enc (Sort.ahead w n) l.b l.off d) os).heap[l.b]? = some (.cells (Sort.putCells enc l.off d c) t (0, 0)) := by
    rw [Sort.heap_grow_old _ _ (by simpa using hlt)]
    simp [Sort.putRow, Sort.mapBlock, Array.getElem?_modify, c4, Sort.onCells]
  have hrow : RowOK ⟨w, fun b => ow b ≠ none, vis, μ, []⟩ (Sort.grow (Sort.putRow enc (Sort.ahead w n) l.b l.off d) os) μ ow false 0 ((sortL zs).map (V.int .i64)) .flat := by
    refine ⟨l, hl, by rw [List.length_map, sortL_len]; exact hn', .inr ⟨hreal, hroot, [], ⟨c1, c2, ?_, Sort.putCells enc l.off d c, t, (sortL zs).map (Value.int .i64), hself, ?_, ints_rep _, ?_, ?_⟩, rfl, fun _ e => by
      have := congrArg List.length e
      rw [List.length_map, sortL_len] at this
      exact hne (List.length_eq_zero_iff.1 this)⟩⟩
    · intro x hx
      obtain ⟨z, _, rfl⟩ := List.mem_map.1 hx
      rw [hsz]; rfl
    · simpa [Sort.putCells] using c5
    · intro v hv
      obtain ⟨z, _, rfl⟩ := List.mem_map.1 hv
      rfl
    · intro j x hj
      have hjl : j < (sortL zs).length := by
        rcases Nat.lt_or_ge j (sortL zs).length with q | q
        · exact q
        · rw [List.getElem?_eq_none (by simpa using q)] at hj; cases hj
      have hx : x = .int .i64 (sortL zs)[j] := by simpa [hjl, eq_comm] using hj
      have hjz : j < zs.length := by rw [← sortL_len]; exact hjl
      have hc := c8 j (.int .i64 zs[j]) (by simp [hjz])
      rw [Sort.putCells, Array.getElem?_mapIdx, hc, Option.map_some, if_pos ⟨by omega, by simpa [d] using hjl⟩, hx]
      have : l.off + j - l.off = j := by omega
      rw [this]
      simp [enc, d, hjl]
  refine ⟨_, μ, ow, rfl, ⟨⟨[], .tup [] [] [] .nil, by simp⟩, fun id bk e => ?_, ?_, MLe.refl _, Nat.le_refl _, fun id hid => hi.dom id hid, fun b hb => ?_, fun b hb => .inl hb, ⟨?_, fun b hb hno => ?_, rfl, rfl, rfl, fun x hx => ?_, fun _ hp => nomatch hp⟩⟩⟩
  · cases id with
    | zero =>
      simp only [List.getElem?_cons_zero, Option.some.injEq] at e
      subst e
      exact hrow
    | succ id => simp at e
  · intro bk hb
    rw [List.mem_singleton] at hb
    subst hb
    rfl
  · by_cases q : b = l.b
    · subst q; exact ⟨_, _, hself⟩
    · exact (hi.owl b hb).keep (hother b (hi.owl b hb).lt q)
  · show w.heap.size ≤ _
    simp
  · refine hother b hb fun q => hno ?_
    show ow b ≠ none
    rw [q, hroot]; simp
  · have hx' : x.block < w.heap.size := hx
    rw [Sort.frozen?_grow _ _ _ (by simpa using hx'), Sort.frozen?_putRow, Sort.frozen?_ahead]
end Go.Vm
namespace Go.Vm
open Go
theorem fillK_thin (i : Nat) : (fillK i ≠ .thin) = True := by unfold fillK; split <;> simp
theorem weak_view {m : Nat} {s : St} : Weak m s { s with vw := true } := fun cx a w μ ow hmu h =>
  ⟨μ, ow, ⟨h.dfr, h.sz, fun t => by
    obtain ⟨bl, r1, r2⟩ := h.env t
    exact ⟨bl, r1, fun b hb => (r2 b hb).mono rfl (fun _ => rfl)⟩, fun id bk e => (h.blk id bk e).keep (MLe.refl μ) (fun _ => rfl) (fun b _ _ => ⟨rfl, rfl⟩), h.dom, h.owl, h.own, h.frm, h.mu⟩⟩
def atSlot (t : Nat) (v : V) (l : List (Nat × V)) : List (Nat × V) := l.map fun p => if p.1 = t then (p.1, v) else p
theorem atSlot_cons (t k : Nat) (v x : V) (l : List (Nat × V)) : atSlot t v ((k, x) :: l) = (if k = t then (k, v) else (k, x)) :: atSlot t v l := rfl
theorem atSlot_nil (t : Nat) (v : V) : atSlot t v [] = [] := rfl
theorem ret_refK {s : St} {k : Nat} {xs ys : List V} {kd : Kd} (hO : s.O[k]? = some (.arr xs kd)) (hk : (kd != .shal && kd != .mix) = true) (e : xs = ys) : RetOK 0 s (.ref k) (.ref 0) [.arr ys kd] := by
  subst e
  have hf : (refsOf (.ref k)).filter (fun id => Nat.ble 0 id) = [k] := by simp [refsOf, refs2, refs1]
  unfold RetOK
  simp only [hf]
  simp only [Bool.and_eq_true] at hk
  refine ⟨⟨by simp [V.only, idx], by simp, Nat.zero_le _⟩, by simp [V.ren, outNo, idx], by simp [hO], ?_, .inr ⟨by simp [V.clean, V.noSl], ?_⟩⟩
  · intro bk hb
    rw [List.mem_singleton] at hb
    subst hb
    exact hk.2
  · intro bk hb
    rw [List.mem_singleton] at hb
    subst hb
    show (kd != .shal && kd != .mix) = true
    rw [hk.1, hk.2]; rfl
theorem Con.thin {P : Program} {f : FuncId} {args : List V} {r : V} {xs : List V} (h : Con P f args [] r [.arr xs .flat]) : Con P f args [] r [.arr xs .thin] := by
  refine ⟨h.1, fun w vals μ ow vis hi => (h.2 w vals μ ow vis hi).mono ?_⟩
  rintro e w' ⟨v, μ', ow', he, hout⟩
  refine ⟨v, μ', ow', he, hout.rep, fun id bk hb => ?_, ?_, hout.same, hout.len, hout.dom, hout.owl, hout.own, hout.frm⟩
  · cases id with
    | zero =>
      simp only [List.getElem?_cons_zero, Option.some.injEq] at hb
      subst hb
      obtain ⟨l, q1, q2, q3⟩ := hout.blk 0 (.arr xs .flat) rfl
      refine ⟨l, q1, q2, ?_⟩
      rcases q3 with q3 | ⟨q3, q4, bl, q5, q6, q7⟩
      · exact .inl q3
      · exact .inr ⟨q3, q4, bl, q5, q6, fun q => absurd rfl q⟩
    | succ n => simp at hb
  · intro bk hb
    rw [List.mem_singleton] at hb
    subst hb
    rfl
theorem join_t : kdJoin .thin false false = some .thin := rfl
theorem thin_mix : (Kd.thin != Kd.mix) = true := rfl
theorem shal_mix : (Kd.shal != Kd.mix) = true := rfl
theorem nil_eql : (BinOp.eql == BinOp.neq) = false := rfl
theorem nil_neq : (BinOp.neq == BinOp.neq) = true := rfl
structure Caps (caps : List V) : Prop where
  cc : ∀ s ls, toCells s ls caps = some caps
  ca : ∀ s, toArgs s [] caps = some caps
  cn : ∀ p, V.onlyL p caps = true
  cr : ∀ ρ, V.renL ρ caps = caps
theorem Caps.nil : Caps [] := ⟨fun _ _ => rfl, fun _ => rfl, fun _ => by simp [V.onlyL], fun _ => rfl⟩
theorem Caps.pv {caps : List V} (xs : List V) (h : Caps caps) : Caps (.pv xs 0 0 :: caps) :=
  ⟨fun s ls => by simp [toCells, toCell, h.cc], fun s => by simp [toArgs, toArg, toCell, h.ca], fun p => by simp [V.onlyL, V.only, h.cn], fun ρ => by simp [V.renL, V.ren, h.cr]⟩
theorem rho_one (id n : Nat) : rho [id] n 0 = id := rfl
theorem beq_dec (m n : Nat) : Nat.beq m n = decide (m = n) := by
  cases h : Nat.beq m n with
  | true => rw [decide_eq_true (Nat.eq_of_beq_eq_true h)]
  | false => rw [decide_eq_false fun e => by rw [e, Nat.beq_refl] at h; cases h]
end Go.Vm
namespace Go.Vm
open Go
section
variable {α : Type} {f : α → V}
end
end Go.Vm
namespace Go.Vm
open Go
section
variable {τ α : Type} {pre : τ → List V} {sl : τ → List α} {f : α → V} {n : Nat}
end
end Go.Vm
namespace Go.Vm
open Go
def zE := (And.intro (@get_mk) (And.intro (@look_cons) (And.intro (@look_nil) (And.intro (@set_none) (And.intro (@ev_tmp) (And.intro (@ev_const) (And.intro (@ev_func) (And.intro (@dst_some) (And.intro (@dst_none) (And.intro (@List.append_nil.{0}) (And.intro (@List.nil_append.{0}) (And.intro (@List.cons_append.{0}) (And.intro (@true_and) (And.intro (@and_true) (And.intro (@and_self) (And.intro (@imp_self) (And.intro (@Bool.false_eq_true) (And.intro (@false_implies) (And.intro (@cond_true.{1}) (And.intro (@cond_false.{1}) (And.intro (@decide_eq_true_eq) (And.intro (@eq_self_iff_true.{1}) (And.intro (@exists_eq_left'.{1}) (And.intro (@Option.some.injEq.{0}) (And.intro (@not_false_eq_true) (And.intro (@not_true_eq_false) (@ne_eq.{1})))))))))))))))))))))))))))
def zS := (And.intro (@settle_int) (And.intro (@settle_bool) (And.intro (@settle_str) (And.intro (@settle_nsl) (And.intro (@settle_sl) (And.intro (@settle_ref) (And.intro (@settle_sub) (And.intro (@settle_ptr) (And.intro (@settle_pv) (And.intro (@settle_tup) (And.intro (@settle_fn) (And.intro (@settle_npt) (And.intro (@settle_agg) (And.intro (@settleL_nil) (And.intro (@settleL_nsl) (And.intro (@settleL_int) (And.intro (@settleL_bool) (And.intro (@settleL_str) (And.intro (@settleL_sl) (And.intro (@settleL_ref) (And.intro (@List.length_nil.{0}) (And.intro (@List.length_cons.{0}) (And.intro (@List.length_append.{0}) (And.intro (@Nat.zero_add) (And.intro (@Nat.add_zero) (@List.cons_append.{0}))))))))))))))))))))))))))
def zN := (And.intro (@Nat.zero_lt_one) (And.intro (@Nat.lt_add_one) (And.intro (@Nat.zero_add) (And.intro (@Nat.add_zero) (And.intro (@Nat.le_refl) (@Nat.zero_lt_succ))))))
def zL := (And.intro (@List.getElem?_toArray.{0}) (And.intro (@List.getElem?_cons_succ.{0}) (And.intro (@List.getElem?_cons_zero.{0}) (And.intro (@List.getD_cons_zero.{0}) (And.intro (@List.getD_cons_succ.{0}) (And.intro (@List.length_cons.{0}) (And.intro (@List.length_nil.{0}) (And.intro (@List.drop_zero.{0}) (And.intro (@List.drop_succ_cons.{0}) (And.intro (@List.headD_cons.{0}) (And.intro (@List.take_succ_cons.{0}) (And.intro (@List.take_zero.{0}) (And.intro (@List.take_nil.{0}) (And.intro (@List.drop_nil.{0}) (And.intro (@List.map_cons.{0,0}) (And.intro (@List.map_nil.{0,0}) (And.intro (@Option.bind_some.{0,0}) (And.intro (@Option.isSome_some.{0}) (@Option.map_some.{0,0})))))))))))))))))))
def zO := (And.intro (@Bool.or_false) (And.intro (@Bool.false_or) (And.intro (@Bool.or_true) (And.intro (@Bool.true_or) (And.intro (@Bool.not_true) (And.intro (@Bool.not_false) (And.intro (@Bool.and_false) (And.intro (@Bool.and_true) (And.intro (@Bool.false_and) (And.intro (@Bool.true_and) (And.intro (@decide_true) (And.intro (@decide_false) (And.intro (@Bool.or_self) (@Bool.and_self))))))))))))))
def zJ := (And.intro (@join_ff) (And.intro (@join_ft) (And.intro (@join_fv) (And.intro (@join_d) (And.intro (@join_s) (And.intro (@fillK_join0) (And.intro (@List.isEmpty_nil.{0}) (And.intro (@List.isEmpty_cons.{0}) (And.intro (@fillK_join) (And.intro (@List.not_mem_nil.{0}) (And.intro (@List.nodup_nil.{0}) (And.intro (@List.mem_singleton.{0}) (And.intro (@List.nodup_cons.{0}) (And.intro (@beq_self_eq_true.{0}) (And.intro (@Bool.cond_true.{1}) (And.intro (@Bool.cond_false.{1}) (And.intro (@List.all_cons.{0}) (And.intro (@List.all_nil.{0}) (And.intro (@List.set_cons_zero.{0}) (@List.set_cons_succ.{0}))))))))))))))))))))
def zP := (And.intro (@Bool.cond_true_right) (And.intro (@Bool.cond_true_left) (And.intro (@Bool.cond_false_right) (@Bool.cond_false_left))))
def zG := (And.intro (@List.getElem?_toArray.{0}) (And.intro (@List.getElem?_cons_succ.{0}) (And.intro (@List.getElem?_cons_zero.{0}) (@Option.bind_some.{0,0}))))
def zV := (And.intro (@get_mk) (And.intro (@look_cons) (And.intro (@cond_true.{1}) (And.intro (@cond_false.{1}) (And.intro (@Bool.and_false) (And.intro (@Bool.false_and) (And.intro (@Bool.not_true) (And.intro (@Bool.not_false) (And.intro (@List.getElem?_toArray.{0}) (And.intro (@List.getElem?_cons_succ.{0}) (And.intro (@List.getElem?_cons_zero.{0}) (@Option.bind_some.{0,0}))))))))))))
def zC := (And.intro (@decide_eq_true_eq) (And.intro (@decide_eq_false_iff_not) (And.intro (@Bool.and_eq_true) (And.intro (@Bool.or_eq_true) (And.intro (@Bool.not_eq_true') (And.intro (@Bool.not_eq_false') (And.intro (@Bool.and_eq_false_imp) (And.intro (@Bool.or_eq_false_iff) (And.intro (@Int.not_lt) (And.intro (@Int.not_le) (And.intro (@Bool.true_eq_false) (And.intro (@Bool.false_eq_true) (And.intro (@imp_false) (@Classical.not_imp))))))))))))))
def zM := (And.intro (@List.map_cons.{0,0}) (And.intro (@List.map_nil.{0,0}) (And.intro (@List.append_nil.{0}) (And.intro (@List.flatMap_nil.{0,0}) (And.intro (@List.mem_cons.{0}) (And.intro (@List.not_mem_nil.{0}) (And.intro (@or_false) (And.intro (@forall_eq_or_imp.{1}) (And.intro (@forall_eq.{1}) (@false_implies))))))))))
def zW := (And.intro (@get_mk) (And.intro (@look_cons) (And.intro (@look_nil) (And.intro (@set_none) (And.intro (@ev_tmp) (And.intro (@ev_const) (@ev_func)))))))
def zY := (And.intro (@List.append_nil.{0}) (And.intro (@List.cons_append.{0}) (And.intro (@List.nil_append.{0}) (And.intro (@List.length_nil.{0}) (And.intro (@List.length_cons.{0}) (And.intro (@Nat.zero_add) (And.intro (@Nat.not_lt_zero) (And.intro (@if_false.{1}) (@Nat.sub_zero)))))))))
theorem rng0 : List.range 0 = [] := rfl
theorem rng1 : List.range 1 = [0] := rfl
theorem rng2 : List.range 2 = [0, 1] := rfl
theorem rng3 : List.range 3 = [0, 1, 2] := rfl
theorem rng4 : List.range 4 = [0, 1, 2, 3] := rfl
theorem rng5 : List.range 5 = [0, 1, 2, 3, 4] := rfl
theorem rng6 : List.range 6 = [0, 1, 2, 3, 4, 5] := rfl
theorem rng7 : List.range 7 = [0, 1, 2, 3, 4, 5, 6] := rfl
theorem rng8 : List.range 8 = [0, 1, 2, 3, 4, 5, 6, 7] := rfl
theorem rng9 : List.range 9 = [0, 1, 2, 3, 4, 5, 6, 7, 8] := rfl
theorem rng10 : List.range 10 = [0, 1, 2, 3, 4, 5, 6, 7, 8, 9] := rfl
theorem rng11 : List.range 11 = [0, 1, 2, 3, 4, 5, 6, 7, 8, 9, 10] := rfl
theorem rng12 : List.range 12 = [0, 1, 2, 3, 4, 5, 6, 7, 8, 9, 10, 11] := rfl
theorem flat_mix : (Kd.flat != Kd.mix) = true := rfl
theorem deep_mix : (Kd.deep != Kd.mix) = true := rfl
end Go.Vm
namespace Go.Vm
open Go
theorem RepL.len {w : World} {μ : Nat → Option Loc} : ∀ {xs : List V} {vs : List Value} {bl : List Nat}, RepL w μ xs vs bl → vs.length = xs.length
  | _, _, _, .nil => rfl
  | _, _, _, .cons v x bl vs xs bl' h ht => by rw [List.length_cons, List.length_cons, RepL.len ht]
def newIds (m : Nat) (v : V) : List Nat := (refsOf v).filter fun id => Nat.ble m id
theorem ret_all {m : Nat} {s : St} {v r : V} {O' : List Blk} (h2 : v.only (fun id => Nat.blt id m || (idx (newIds m v) id).isSome) = true) (h3 : (newIds m v).Nodup) (hm : m ≤ s.O.length)
    (h4 : v.ren (outNo m (newIds m v)) = r) (h5 : s.O.take m ++ (newIds m v).map (fun id => s.O.getD id .dead) = O') (h6 : ∀ bk ∈ O', bk.kindIs (fun k => k != .shal && k != .mix) = true) (h7 : v.clean = true) : RetOK m s v r O' := by
  subst h4 h5
  unfold RetOK
  refine ⟨⟨h2, h3, hm⟩, rfl, rfl, fun bk hb => ?_, .inr ⟨h7, h6⟩⟩
  have := h6 bk hb
  cases bk with
  | dead => simp [Blk.kindIs] at this ⊢
  | arr xs k => cases k <;> simp_all [Blk.kindIs]
  | box x k => cases k <;> simp_all [Blk.kindIs]
theorem ret_viewX {m : Nat} {s : St} {v : V} {R : V → List Blk → Prop} (hR : R (v.ren (outNo m (newIds m v))) (s.O.take m ++ (newIds m v).map (fun id => s.O.getD id .dead))) (hw : s.vw = false := by rfl)
    (h2 : v.only (fun id => Nat.blt id m || (idx (newIds m v) id).isSome) = true := by rfl) (h3 : (newIds m v).Nodup := by first | decide | simp [newIds, refsOf, refs2, refs1]) (hm : m ≤ s.O.length := by simp)
    (h6 : ∀ bk ∈ s.O.take m ++ (newIds m v).map (fun id => s.O.getD id .dead), bk.kindIs (fun k => k != .mix) = true := by simp [newIds, refsOf, refs2, refs1, Blk.kindIs, fillK_mix]) : ∃ r O', R r O' ∧ RetOK m s v r O' :=
  ⟨_, _, hR, by
    unfold RetOK
    exact ⟨⟨h2, h3, hm⟩, rfl, rfl, h6, .inl hw⟩⟩
theorem rho_s (id n j : Nat) : rho [id] n (j + 1) = n + j := by simp [rho]
theorem aCall_guard0 {P : Program} {s : St} {f : FuncId} {args args' : List V} {r : V} {K : V → Prop} {G : Prop} (hc : G → Con P f args' [] r []) (ht : toArgs s [] args = some args')
    (hr : r.only (fun _ => false) = true) (hcl : r.clean = true) (hk : K r) : ∃ r, (G → aCall P s f [] args fun v s' => v = r ∧ s' = { s with O := s.O ++ [] }) ∧ K r :=
  ⟨r, fun g => aCall_new (hc g) ht (.inl ⟨hcl, by simp⟩) ⟨ren_only (by simp) hr, rfl⟩, hk⟩
theorem v_join {P : Program} {L : Lend} {m : Nat} {Q : AEx → St → Prop} {s : St} {x y : Code} {A : Type} (S : A → St) (ok : A → Prop)
    (h1 : ∀ Q' : AEx → St → Prop, (∀ p s, ok p → Weak m s (S p) → Q' .normal s) → (∀ i s, Q (.exit i) s → Q' (.exit i) s) → (∀ s, Q .ret s → Q' .ret s) → awp P L m x Q' s)
    (h2 : ∀ p, ok p → awp P L m y Q (S p)) : awp P L m (.seq x y) Q s :=
  v_seq fun Q' hn he hr => h1 Q' (fun p s hok hw => hn s (S p) hw (h2 p hok)) he hr
theorem v_seqR {P : Program} {L : Lend} {m : Nat} {Q : AEx → St → Prop} {s : St} {id : Nat} {ops : Array Oper} {y : Code} (ks : List Nat)
    (h : ∀ K : St → Prop, (∀ s, awp P L m y Q (s.keep ks) → K s) → aOps P L ops K ops.toList s) : awp P L m (.seq (.region id ops false) y) Q s :=
  v_seq fun _ hn _ _ => v_region fun K k => h K fun s q => k s (hn s (s.keep ks) (weak_keep ks s) q)
structure Rw (O : List Blk) (i : Nat) (b : Blk) : Prop where
  h : O[i]? = some b
theorem row_sym {O : List Blk} {t : St} {i : Nat} {b : Blk} (h : Grow O t.O) (r : Rw O i b) : t.row i = Blk.row b := by
  unfold St.row
  rw [h i b r.h]; rfl
theorem aCall_newX {P : Program} {s : St} {f : FuncId} {args args' : List V} {R : V → List Blk → Prop} {K : V → St → Prop} (hc : ConX P f args' [] R) (ht : toArgs s [] args = some args')
    (h : ∀ r O', R r O' → ((r.clean = true ∧ ∀ bk ∈ O', bk.kindIs (fun k => k != .shal && k != .mix) = true) ∨ (∀ x ∈ args, x.coldIn [] = true)) ∧ K (r.ren (rho [] s.O.length)) { s with O := s.O ++ O' }) : aCall P s f [] args K :=
  ⟨args', [], R, ht, rfl, List.nodup_nil, by simp, .inr (by simp), hc, fun r O' hR => ⟨(h r O' hR).1, by unfold setBlks; exact (h r O' hR).2⟩⟩
theorem aCall_lentX {P : Program} {s : St} {f : FuncId} {args args' : List V} {bk : Blk} {R : V → List Blk → Prop} {K : V → St → Prop} (id : Nat) (hc : ConX P f args' [bk] R) (ht : toArgs s [id] args = some args')
    (hO : s.O[id]? = some bk) (hbk : bk.kindIs (fun k => k != .mix) = true ∧ bk ≠ .dead) (hv : s.vw = false ∨ bk.kindIs (fun k => k == .flat) = true)
    (h : ∀ r O', R r O' → ∃ bk' O1, O' = bk' :: O1 ∧ ((r.clean = true ∧ ∀ b ∈ O', b.kindIs (fun k => k != .shal && k != .mix) = true) ∨ (∀ x ∈ args, x.coldIn [id] = true)) ∧ K (r.ren (rho [id] s.O.length)) { s with O := s.O.set id bk' ++ O1 }) : aCall P s f [id] args K :=
  ⟨args', [bk], R, ht, by simp [hO], by simp, by simpa using hbk, hv.imp (fun h => h) (fun h => by simpa using h), hc, fun r O' hR => by
    obtain ⟨bk', O1, e, h1, h2⟩ := h r O' hR
    subst e
    exact ⟨h1, by simpa [setBlks] using h2⟩⟩
theorem aCall_lent2X {P : Program} {s : St} {f : FuncId} {args args' : List V} {bk bk2 : Blk} {R : V → List Blk → Prop} {K : V → St → Prop} (i j : Nat) (hc : ConX P f args' [bk, bk2] R) (ht : toArgs s [i, j] args = some args')
    (hO : s.O[i]? = some bk) (hO2 : s.O[j]? = some bk2) (hn : i ≠ j) (hbk : (bk.kindIs (fun k => k != .mix) = true ∧ bk ≠ .dead) ∧ (bk2.kindIs (fun k => k != .mix) = true ∧ bk2 ≠ .dead)) (hv : s.vw = false)
    (h : ∀ r O', R r O' → ∃ b1 b2 O1, O' = b1 :: b2 :: O1 ∧ ((r.clean = true ∧ ∀ b ∈ O', b.kindIs (fun k => k != .shal && k != .mix) = true) ∨ (∀ x ∈ args, x.coldIn [i, j] = true)) ∧ K (r.ren (rho [i, j] s.O.length)) { s with O := (s.O.set i b1).set j b2 ++ O1 }) : aCall P s f [i, j] args K :=
  ⟨args', [bk, bk2], R, ht, by simp [hO, hO2], by simp [hn], by
    intro b hb
    rcases List.mem_cons.1 hb with rfl | hb
    · exact hbk.1
    · rw [List.mem_singleton] at hb; subst hb; exact hbk.2, .inl hv, hc, fun r O' hR => by
    obtain ⟨b1, b2, O1, e, h1, h2⟩ := h r O' hR
    subst e
    exact ⟨h1, by simpa [setBlks] using h2⟩⟩
theorem rho2_s (i j n m : Nat) : rho [i, j] n (m + 2) = n + m := by
  rw [rho, if_neg (by simp)]; simp
theorem rho2_0 (i j n : Nat) : rho [i, j] n 0 = i := rfl
theorem rho2_1 (i j n : Nat) : rho [i, j] n 1 = j := rfl
theorem v_opG {P : Program} {L : Lend} {s : St} {rg : Array Oper} {K : St → Prop} {o : Oper} {rest : List Oper}
    (h : ∀ K' : St → Prop, (∀ s, aOps P L rg K rest s → K' s) → dstOK o.dst s.n ∧ ∃ j want G, o.guard = some (j, want) ∧ guardV s rg j want = some G ∧ (G = true → aExec P L s o fun v s' => K' (s'.set o.dst (.opt true v))) ∧ (G = false → ∃ v, K' (s.set o.dst (.opt false v)))) : aOps P L rg K (o :: rest) s :=
  .inr (h _ fun _ h => h)
theorem aStep_guardX {P : Program} {L : Lend} {s : St} {rg : Array Oper} {o : Oper} {K : St → Prop} (j : Nat) (want : Bool) {G : Bool} {f : FuncId} {args args' : List V} {bk : Blk} {R : V → List Blk → Prop} {id : Nat} (hd : dstOK o.dst s.n) (hg : o.guard = some (j, want))
    (hv : guardV s rg j want = some G) (hc : G = true → ConX P f args' [bk] R) (he : G = true → ∀ F : V → St → Prop, aCall P s f [id] args F → aExec P L s o F) (hsame : ∃ r, R r [bk])
    (ht : toArgs s [id] args = some args') (hO : s.O[id]? = some bk) (hbk : bk.kindIs (fun k => k != .mix) = true ∧ bk ≠ .dead) (hw : s.vw = false ∨ bk.kindIs (fun k => k == .flat) = true)
    (h : ∀ r O', R r O' → ∃ bk', O' = [bk'] ∧ (r.clean = true ∧ r.only (fun _ => false) = true ∧ bk'.kindIs (fun k => k != .mix) = true ∧ (bk'.kindIs (fun k => k != .shal && k != .mix) = true ∨ ∀ x ∈ args, x.coldIn [id] = true)) ∧ K (({ s with O := s.O.set id bk' } : St).set o.dst (.opt G r))) :
    dstOK o.dst s.n ∧ ∃ j want G, o.guard = some (j, want) ∧ guardV s rg j want = some G ∧ (G = true → aExec P L s o fun v s' => K (s'.set o.dst (.opt true v))) ∧ (G = false → ∃ v, K (s.set o.dst (.opt false v))) := by
  refine ⟨hd, j, want, G, hg, hv, fun hG => ?_, fun hG => ?_⟩
  · subst hG
    refine he rfl _ (aCall_lentX id (hc rfl) ht hO hbk hw fun r O' hR => ?_)
    obtain ⟨bk', rfl, ⟨h1, h2, h3, h4⟩, h5⟩ := h r O' hR
    refine ⟨bk', [], rfl, h4.imp (fun q => ⟨h1, by simpa using q⟩) (fun q => q), ?_⟩
    rw [ren_only (by simp) h2, List.append_nil]
    exact h5
  · subst hG
    obtain ⟨r, hr⟩ := hsame
    obtain ⟨bk', e, _, h5⟩ := h r _ hr
    simp only [List.cons.injEq, and_true] at e
    subst e
    refine ⟨r, ?_⟩
    have : s.O.set id bk = s.O := by
      apply List.ext_getElem?
      intro i
      by_cases hi : i = id
      · subst hi
        have hlt : i < s.O.length := by
          rcases Nat.lt_or_ge i s.O.length with q | q
          · exact q
          · rw [List.getElem?_eq_none q] at hO; cases hO
        rw [List.getElem?_set_self hlt, hO]
      · rw [List.getElem?_set_ne (fun q => hi q.symm)]
    rw [this] at h5
    exact h5
end Go.Vm
namespace Go.Vm
open Go Go.RowKit
theorem tabIs_of {P : Program} {g : Nat} (hg : P.globalNamed "internal/strconv.uint64pow10" = some g) {w : World} (h : ∀ p ∈ tabsOf P, ∃ t fr, w.heap[p.1]? = some (.cells p.2 t fr)) :
    Lib.TabIs P w "internal/strconv.uint64pow10" .u64 Lib.pow10Tab := by
  have hm : (g, (Lib.pow10Tab.map fun z => Value.int .u64 z).toArray) ∈ tabsOf P := by unfold tabsOf; rw [hg]; simp
  obtain ⟨t, fr, q⟩ := h _ hm
  unfold Lib.TabIs World.var?
  rw [hg]
  simp only [Option.bind_some]
  rw [q]
theorem tabs_of_tabIs {P : Program} {w : World} (h : Lib.TabIs P w "internal/strconv.uint64pow10" .u64 Lib.pow10Tab) : ∀ p ∈ tabsOf P, ∃ t fr, w.heap[p.1]? = some (.cells p.2 t fr) := by
  intro p hp
  unfold tabsOf at hp
  unfold Lib.TabIs World.var? at h
  cases hg : P.globalNamed "internal/strconv.uint64pow10" with
  | none => rw [hg] at hp; cases hp
  | some g =>
    rw [hg] at hp h
    simp only [List.mem_singleton] at hp
    subst hp
    simp only [Option.bind_some] at h
    split at h
    · rename_i cs t fr e
      simp only [Option.some.injEq] at h
      subst h
      exact ⟨t, fr, e⟩
    · cases h
theorem con_int1 {P : Program} {f : FuncId} {n : Int} {r : V} {rv : Value} (hf : ∃ fn, P.funcs[f]? = some fn ∧ (fn.name == "runtime.NumGoroutine") = false ∧ fn.body.isNone = false) (hr : ∀ w μ, Rep w μ r rv [])
    (h : ∀ w, (∀ p ∈ tabsOf P, ∃ t fr, w.heap[p.1]? = some (.cells p.2 t fr)) → Calls P f #[.int .i64 n] w fun e w' => e = .returned rv ∧ ∃ k os, w' = Sort.grow (w.drewN k) os) : Con P f [.int .i64 n] [] r [] := by
  refine ⟨hf, fun w vals μ ow vis hi => ?_⟩
  have h0 : vals.getD 0 undef = .int .i64 n := by
    obtain ⟨bl, r0, _⟩ := hi.arg 0 _ rfl
    generalize vals.getD 0 undef = x at r0 ⊢
    cases r0; rfl
  have hs : vals.size = 1 := hi.sz
  have hv : vals = #[.int .i64 n] := by
    apply Array.ext
    · simpa using hs
    · intro i hi1 hi2
      have hi3 : i < 1 := by simpa using hi2
      have e : vals.getD i undef = vals[i] := by simp [Array.getD, hi1]
      have : i = 0 := by omega
      subst this; rw [← e, h0]; rfl
  subst hv
  refine (h w fun p hp => (hi.tab p hp).2).mono ?_
  rintro e w' ⟨rfl, k, os, rfl⟩
  have hold : ∀ b, b < w.heap.size → (Sort.grow (w.drewN k) os).heap[b]? = w.heap[b]? := fun b hb => Sort.heap_grow_old (w.drewN k) os hb
  refine ⟨rv, μ, ow, rfl, ⟨⟨[], hr _ _, by simp⟩, by simp, by simp, MLe.refl _, Nat.le_refl _, hi.dom, fun b hb => (hi.owl b hb).keep (hold b (hi.owl b hb).lt), fun b hb => .inl hb, ⟨?_, fun b hb _ => hold b hb, rfl, rfl, rfl, fun x hx => ?_, fun _ hp => nomatch hp⟩⟩⟩
  · show w.heap.size ≤ _
    rw [Sort.size_grow]
    exact Nat.le_add_right _ _
  · exact Sort.frozen?_grow (w.drewN k) os x hx
def numB (n : Nat) : ByteArray := ⟨(Lib.decDigits n).toArray⟩
theorem numB_lt {n : Nat} (h : n < 10) : numB n = ⟨#[UInt8.ofNat (48 + n)]⟩ := by
  unfold numB; rw [Lib.decDigits, dif_pos h]
theorem numB_ge {n : Nat} (h : ¬ n < 10) : numB n = numB (n / 10) ++ ⟨#[UInt8.ofNat (48 + n % 10)]⟩ := by
  unfold numB
  conv => lhs; rw [Lib.decDigits, dif_neg h]
  apply ByteArray.ext
  simp [ByteArray.append_eq, ByteArray.data_append]
theorem itoa_nat {n : Int} (h : 0 ≤ n) : (⟨(Lib.itoa n).toArray⟩ : ByteArray) = numB n.toNat := by
  unfold Lib.itoa numB
  rw [if_neg (by omega)]
theorem numB_size : ∀ (k n : Nat), n < 10 ^ k → 0 < k → (numB n).size ≤ k
  | 0, n, _, h => by omega
  | 1, n, h, _ => by rw [numB_lt (by simpa using h)]; exact Nat.le_refl 1
  | k + 2, n, h, _ => by
    by_cases q : n < 10
    · rw [numB_lt q]; show 1 ≤ k + 2; omega
    · rw [numB_ge q, ByteArray.size_append]
      have := numB_size (k + 1) (n / 10) (by rw [Nat.pow_succ] at h; omega) (by omega)
      have e : (⟨#[UInt8.ofNat (48 + n % 10)]⟩ : ByteArray).size = 1 := rfl
      omega
def joinB (ws : List ByteArray) (sep : ByteArray) : ByteArray := ⟨(Lib.join (ws.map (·.data.toList)) sep.data.toList).toArray⟩
theorem strs_rep {w : World} {μ : Nat → Option Loc} : ∀ (ws : List ByteArray) {vs : List Value} {bl : List Nat}, RepL w μ ((ws.map V.str).flatMap V.cells) vs bl → vs = ws.map Value.string
  | [], _, _, .nil => rfl
  | a :: ws, _, _, h => by
    rw [List.map_cons, List.flatMap_cons] at h
    cases h with
    | cons _ x _ _ xs _ h ht =>
      cases h
      rw [strs_rep ws ht, List.map_cons]
theorem con_join {P : Program} {f : FuncId} {ws : List ByteArray} {sep : ByteArray} (hf : ∃ fn, P.funcs[f]? = some fn ∧ (fn.name == "runtime.NumGoroutine") = false ∧ fn.body.isNone = false)
    (h0 : ∀ (a : Option Addr) (c : Nat) (w : World), Calls P f #[.slice a 0 c, .string sep] w fun e w' => e = .returned (.string ⟨#[]⟩) ∧ w' = w)
    (h : ∀ (b o c : Nat) (w : World), (∀ (j : Nat) x, ws[j]? = some x → w.cell? ⟨b, o + j, none⟩ = some (.string x)) → b < w.heap.size → ws.length ≤ c →
      Calls P f #[.slice (some ⟨b, o, none⟩) ws.length c, .string sep] w fun e w' => e = .returned (.string (joinB ws sep)) ∧ Below w.heap.size w w') : Con P f [.sl (ws.map V.str), .str sep] [] (.str (joinB ws sep)) [] := by
  refine ⟨hf, fun w vals μ ow vis hi => ?_⟩
  have hs : vals.size = 2 := hi.sz
  have h1 : vals.getD 1 undef = .string sep := by
    obtain ⟨bl, r0, _⟩ := hi.arg 1 _ rfl
    generalize vals.getD 1 undef = x at r0 ⊢
    cases r0; rfl
  obtain ⟨bl, r0, rv⟩ := hi.arg 0 _ rfl
  have hv : vals = #[vals.getD 0 undef, .string sep] := by
    apply Array.ext
    · simpa using hs
    · intro i hi1 hi2
      have hi3 : i < 2 := by simpa using hi2
      have e : vals.getD i undef = vals[i] := by simp [Array.getD, hi1]
      rcases Nat.lt_or_ge i 1 with q | q
      · have : i = 0 := by omega
        subst this; rw [← e]; rfl
      · have : i = 1 := by omega
        subst this; rw [← e, h1]; rfl
  have key : Calls P f #[vals.getD 0 undef, .string sep] w fun e w' => e = .returned (.string (joinB ws sep)) ∧ Below w.heap.size w w' := by
    generalize hx : vals.getD 0 undef = x at r0 ⊢
    generalize hxs : ws.map V.str = xs at r0
    cases r0 with
    | sl0 a c =>
      have hw : ws = [] := by cases ws with | nil => rfl | cons a b => simp at hxs
      subst hw
      exact (h0 a c w).mono fun e w' ⟨he, hw⟩ => ⟨he, hw ▸ Below.refl _ _⟩
    | sl _ b off c sz vs bl' g0 hc hs hz hl h1 hr =>
      subst hxs
      have hvs := strs_rep ws hl
      subst hvs
      have hne : ws ≠ [] := fun e => g0 (by rw [e]; rfl)
      rw [List.length_map]
      refine h b off c w (fun j x hj => hr j _ (by rw [List.getElem?_map, hj]; rfl)) ?_ (by simpa using hc.1)
      cases ws with
      | nil => exact absurd rfl hne
      | cons a ws => exact Row.lt (vs := ws.map Value.string) (by simpa using hr)
  rw [hv]
  refine key.mono ?_
  rintro e w' ⟨rfl, hb⟩
  have hold : ∀ b, b < w.heap.size → w'.heap[b]? = w.heap[b]? := fun b hlt => hb.block b hlt
  exact ⟨_, μ, ow, rfl, ⟨⟨[], .str _, by simp⟩, by simp, by simp, MLe.refl _, Nat.le_refl _, hi.dom, fun b hb' => (hi.owl b hb').keep (hold b (hi.owl b hb').lt), fun b hb => .inl hb,
    ⟨hb.size, fun b hlt _ => hold b hlt, hb.os, hb.tape, hb.output, fun x hx => by simp only [World.frozen?, hold x.block hx], fun _ hp => nomatch hp⟩⟩⟩
end Go.Vm
namespace Go.Vm
open Go
structure Tys (p : Prop) : Prop where
  h : p
structure Fc (p : Prop) : Prop where
  h : p
structure Ho (p : Prop) : Prop where
  h : p
theorem andA {A B : Prop} (b : B) (a : A := by first | omega | (intros; omega) | (intros; simp_all; done) | (intros; simp_all; omega)) : A ∧ B := ⟨a, b⟩
theorem andC {A B : Prop} (b : B) (a : A := by first | rfl | (intros; simp_all; done)) : A ∧ B := ⟨a, b⟩
theorem v_passB {P : Program} {L : Lend} {s : St} {rg : Array Oper} {K : St → Prop} {o : Oper} {rest : List Oper} {d j : Nat} {want : Bool} (hd : o.dst = some d) (hn : Nat.blt d s.n = true) (hg : o.guard = some (j, want)) (hv : guardV s rg j want = some false) (h : aOps P L rg K rest (s.set (some d) (.opt false .any))) : aOps P L rg K (o :: rest) s :=
  v_pass d j want hd (by rwa [Nat.blt_eq] at hn) hg hv h
theorem zAlloc {A B : Prop} (b : Ho B) (e : Ho B → A := by
  intro b
  refine v_op ?_
  intro K k
  simp only [zE, zS, zO, zN, aStepM, optable, set_some, Nat.reduceEqDiff, reduceIte, Nat.reduceLT, implies_true, forall_const, reduceCtorEq, V.ofValue, V.ofScalar, V.un, V.gd, aExec, aop, Nat.reduceAdd, Value.oneCell', V.isVal, V.cells, kindOf, kindAll, V.noSl, V.noRef, List.all_cons, List.all_nil, List.map_cons, List.map_nil, gt_iff_lt, Nat.reduceLeDiff, Nat.reduceMul, contentL, ‹Tys _›.h, ‹Fc _›.h]
  repeat (refine andA ?_)
  refine k _ ?_
  clear k K
  exact b.h) : A := e b
theorem zAppend {A B : Prop} (b : Ho B) (e : Ho B → A := by
  intro b
  refine v_op ?_
  intro K k
  simp only [zE, zL, zO, zN, aStepM, optable, set_some, Nat.reduceEqDiff, reduceIte, Nat.reduceLT, implies_true, forall_const, reduceCtorEq, V.ofValue, V.ofScalar, V.un, V.gd, aExec, aop, fillK_thin, beq_self_eq_true, List.nodup_cons, List.mem_singleton, forall_eq', List.size_toArray, List.getD_eq_getElem?_getD, Array.getD_eq_getD_getElem?, Option.getD_some, aAppend, destOf, srcOf, takeElems, takeV, takeCell, takeCells, row_mk, Blk.row, killAll, V.isSub, V.noSl, Value.cells, Option.toList, List.forall_mem_map, List.length_map, List.all_cons, List.all_nil, List.isEmpty_nil, List.isEmpty_cons, List.not_mem_nil, List.nodup_nil, join_ff, join_ft, join_fv, join_d, join_s, fillK_join0, fillK_join, List.mem_cons, or_false, forall_eq_or_imp, forall_eq, List.set_cons_zero, List.set_cons_succ, List.length_append, Go.Vm.V.cells, Nat.reduceAdd, Nat.reduceLeDiff, Nat.reduceMul, contentL, Value.oneCell', ‹Tys _›.h, ‹Fc _›.h]
  repeat (refine andA ?_)
  refine k _ ?_
  clear k K
  exact b.h) : A := e b
theorem zAssign {A B : Prop} (b : Ho B) (e : Ho B → A := by
  intro b
  refine v_op ?_
  intro K k
  simp only [zE, zS, aStepM, optable, set_some, Nat.reduceEqDiff, reduceIte, Nat.reduceLT, implies_true, forall_const, reduceCtorEq, V.ofValue, V.ofScalar, V.un, V.gd, aExec, aop, Nat.reduceAdd, contentL, Value.oneCell', List.all_cons, List.all_nil, Bool.and_self, ‹Tys _›.h, ‹Fc _›.h]
  repeat (refine andA ?_)
  refine k _ ?_
  clear k K
  exact b.h) : A := e b
theorem zBinOp {A B : Prop} (b : Ho B) (e : Ho B → A := by
  intro b
  refine v_op ?_
  intro K k
  simp only [zE, aStepM, optable, set_some, Nat.reduceEqDiff, reduceIte, Nat.reduceLT, implies_true, forall_const, reduceCtorEq, V.ofValue, V.ofScalar, V.un, V.gd, aExec, aop, aBin, isNil, or_true, true_or, or_false, false_or, EK.fitsL, EK.fits, cellsEq, cellEq, contentL, Value.oneCell', List.all_cons, List.all_nil, Bool.and_self, ‹Tys _›.h, ‹Fc _›.h]
  repeat (refine andA ?_)
  refine k _ ?_
  clear k K
  exact b.h) : A := e b
theorem zBinOpW {A B : Prop} (b : Ho B) (e : Ho B → A := by
  intro b
  refine v_op ?_
  intro K k
  simp only [zE, aStepM, optable, set_some, Nat.reduceEqDiff, reduceIte, Nat.reduceLT, implies_true, forall_const, reduceCtorEq, V.ofValue, V.ofScalar, V.un, V.gd, aExec, aop, aBin, isNil, or_true, true_or, or_false, false_or, EK.fitsL, EK.fits, cellsEq, cellEq, contentL, Value.oneCell', List.all_cons, List.all_nil, Bool.and_self, ‹Tys _›.h, ‹Fc _›.h]
  try simp (disch := omega) only [wrap64]
  repeat (refine andA ?_)
  refine k _ ?_
  clear k K
  exact b.h) : A := e b
theorem zgBinOp {A B : Prop} (b : Ho B) (e : Ho B → A := by
  intro b
  first
  | refine v_passB rfl rfl rfl ?_ ?_
    · first | rfl | (simp only [zV, guardV, Nat.reduceEqDiff, reduceIte]; done)
    simp only [zW, set_some, Nat.reduceEqDiff, reduceIte]
  | skip
    refine v_op ?_
    intro K k
    simp only [zE, zG, aStepM, optable, set_some, Nat.reduceEqDiff, reduceIte, Nat.reduceLT, implies_true, forall_const, reduceCtorEq, V.ofValue, V.ofScalar, V.un, V.gd, guardV, V.wrap, aExec, aop, aBin, isNil, or_true, true_or, or_false, false_or, EK.fitsL, EK.fits, cellsEq, cellEq, contentL, Value.oneCell', List.all_cons, List.all_nil, Bool.and_self, ‹Tys _›.h, ‹Fc _›.h]
    repeat (refine andA ?_)
    refine k _ ?_
    clear k K
  exact b.h) : A := e b
theorem zgBinOpW {A B : Prop} (b : Ho B) (e : Ho B → A := by
  intro b
  first
  | refine v_passB rfl rfl rfl ?_ ?_
    · first | rfl | (simp only [zV, guardV, Nat.reduceEqDiff, reduceIte]; done)
    simp only [zW, set_some, Nat.reduceEqDiff, reduceIte]
  | skip
    refine v_op ?_
    intro K k
    simp only [zE, zG, aStepM, optable, set_some, Nat.reduceEqDiff, reduceIte, Nat.reduceLT, implies_true, forall_const, reduceCtorEq, V.ofValue, V.ofScalar, V.un, V.gd, guardV, V.wrap, aExec, aop, aBin, isNil, or_true, true_or, or_false, false_or, EK.fitsL, EK.fits, cellsEq, cellEq, contentL, Value.oneCell', List.all_cons, List.all_nil, Bool.and_self, ‹Tys _›.h, ‹Fc _›.h]
    try simp (disch := omega) only [wrap64]
    repeat (refine andA ?_)
    refine k _ ?_
    clear k K
  exact b.h) : A := e b
theorem zBox {A B : Prop} (b : Ho B) (e : Ho B → A := by
  intro b
  refine v_op ?_
  intro K k
  simp only [zE, zS, zO, zN, aStepM, optable, set_some, Nat.reduceEqDiff, reduceIte, Nat.reduceLT, implies_true, forall_const, reduceCtorEq, V.ofValue, V.ofScalar, V.un, V.gd, aExec, aop, Nat.reduceAdd, V.isVal, V.cells, kindOf, kindAll, V.noSl, V.noRef, List.all_cons, List.all_nil, List.length_map, gt_iff_lt, Nat.reduceLeDiff, Nat.reduceMul, contentL, Value.oneCell', ‹Tys _›.h, ‹Fc _›.h]
  repeat (refine andA ?_)
  refine k _ ?_
  clear k K
  exact b.h) : A := e b
theorem zBuild {A B : Prop} (b : Ho B) (e : Ho B → A := by
  intro b
  refine v_op ?_
  intro K k
  simp only [zE, zL, zO, zN, aStepM, optable, set_some, Nat.reduceEqDiff, reduceIte, Nat.reduceLT, implies_true, forall_const, reduceCtorEq, V.ofValue, V.ofScalar, V.un, V.gd, aExec, aop, fillV, if_true, Nat.zero_mul, Nat.one_mul, Nat.mul_one, V.isVal, V.cells, List.mem_cons, List.not_mem_nil, or_false, forall_eq_or_imp, forall_eq, Nat.reduceAdd, Nat.reduceLeDiff, Nat.reduceMul, contentL, Value.oneCell', List.all_cons, List.all_nil, ‹Tys _›.h, ‹Fc _›.h]
  repeat (refine andA ?_)
  refine k _ ?_
  clear k K
  exact b.h) : A := e b
theorem zBuildSlice {A B : Prop} (b : Ho B) (e : Ho B → A := by
  intro b
  refine v_op ?_
  intro K k
  simp only [zE, zO, zN, aStepM, optable, set_some, Nat.reduceEqDiff, reduceIte, Nat.reduceLT, implies_true, forall_const, reduceCtorEq, V.ofValue, V.ofScalar, V.un, V.gd, aExec, aop, litElems, rng0, rng1, rng2, rng3, rng4, rng5, rng6, rng7, rng8, rng9, rng10, rng11, rng12, List.map_cons, List.map_nil, List.all_cons, List.all_nil, V.isVal, V.cells, content, kindAll, V.noRef, V.noSl, List.mem_cons, List.not_mem_nil, or_false, forall_eq_or_imp, forall_eq, if_true, Option.isSome_some, List.length_cons, List.length_nil, Nat.reduceAdd, Nat.reduceLeDiff, Nat.reduceMul, contentL, Value.oneCell', ‹Tys _›.h, ‹Fc _›.h]
  repeat (refine andA ?_)
  refine k _ ?_
  clear k K
  exact b.h) : A := e b
theorem zConvert {A B : Prop} (b : Ho B) (e : Ho B → A := by
  intro b
  refine v_op ?_
  intro K k
  simp only [zE, zL, zN, aStepM, optable, set_some, Nat.reduceEqDiff, reduceIte, Nat.reduceLT, implies_true, forall_const, reduceCtorEq, V.ofValue, V.ofScalar, V.un, V.gd, aExec, aop, unByte, row_mk, Blk.row, TypeDesc.slice.injEq, Nat.reduceAdd, Nat.reduceLeDiff, Nat.reduceMul, contentL, Value.oneCell', List.all_cons, List.all_nil, Bool.and_self, ‹Tys _›.h, ‹Fc _›.h]
  repeat (refine andA ?_)
  refine k _ ?_
  clear k K
  exact b.h) : A := e b
theorem zExtract {A B : Prop} (b : Ho B) (e : Ho B → A := by
  intro b
  refine v_op ?_
  intro K k
  simp only [zE, zL, zN, aStepM, optable, set_some, Nat.reduceEqDiff, reduceIte, Nat.reduceLT, implies_true, forall_const, reduceCtorEq, V.ofValue, V.ofScalar, V.un, V.gd, aExec, aop, aExtract, Nat.reduceAdd, Nat.reduceLeDiff, Nat.reduceMul, contentL, Value.oneCell', List.all_cons, List.all_nil, Bool.and_self, ‹Tys _›.h, ‹Fc _›.h]
  repeat (refine andA ?_)
  refine k _ ?_
  clear k K
  exact b.h) : A := e b
theorem zFieldAddr {A B : Prop} (b : Ho B) (e : Ho B → A := by
  intro b
  refine v_op ?_
  intro K k
  simp only [zE, zL, zN, aStepM, optable, set_some, Nat.reduceEqDiff, reduceIte, Nat.reduceLT, implies_true, forall_const, reduceCtorEq, V.ofValue, V.ofScalar, V.un, V.gd, aExec, aop, aFieldAddr, Nat.reduceAdd, Nat.reduceLeDiff, Nat.reduceMul, contentL, Value.oneCell', List.all_cons, List.all_nil, Bool.and_self, ‹Tys _›.h, ‹Fc _›.h]
  repeat (refine andA ?_)
  refine k _ ?_
  clear k K
  exact b.h) : A := e b
theorem zgFieldAddr {A B : Prop} (b : Ho B) (e : Ho B → A := by
  intro b
  first
  | refine v_passB rfl rfl rfl ?_ ?_
    · first | rfl | (simp only [zV, guardV, Nat.reduceEqDiff, reduceIte]; done)
    simp only [zW, set_some, Nat.reduceEqDiff, reduceIte]
  | skip
    refine v_op ?_
    intro K k
    simp only [zE, zL, zN, aStepM, optable, set_some, Nat.reduceEqDiff, reduceIte, Nat.reduceLT, implies_true, forall_const, reduceCtorEq, V.ofValue, V.ofScalar, V.un, V.gd, guardV, V.wrap, aExec, aop, aFieldAddr, Nat.reduceAdd, Nat.reduceLeDiff, Nat.reduceMul, contentL, Value.oneCell', List.all_cons, List.all_nil, Bool.and_self, ‹Tys _›.h, ‹Fc _›.h]
    repeat (refine andA ?_)
    refine k _ ?_
    clear k K
  exact b.h) : A := e b
theorem zIndex {A B : Prop} (b : Ho B) (e : Ho B → A := by
  intro b
  refine v_op ?_
  intro K k
  simp only [zE, zL, zN, aStepM, optable, set_some, Nat.reduceEqDiff, reduceIte, Nat.reduceLT, implies_true, forall_const, reduceCtorEq, V.ofValue, V.ofScalar, V.un, V.gd, aExec, aop, aIndex, Int.toNat_natCast, Int.reduceToNat, Nat.reduceAdd, Nat.reduceLeDiff, Nat.reduceMul, contentL, Value.oneCell', List.all_cons, List.all_nil, Bool.and_self, ‹Tys _›.h, ‹Fc _›.h]
  repeat (refine andA ?_)
  refine k _ ?_
  clear k K
  exact b.h) : A := e b
theorem zgIndex {A B : Prop} (b : Ho B) (e : Ho B → A := by
  intro b
  first
  | refine v_passB rfl rfl rfl ?_ ?_
    · first | rfl | (simp only [zV, guardV, Nat.reduceEqDiff, reduceIte]; done)
    simp only [zW, set_some, Nat.reduceEqDiff, reduceIte]
  | skip
    refine v_op ?_
    intro K k
    simp only [zE, zL, zN, aStepM, optable, set_some, Nat.reduceEqDiff, reduceIte, Nat.reduceLT, implies_true, forall_const, reduceCtorEq, V.ofValue, V.ofScalar, V.un, V.gd, guardV, V.wrap, aExec, aop, aIndex, Int.toNat_natCast, Int.reduceToNat, Nat.reduceAdd, Nat.reduceLeDiff, Nat.reduceMul, contentL, Value.oneCell', List.all_cons, List.all_nil, Bool.and_self, ‹Tys _›.h, ‹Fc _›.h]
    repeat (refine andA ?_)
    refine k _ ?_
    clear k K
  exact b.h) : A := e b
theorem zIndexAddr {A B : Prop} (b : Ho B) (e : Ho B → A := by
  intro b
  refine v_op ?_
  intro K k
  simp only [zE, zL, zN, aStepM, optable, set_some, Nat.reduceEqDiff, reduceIte, Nat.reduceLT, implies_true, forall_const, reduceCtorEq, V.ofValue, V.ofScalar, V.un, V.gd, aExec, aop, List.mem_cons, List.not_mem_nil, or_false, forall_eq_or_imp, forall_eq, aIndexAddr, row_mk, Blk.row, Go.Vm.V.cells, List.forall_mem_map, List.length_map, Int.toNat_natCast, Int.reduceToNat, TypeDesc.slice.injEq, Nat.reduceAdd, Nat.reduceLeDiff, Nat.reduceMul, contentL, Value.oneCell', List.all_cons, List.all_nil, Bool.and_self, ‹Tys _›.h, ‹Fc _›.h]
  repeat (refine andA ?_)
  refine k _ ?_
  clear k K
  exact b.h) : A := e b
theorem zgIndexAddr {A B : Prop} (b : Ho B) (e : Ho B → A := by
  intro b
  first
  | refine v_passB rfl rfl rfl ?_ ?_
    · first | rfl | (simp only [zV, guardV, Nat.reduceEqDiff, reduceIte]; done)
    simp only [zW, set_some, Nat.reduceEqDiff, reduceIte]
  | skip
    refine v_op ?_
    intro K k
    simp only [zE, zL, zN, aStepM, optable, set_some, Nat.reduceEqDiff, reduceIte, Nat.reduceLT, implies_true, forall_const, reduceCtorEq, V.ofValue, V.ofScalar, V.un, V.gd, guardV, V.wrap, aExec, aop, List.mem_cons, List.not_mem_nil, or_false, forall_eq_or_imp, forall_eq, aIndexAddr, row_mk, Blk.row, Go.Vm.V.cells, List.forall_mem_map, List.length_map, Int.toNat_natCast, Int.reduceToNat, TypeDesc.slice.injEq, Nat.reduceAdd, Nat.reduceLeDiff, Nat.reduceMul, contentL, Value.oneCell', List.all_cons, List.all_nil, Bool.and_self, ‹Tys _›.h, ‹Fc _›.h]
    repeat (refine andA ?_)
    refine k _ ?_
    clear k K
  exact b.h) : A := e b
theorem zLen {A B : Prop} (b : Ho B) (e : Ho B → A := by
  intro b
  refine v_op ?_
  intro K k
  simp only [zE, zL, zN, aStepM, optable, set_some, Nat.reduceEqDiff, reduceIte, Nat.reduceLT, implies_true, forall_const, reduceCtorEq, V.ofValue, V.ofScalar, V.un, V.gd, aExec, aop, List.length_map, aLen, lenOK, row_mk, Blk.row, List.size_toArray, List.getD_eq_getElem?_getD, Array.getD_eq_getD_getElem?, Option.getD_some, Nat.reduceAdd, Nat.reduceLeDiff, Nat.reduceMul, contentL, Value.oneCell', List.all_cons, List.all_nil, Bool.and_self, ‹Tys _›.h, ‹Fc _›.h]
  repeat (refine andA ?_)
  refine k _ ?_
  clear k K
  exact b.h) : A := e b
theorem zgLen {A B : Prop} (b : Ho B) (e : Ho B → A := by
  intro b
  first
  | refine v_passB rfl rfl rfl ?_ ?_
    · first | rfl | (simp only [zV, guardV, Nat.reduceEqDiff, reduceIte]; done)
    simp only [zW, set_some, Nat.reduceEqDiff, reduceIte]
  | skip
    refine v_op ?_
    intro K k
    simp only [zE, zL, zN, aStepM, optable, set_some, Nat.reduceEqDiff, reduceIte, Nat.reduceLT, implies_true, forall_const, reduceCtorEq, V.ofValue, V.ofScalar, V.un, V.gd, guardV, V.wrap, aExec, aop, List.length_map, aLen, lenOK, row_mk, Blk.row, List.size_toArray, List.getD_eq_getElem?_getD, Array.getD_eq_getD_getElem?, Option.getD_some, Nat.reduceAdd, Nat.reduceLeDiff, Nat.reduceMul, contentL, Value.oneCell', List.all_cons, List.all_nil, Bool.and_self, ‹Tys _›.h, ‹Fc _›.h]
    repeat (refine andA ?_)
    refine k _ ?_
    clear k K
  exact b.h) : A := e b
theorem zLoad {A B : Prop} (b : Ho B) (e : Ho B → A := by
  intro b
  refine v_op ?_
  intro K k
  simp only [zE, zL, zO, zN, aStepM, optable, set_some, Nat.reduceEqDiff, reduceIte, Nat.reduceLT, implies_true, forall_const, reduceCtorEq, V.ofValue, V.ofScalar, V.un, V.gd, aExec, aop, aLoad, row_mk, Blk.row, PartOK, Go.Vm.part, V.cells, V.noSl, V.noRef, Nat.reduceAdd, Nat.reduceLeDiff, Nat.reduceMul, contentL, Value.oneCell', List.all_cons, List.all_nil, ‹Tys _›.h, ‹Fc _›.h]
  repeat (refine andA ?_)
  refine k _ ?_
  clear k K
  exact b.h) : A := e b
theorem zgLoad {A B : Prop} (b : Ho B) (e : Ho B → A := by
  intro b
  first
  | refine v_passB rfl rfl rfl ?_ ?_
    · first | rfl | (simp only [zV, guardV, Nat.reduceEqDiff, reduceIte]; done)
    simp only [zW, set_some, Nat.reduceEqDiff, reduceIte]
  | skip
    refine v_op ?_
    intro K k
    simp only [zE, zL, zO, zN, aStepM, optable, set_some, Nat.reduceEqDiff, reduceIte, Nat.reduceLT, implies_true, forall_const, reduceCtorEq, V.ofValue, V.ofScalar, V.un, V.gd, guardV, V.wrap, aExec, aop, aLoad, row_mk, Blk.row, PartOK, Go.Vm.part, V.cells, V.noSl, V.noRef, Nat.reduceAdd, Nat.reduceLeDiff, Nat.reduceMul, contentL, Value.oneCell', List.all_cons, List.all_nil, ‹Tys _›.h, ‹Fc _›.h]
    repeat (refine andA ?_)
    refine k _ ?_
    clear k K
  exact b.h) : A := e b
theorem zMakeSlice {A B : Prop} (b : Ho B) (e : Ho B → A := by
  intro b
  refine v_op ?_
  intro K k
  simp only [zE, zL, zO, zN, aStepM, optable, set_some, Nat.reduceEqDiff, reduceIte, Nat.reduceLT, implies_true, forall_const, reduceCtorEq, V.ofValue, V.ofScalar, V.un, V.gd, aExec, aop, content, V.isVal, V.cells, V.noRef, V.noSl, Int.toNat_natCast, Nat.reduceAdd, Nat.reduceLeDiff, Nat.reduceMul, contentL, Value.oneCell', List.all_cons, List.all_nil, ‹Tys _›.h, ‹Fc _›.h]
  repeat (refine andA ?_)
  refine k _ ?_
  clear k K
  exact b.h) : A := e b
theorem zMax {A B : Prop} (b : Ho B) (e : Ho B → A := by
  intro b
  refine v_op ?_
  intro K k
  simp only [zE, aStepM, optable, set_some, Nat.reduceEqDiff, reduceIte, Nat.reduceLT, implies_true, forall_const, reduceCtorEq, V.ofValue, V.ofScalar, V.un, V.gd, aExec, aop, aMinMax, List.mem_cons, List.not_mem_nil, or_false, forall_eq_or_imp, forall_eq, List.map_cons, List.map_nil, if_true, if_false, contentL, Value.oneCell', List.all_cons, List.all_nil, Bool.and_self, ‹Tys _›.h, ‹Fc _›.h]
  repeat (refine andA ?_)
  refine k _ ?_
  clear k K
  exact b.h) : A := e b
theorem zgMax {A B : Prop} (b : Ho B) (e : Ho B → A := by
  intro b
  first
  | refine v_passB rfl rfl rfl ?_ ?_
    · first | rfl | (simp only [zV, guardV, Nat.reduceEqDiff, reduceIte]; done)
    simp only [zW, set_some, Nat.reduceEqDiff, reduceIte]
  | skip
    refine v_op ?_
    intro K k
    simp only [zE, zG, aStepM, optable, set_some, Nat.reduceEqDiff, reduceIte, Nat.reduceLT, implies_true, forall_const, reduceCtorEq, V.ofValue, V.ofScalar, V.un, V.gd, guardV, V.wrap, aExec, aop, aMinMax, List.mem_cons, List.not_mem_nil, or_false, forall_eq_or_imp, forall_eq, List.map_cons, List.map_nil, if_true, if_false, contentL, Value.oneCell', List.all_cons, List.all_nil, Bool.and_self, ‹Tys _›.h, ‹Fc _›.h]
    repeat (refine andA ?_)
    refine k _ ?_
    clear k K
  exact b.h) : A := e b
theorem zMin {A B : Prop} (b : Ho B) (e : Ho B → A := by
  intro b
  refine v_op ?_
  intro K k
  simp only [zE, aStepM, optable, set_some, Nat.reduceEqDiff, reduceIte, Nat.reduceLT, implies_true, forall_const, reduceCtorEq, V.ofValue, V.ofScalar, V.un, V.gd, aExec, aop, aMinMax, List.mem_cons, List.not_mem_nil, or_false, forall_eq_or_imp, forall_eq, List.map_cons, List.map_nil, if_true, if_false, contentL, Value.oneCell', List.all_cons, List.all_nil, Bool.and_self, ‹Tys _›.h, ‹Fc _›.h]
  repeat (refine andA ?_)
  refine k _ ?_
  clear k K
  exact b.h) : A := e b
theorem zgMin {A B : Prop} (b : Ho B) (e : Ho B → A := by
  intro b
  first
  | refine v_passB rfl rfl rfl ?_ ?_
    · first | rfl | (simp only [zV, guardV, Nat.reduceEqDiff, reduceIte]; done)
    simp only [zW, set_some, Nat.reduceEqDiff, reduceIte]
  | skip
    refine v_op ?_
    intro K k
    simp only [zE, zG, aStepM, optable, set_some, Nat.reduceEqDiff, reduceIte, Nat.reduceLT, implies_true, forall_const, reduceCtorEq, V.ofValue, V.ofScalar, V.un, V.gd, guardV, V.wrap, aExec, aop, aMinMax, List.mem_cons, List.not_mem_nil, or_false, forall_eq_or_imp, forall_eq, List.map_cons, List.map_nil, if_true, if_false, contentL, Value.oneCell', List.all_cons, List.all_nil, Bool.and_self, ‹Tys _›.h, ‹Fc _›.h]
    repeat (refine andA ?_)
    refine k _ ?_
    clear k K
  exact b.h) : A := e b
theorem zMove {A B : Prop} (b : Ho B) (e : Ho B → A := by
  intro b
  refine v_op ?_
  intro K k
  simp only [zE, aStepM, optable, set_some, Nat.reduceEqDiff, reduceIte, Nat.reduceLT, implies_true, forall_const, reduceCtorEq, V.ofValue, V.ofScalar, V.un, V.gd, aExec, aop, contentL, Value.oneCell', List.all_cons, List.all_nil, Bool.and_self, ‹Tys _›.h, ‹Fc _›.h]
  repeat (refine andA ?_)
  refine k _ ?_
  clear k K
  exact b.h) : A := e b
theorem zgMove {A B : Prop} (b : Ho B) (e : Ho B → A := by
  intro b
  first
  | refine v_passB rfl rfl rfl ?_ ?_
    · first | rfl | (simp only [zV, guardV, Nat.reduceEqDiff, reduceIte]; done)
    simp only [zW, set_some, Nat.reduceEqDiff, reduceIte]
  | skip
    refine v_op ?_
    intro K k
    simp only [zE, zG, aStepM, optable, set_some, Nat.reduceEqDiff, reduceIte, Nat.reduceLT, implies_true, forall_const, reduceCtorEq, V.ofValue, V.ofScalar, V.un, V.gd, guardV, V.wrap, aExec, aop, contentL, Value.oneCell', List.all_cons, List.all_nil, Bool.and_self, ‹Tys _›.h, ‹Fc _›.h]
    repeat (refine andA ?_)
    refine k _ ?_
    clear k K
  exact b.h) : A := e b
theorem zNilCheck {A B : Prop} (b : Ho B) (e : Ho B → A := by
  intro b
  refine v_op ?_
  intro K k
  simp only [zE, aStepM, optable, set_some, Nat.reduceEqDiff, reduceIte, Nat.reduceLT, implies_true, forall_const, reduceCtorEq, V.ofValue, V.ofScalar, V.un, V.gd, aExec, aop, contentL, Value.oneCell', List.all_cons, List.all_nil, Bool.and_self, ‹Tys _›.h, ‹Fc _›.h]
  repeat (refine andA ?_)
  refine k _ ?_
  clear k K
  exact b.h) : A := e b
theorem zPick {A B : Prop} (b : Ho B) (e : Ho B → A := by
  intro b
  refine v_op ?_
  intro K k
  simp only [zE, zP, aStepM, optable, set_some, Nat.reduceEqDiff, reduceIte, Nat.reduceLT, implies_true, forall_const, reduceCtorEq, V.ofValue, V.ofScalar, V.un, V.gd, aExec, aop, pickV, contentL, Value.oneCell', List.all_cons, List.all_nil, Bool.and_self, ‹Tys _›.h, ‹Fc _›.h]
  repeat (refine andA ?_)
  refine k _ ?_
  clear k K
  exact b.h) : A := e b
theorem zgPick {A B : Prop} (b : Ho B) (e : Ho B → A := by
  intro b
  first
  | refine v_passB rfl rfl rfl ?_ ?_
    · first | rfl | (simp only [zV, guardV, Nat.reduceEqDiff, reduceIte]; done)
    simp only [zW, set_some, Nat.reduceEqDiff, reduceIte]
  | skip
    refine v_op ?_
    intro K k
    simp only [zE, zP, zG, aStepM, optable, set_some, Nat.reduceEqDiff, reduceIte, Nat.reduceLT, implies_true, forall_const, reduceCtorEq, V.ofValue, V.ofScalar, V.un, V.gd, guardV, V.wrap, aExec, aop, pickV, contentL, Value.oneCell', List.all_cons, List.all_nil, Bool.and_self, ‹Tys _›.h, ‹Fc _›.h]
    repeat (refine andA ?_)
    refine k _ ?_
    clear k K
  exact b.h) : A := e b
theorem zSlice {A B : Prop} (b : Ho B) (e : Ho B → A := by
  intro b
  refine v_op ?_
  intro K k
  simp only [zE, zL, zN, aStepM, optable, set_some, Nat.reduceEqDiff, reduceIte, Nat.reduceLT, implies_true, forall_const, reduceCtorEq, V.ofValue, V.ofScalar, V.un, V.gd, aExec, aop, List.set_cons_zero, List.set_cons_succ, aSlice, forall_eq', bound, ElemsOK, Option.map_none, Option.isNone_none, row_mk, Blk.row, TypeDesc.slice.injEq, List.forall_mem_map, List.length_map, Go.Vm.V.cells, Int.toNat_natCast, Int.reduceToNat, ← List.map_take, ← List.map_drop, List.take_length, Nat.reduceAdd, Nat.reduceLeDiff, Nat.reduceMul, contentL, Value.oneCell', List.all_cons, List.all_nil, Bool.and_self, ‹Tys _›.h, ‹Fc _›.h]
  repeat (refine andA ?_)
  refine k _ ?_
  clear k K
  exact b.h) : A := e b
theorem zStore {A B : Prop} (b : Ho B) (e : Ho B → A := by
  intro b
  refine v_op ?_
  intro K k
  simp only [zE, zS, zJ, zL, zO, zN, aStepM, optable, set_some, Nat.reduceEqDiff, reduceIte, Nat.reduceLT, implies_true, forall_const, reduceCtorEq, V.ofValue, V.ofScalar, V.un, V.gd, aExec, aop, aStore, setCells, V.isVal, V.cells, kindOf, kindAll, V.noSl, V.noRef, gt_iff_lt, Nat.reduceAdd, Nat.reduceLeDiff, Nat.reduceMul, takeV, takeCell, takeCells, row_mk, Blk.row, killAll, Nat.reduceBEq, join_t, contentL, Value.oneCell', ‹Tys _›.h, ‹Fc _›.h]
  repeat (refine andA ?_)
  refine k _ ?_
  clear k K
  exact b.h) : A := e b
theorem zUnOp {A B : Prop} (b : Ho B) (e : Ho B → A := by
  intro b
  refine v_op ?_
  intro K k
  simp only [zE, aStepM, optable, set_some, Nat.reduceEqDiff, reduceIte, Nat.reduceLT, implies_true, forall_const, reduceCtorEq, V.ofValue, V.ofScalar, V.un, V.gd, aExec, aop, aUn, contentL, Value.oneCell', List.all_cons, List.all_nil, Bool.and_self, ‹Tys _›.h, ‹Fc _›.h]
  repeat (refine andA ?_)
  refine k _ ?_
  clear k K
  exact b.h) : A := e b
theorem zgUnOp {A B : Prop} (b : Ho B) (e : Ho B → A := by
  intro b
  first
  | refine v_passB rfl rfl rfl ?_ ?_
    · first | rfl | (simp only [zV, guardV, Nat.reduceEqDiff, reduceIte]; done)
    simp only [zW, set_some, Nat.reduceEqDiff, reduceIte]
  | skip
    refine v_op ?_
    intro K k
    simp only [zE, zG, aStepM, optable, set_some, Nat.reduceEqDiff, reduceIte, Nat.reduceLT, implies_true, forall_const, reduceCtorEq, V.ofValue, V.ofScalar, V.un, V.gd, guardV, V.wrap, aExec, aop, aUn, contentL, Value.oneCell', List.all_cons, List.all_nil, Bool.and_self, ‹Tys _›.h, ‹Fc _›.h]
    repeat (refine andA ?_)
    refine k _ ?_
    clear k K
  exact b.h) : A := e b
theorem zNil {A B : Prop} (b : Ho B) (e : Ho B → A := by
  intro b
  refine v_op ?_
  intro K k
  simp only [zE, aStepM, optable, set_some, Nat.reduceEqDiff, reduceIte, Nat.reduceLT, implies_true, forall_const, reduceCtorEq, V.ofValue, V.ofScalar, V.un, V.gd, aExec, aop, aBin, isNil, or_true, true_or, or_false, false_or, EK.fitsL, EK.fits, cellsEq, cellEq, aNil, TypeDesc.slice.injEq, nil_eql, nil_neq, contentL, Value.oneCell', List.all_cons, List.all_nil, Bool.and_self, ‹Tys _›.h, ‹Fc _›.h]
  repeat (refine andA ?_)
  intro nb hnb
  refine k _ ?_
  clear k K
  revert nb hnb
  exact b.h) : A := e b
theorem zk {A B : Prop} (b : Ho B) (e : Ho B → A := by
  intro b
  simp only [keep_mk, keepE_nil, keepE_cons, look_cons, look_nil, Nat.reduceEqDiff, reduceIte]
  exact b.h) : A := e b
theorem zf {A B : Prop} (b : Ho B) (e : Ho B → A := by
  intro b
  simp only [resK, pickRV, get_mk, look_cons, look_nil, Nat.reduceEqDiff, reduceIte, List.map_cons, List.map_nil]
  exact b.h) : A := e b
theorem v_condS {P : Program} {L : Lend} {m : Nat} {Q : AEx → St → Prop} {s : St} {c : Operand} {x y : Code} (b : Bool) (hc : s.ev c = .bool b) {p q : Prop} (h1 : p → awp P L m x Q s) (h2 : q → awp P L m y Q s)
    (hp : b = true → p := by first | (intro h; simp only [zC, reduceCtorEq] at h; exact h) | exact fun h => h) (hq : b = false → q := by first | (intro h; simp only [zC, reduceCtorEq] at h; exact h) | exact fun h => h) : awp P L m (.cond c x y) Q s :=
  v_cond b hc (fun h => h1 (hp h)) (fun h => h2 (hq h))
theorem weak_bothS {m : Nat} {s s' : St} {B : Prop} (ks ids : List Nat) (b : Ho B) (hn : ids.Nodup := by decide) (hm : ∀ j, j < m → ids[j]? = some j := by simp)
    (he : ∀ p ∈ (s.keep ks).env, p.2.only (fun id => (idx ids id).isSome) = true := by simp [keep_mk, keepE_nil, keepE_cons, look_cons, V.only, V.onlyL, idx] <;> (first | rfl | decide))
    (hb : ∀ id ∈ ids, ∀ bk, s.O[id]? = some bk → bk.kindIs (fun k => k != .mix) = true := by simp [Blk.kindIs, fillK_mix])
    (e : Ho B → (s.keep ks).comp ids = s' := by
      intro b
      simp only [keep_mk, keepE_nil, keepE_cons, look_cons, look_nil, Nat.reduceEqDiff, reduceIte, St.comp, List.map_cons, List.map_nil, V.ren, V.renL, idx, List.getD_cons_zero, List.getD_cons_succ, Nat.reduceBEq, cond_true, cond_false, Option.map_some, Option.getD_some, Nat.reduceAdd, beq_dec, decide_true, decide_false]
      exact b.h) : Weak m s s' := weak_both ks ids hn hm he hb (e b)
theorem zc {C A B : Prop} (con : C) (b : Ho B) (e : C → Ho B → A := by
  intro con b
  refine v_op ?_
  intro K k
  simp only [zE, zM, aStepM, optable, set_some, Nat.reduceEqDiff, reduceIte, Nat.reduceLT, implies_true, forall_const, reduceCtorEq, V.ofValue, V.ofScalar, V.un, V.gd, aExec, lentIds, lendOf, ‹Tys _›.h, ‹Fc _›.h]
  repeat (refine andC ?_)
  refine aCall_new con (by first | rfl | (simp only [toArgs, toArg, toCell, toCells, idx, row_mk, List.getElem?_cons_zero, List.getElem?_cons_succ, Option.bind_some, Option.map_some, Blk.row, fillK_mix, flat_mix, deep_mix, thin_mix, shal_mix, cond_true, List.map_take]; done) | (simp [toArgs, toArg, toCell, toCells, idx, row_mk, Blk.row, fillK_mix, flat_mix, deep_mix, thin_mix, shal_mix, Nat.beq_refl]; done)) (by first | exact .inl ⟨rfl, by simp [Blk.kindIs, fillK_fd]⟩ | exact .inr (by simp [V.cold])) ?_
  refine k _ ?_
  clear k K
  simp only [zY, zW, set_some, Nat.reduceEqDiff, reduceIte, V.ren, V.renL, rho, Nat.reduceAdd]
  exact b.h) : A := e con b
theorem zcl {C A B : Prop} (con : C) (b : Ho B) (e : C → Ho B → A := by
  intro con b
  refine v_op ?_
  intro K k
  simp only [zE, zM, aStepM, optable, set_some, Nat.reduceEqDiff, reduceIte, Nat.reduceLT, implies_true, forall_const, reduceCtorEq, V.ofValue, V.ofScalar, V.un, V.gd, aExec, lentIds, lendOf, ‹Tys _›.h, ‹Fc _›.h]
  repeat (refine andC ?_)
  refine aCall_lent _ con (by first | rfl | (simp only [toArgs, toArg, toCell, toCells, idx, row_mk, List.getElem?_cons_zero, List.getElem?_cons_succ, Option.bind_some, Option.map_some, Blk.row, fillK_mix, flat_mix, deep_mix, thin_mix, shal_mix, cond_true, List.map_take]; done) | (simp [toArgs, toArg, toCell, toCells, idx, row_mk, Blk.row, fillK_mix, flat_mix, deep_mix, thin_mix, shal_mix, Nat.beq_refl]; done)) (by rfl) ⟨by simp [Blk.kindIs, fillK_mix], by simp⟩ (by first | exact .inl rfl | exact .inr (by simp [Blk.kindIs])) ⟨rfl, by simp [Blk.kindIs, fillK_fd]⟩ ?_
  refine k _ ?_
  clear k K
  simp only [zY, zW, set_some, Nat.reduceEqDiff, reduceIte, rho_one, rho_s, V.ren, V.renL, List.set_cons_zero, List.set_cons_succ, Nat.reduceAdd]
  exact b.h) : A := e con b
theorem aCall_newXA {P : Program} {s : St} {f : FuncId} {args args' : List V} {R : V → List Blk → Prop} {K : V → St → Prop} (hc : ConX P f args' [] R)
    (h : ∀ r O', R r O' → ((r.clean = true ∧ ∀ bk ∈ O', bk.kindIs (fun k => k != .shal && k != .mix) = true) ∨ (∀ x ∈ args, x.coldIn [] = true)) ∧ K (r.ren (rho [] s.O.length)) { s with O := s.O ++ O' }) (ht : toArgs s [] args = some args' := by first | rfl | (simp only [toArgs, toArg, toCell, toCells, idx, row_mk, List.getElem?_cons_zero, List.getElem?_cons_succ, Option.bind_some, Option.map_some, Blk.row, fillK_mix, flat_mix, deep_mix, thin_mix, shal_mix, cond_true, List.map_take]; done) | (simp [toArgs, toArg, toCell, toCells, idx, row_mk, Blk.row, fillK_mix, flat_mix, deep_mix, thin_mix, shal_mix, Nat.beq_refl]; done)) : aCall P s f [] args K := aCall_newX hc ht h
theorem aCall_lentXA {P : Program} {s : St} {f : FuncId} {args args' : List V} {bk : Blk} {R : V → List Blk → Prop} {K : V → St → Prop} {id : Nat} (hc : ConX P f args' [bk] R)
    (h : ∀ r O', R r O' → ∃ bk' O1, O' = bk' :: O1 ∧ ((r.clean = true ∧ ∀ b ∈ O', b.kindIs (fun k => k != .shal && k != .mix) = true) ∨ (∀ x ∈ args, x.coldIn [id] = true)) ∧ K (r.ren (rho [id] s.O.length)) { s with O := s.O.set id bk' ++ O1 })
    (ht : toArgs s [id] args = some args' := by first | rfl | (simp only [toArgs, toArg, toCell, toCells, idx, row_mk, List.getElem?_cons_zero, List.getElem?_cons_succ, Option.bind_some, Option.map_some, Blk.row, fillK_mix, flat_mix, deep_mix, thin_mix, shal_mix, cond_true, List.map_take]; done) | (simp [toArgs, toArg, toCell, toCells, idx, row_mk, Blk.row, fillK_mix, flat_mix, deep_mix, thin_mix, shal_mix, Nat.beq_refl]; done)) (hO : s.O[id]? = some bk := by rfl) (hbk : bk.kindIs (fun k => k != .mix) = true ∧ bk ≠ .dead := by exact ⟨by simp [Blk.kindIs, fillK_mix], by simp⟩)
    (hv : s.vw = false ∨ bk.kindIs (fun k => k == .flat) = true := by first | exact .inl rfl | exact .inr (by simp [Blk.kindIs])) : aCall P s f [id] args K := aCall_lentX id hc ht hO hbk hv h
theorem aCall_lent2XA {P : Program} {s : St} {f : FuncId} {args args' : List V} {bk bk2 : Blk} {R : V → List Blk → Prop} {K : V → St → Prop} {i j : Nat} (hc : ConX P f args' [bk, bk2] R)
    (h : ∀ r O', R r O' → ∃ b1 b2 O1, O' = b1 :: b2 :: O1 ∧ ((r.clean = true ∧ ∀ b ∈ O', b.kindIs (fun k => k != .shal && k != .mix) = true) ∨ (∀ x ∈ args, x.coldIn [i, j] = true)) ∧ K (r.ren (rho [i, j] s.O.length)) { s with O := (s.O.set i b1).set j b2 ++ O1 })
    (ht : toArgs s [i, j] args = some args' := by first | rfl | (simp only [toArgs, toArg, toCell, toCells, idx, row_mk, List.getElem?_cons_zero, List.getElem?_cons_succ, Option.bind_some, Option.map_some, Blk.row, fillK_mix, flat_mix, deep_mix, thin_mix, shal_mix, cond_true, List.map_take]; done) | (simp [toArgs, toArg, toCell, toCells, idx, row_mk, Blk.row, fillK_mix, flat_mix, deep_mix, thin_mix, shal_mix, Nat.beq_refl]; done)) (hO : s.O[i]? = some bk := by rfl) (hO2 : s.O[j]? = some bk2 := by rfl) (hn : i ≠ j := by decide) (hbk : (bk.kindIs (fun k => k != .mix) = true ∧ bk ≠ .dead) ∧ (bk2.kindIs (fun k => k != .mix) = true ∧ bk2 ≠ .dead) := by exact ⟨⟨by simp [Blk.kindIs, fillK_mix], by simp⟩, ⟨by simp [Blk.kindIs, fillK_mix], by simp⟩⟩)
    (hv : s.vw = false := by rfl) : aCall P s f [i, j] args K := aCall_lent2X i j hc ht hO hO2 hn hbk hv h
theorem zgc {C A B : Prop} (con : C) (b : Ho B) (e : C → Ho B → A := by
  intro con b
  first
  | refine v_passB rfl rfl rfl ?_ ?_
    · first | rfl | (simp only [zV, guardV, Nat.reduceEqDiff, reduceIte]; done)
    simp only [zW, set_some, Nat.reduceEqDiff, reduceIte]
  | skip
    refine v_op ?_
    intro K k
    simp only [zE, zG, aStepM, optable, set_some, Nat.reduceEqDiff, reduceIte, Nat.reduceLT, implies_true, forall_const, reduceCtorEq, V.ofValue, V.ofScalar, V.un, V.gd, guardV, ‹Tys _›.h, ‹Fc _›.h]
    simp only [zM, zW, aExec, lentIds, lendOf, set_some, Nat.reduceEqDiff, reduceIte, V.ofValue, V.ofScalar, V.un, V.gd, and_true, true_and, implies_true, and_self, decide_eq_true_eq]
    first | refine Exists.imp (fun r h => h) (aCall_guardT con (by first | rfl | (simp only [toArgs, toArg, toCell, toCells, idx, row_mk, List.getElem?_cons_zero, List.getElem?_cons_succ, Option.bind_some, Option.map_some, Blk.row, fillK_mix, flat_mix, deep_mix, thin_mix, shal_mix, cond_true, List.map_take]; done) | (simp [toArgs, toArg, toCell, toCells, idx, row_mk, Blk.row, fillK_mix, flat_mix, deep_mix, thin_mix, shal_mix, Nat.beq_refl]; done)) rfl rfl ?_) | refine Exists.imp (fun r h => h) (aCall_guard0 (fun hg => con) (by first | rfl | (simp only [toArgs, toArg, toCell, toCells, idx, row_mk, List.getElem?_cons_zero, List.getElem?_cons_succ, Option.bind_some, Option.map_some, Blk.row, fillK_mix, flat_mix, deep_mix, thin_mix, shal_mix, cond_true, List.map_take]; done) | (simp [toArgs, toArg, toCell, toCells, idx, row_mk, Blk.row, fillK_mix, flat_mix, deep_mix, thin_mix, shal_mix, Nat.beq_refl]; done)) rfl rfl ?_) | refine Exists.imp (fun r h => h) (aCall_guard (by first | (intros; trivial) | (intros; simp_all; done)) (fun hg => con) (by first | rfl | (simp only [toArgs, toArg, toCell, toCells, idx, row_mk, List.getElem?_cons_zero, List.getElem?_cons_succ, Option.bind_some, Option.map_some, Blk.row, fillK_mix, flat_mix, deep_mix, thin_mix, shal_mix, cond_true, List.map_take]; done) | (simp [toArgs, toArg, toCell, toCells, idx, row_mk, Blk.row, fillK_mix, flat_mix, deep_mix, thin_mix, shal_mix, Nat.beq_refl]; done)) rfl rfl ?_)
    refine k _ ?_
    clear k K
  exact b.h) : A := e con b
theorem zsBuildSlice {A B : Prop} (b : Ho B) (e : Ho B → A := by
  intro b
  intro K k
  simp only [zE, zO, zN, aStepM, optable, set_some, Nat.reduceEqDiff, reduceIte, Nat.reduceLT, implies_true, forall_const, reduceCtorEq, V.ofValue, V.ofScalar, V.un, V.gd, aExec, aop, litElems, rng0, rng1, rng2, rng3, rng4, rng5, rng6, rng7, rng8, rng9, rng10, rng11, rng12, List.map_cons, List.map_nil, List.all_cons, List.all_nil, V.isVal, V.cells, content, kindAll, V.noRef, V.noSl, List.mem_cons, List.not_mem_nil, or_false, forall_eq_or_imp, forall_eq, if_true, Option.isSome_some, List.length_cons, List.length_nil, Nat.reduceAdd, Nat.reduceLeDiff, Nat.reduceMul, contentL, Value.oneCell', ‹Tys _›.h, ‹Fc _›.h]
  repeat (refine andA ?_)
  refine k _ ?_
  clear k K
  exact b.h) : A := e b
theorem zsc {C A B : Prop} (con : C) (b : Ho B) (e : C → Ho B → A := by
  intro con b K k
  simp only [zE, zM, aStepM, optable, set_some, Nat.reduceEqDiff, reduceIte, Nat.reduceLT, implies_true, forall_const, reduceCtorEq, V.ofValue, V.ofScalar, V.un, V.gd, aExec, lentIds, lendOf, ‹Tys _›.h, ‹Fc _›.h]
  repeat (refine andC ?_)
  refine aCall_new con (by first | rfl | (simp only [toArgs, toArg, toCell, toCells, idx, row_mk, List.getElem?_cons_zero, List.getElem?_cons_succ, Option.bind_some, Option.map_some, Blk.row, fillK_mix, flat_mix, deep_mix, thin_mix, shal_mix, cond_true, List.map_take]; done) | (simp [toArgs, toArg, toCell, toCells, idx, row_mk, Blk.row, fillK_mix, flat_mix, deep_mix, thin_mix, shal_mix, Nat.beq_refl]; done)) (by first | exact .inl ⟨rfl, by simp [Blk.kindIs, fillK_fd]⟩ | exact .inr (by simp [V.cold])) ?_
  refine k _ ?_
  clear k K
  simp only [zY, zW, set_some, Nat.reduceEqDiff, reduceIte, V.ren, V.renL, rho, Nat.reduceAdd]
  exact b.h) : A := e con b
theorem row_all {O : List Blk} {t : St} (h : Grow O t.O) : ∀ i, (O[i]?).isSome = true → t.row i = (O[i]?).bind Blk.row := by
  intro i hi
  unfold St.row
  cases hb : O[i]? with
  | none => rw [hb] at hi; cases hi
  | some b => rw [h i b hb]
theorem zdMove {P : Program} {L : Lend} {rg : Array Oper} {K : St → Prop} {fuel : Nat} {listed : Array Bool} {env : List (Nat × V)} {O : List Blk} {vw : Bool} {n m : Nat} {oi : Oper} {rest : List Oper} {v : V} (hK : ∀ s t, EqS s t → K s → K t) (kp : Bool) (i d : Nat)
    (b : aAny P L rg K fuel (listed.setIfInBounds i true) ⟨(d, v) :: env, O, vw, n, m⟩) (hi : rg.toList.drop i = oi :: rest := by rfl) (hd : oi.dst = some d := by rfl) (hf : Region.freeG L kp rg listed i = true := by kernel_rfl) (hr : (Region.ready .any rg listed).contains i = true := by kernel_rfl)
    (hp : PureH P L rg kp oi d v ⟨env, O, vw, n, m⟩ := by
      intro t hn gx ho K' k'
      dsimp only at hn
      refine .inl ?_
      simp (disch := first | decide | rfl) only [gx, zE, aStepM, optable, Nat.reduceEqDiff, reduceIte, Nat.reduceLT, implies_true, forall_const, reduceCtorEq, V.ofValue, V.ofScalar, V.un, V.gd, aExec, aop, contentL, Value.oneCell', List.all_cons, List.all_nil, Bool.and_self, ‹Tys _›.h, ‹Fc _›.h]
      repeat (refine andA ?_)
      exact k') : aAny P L rg K (fuel + 1) listed ⟨env, O, vw, n, m⟩ := aAny_take hK kp i d hi hd hf hr ⟨v, hp, b⟩
theorem zdgMove {P : Program} {L : Lend} {rg : Array Oper} {K : St → Prop} {fuel : Nat} {listed : Array Bool} {env : List (Nat × V)} {O : List Blk} {vw : Bool} {n m : Nat} {oi : Oper} {rest : List Oper} {v : V} (hK : ∀ s t, EqS s t → K s → K t) (kp : Bool) (i d : Nat)
    (b : aAny P L rg K fuel (listed.setIfInBounds i true) ⟨(d, v) :: env, O, vw, n, m⟩) (hi : rg.toList.drop i = oi :: rest := by rfl) (hd : oi.dst = some d := by rfl) (hf : Region.freeG L kp rg listed i = true := by kernel_rfl) (hr : (Region.ready .any rg listed).contains i = true := by kernel_rfl)
    (hp : PureH P L rg kp oi d v ⟨env, O, vw, n, m⟩ := by
      intro t hn gx ho K' k'
      dsimp only at hn
      first
      | refine .inr ⟨?_, _, _, false, rfl, ?_, nofun, fun _ => ⟨.any, k'⟩⟩
        · simp only [hn, dst_some, Nat.reduceLT]
        · first | rfl | (simp (disch := decide) only [gx, zV, guardV, Nat.reduceEqDiff, reduceIte]; done)
      | skip
        refine .inl ?_
        simp (disch := first | decide | rfl) only [gx, zE, zG, aStepM, optable, Nat.reduceEqDiff, reduceIte, Nat.reduceLT, implies_true, forall_const, reduceCtorEq, V.ofValue, V.ofScalar, V.un, V.gd, guardV, V.wrap, aExec, aop, contentL, Value.oneCell', List.all_cons, List.all_nil, Bool.and_self, ‹Tys _›.h, ‹Fc _›.h]
        repeat (refine andA ?_)
        exact k') : aAny P L rg K (fuel + 1) listed ⟨env, O, vw, n, m⟩ := aAny_take hK kp i d hi hd hf hr ⟨v, hp, b⟩
theorem zdPick {P : Program} {L : Lend} {rg : Array Oper} {K : St → Prop} {fuel : Nat} {listed : Array Bool} {env : List (Nat × V)} {O : List Blk} {vw : Bool} {n m : Nat} {oi : Oper} {rest : List Oper} {v : V} (hK : ∀ s t, EqS s t → K s → K t) (kp : Bool) (i d : Nat)
    (b : aAny P L rg K fuel (listed.setIfInBounds i true) ⟨(d, v) :: env, O, vw, n, m⟩) (hi : rg.toList.drop i = oi :: rest := by rfl) (hd : oi.dst = some d := by rfl) (hf : Region.freeG L kp rg listed i = true := by kernel_rfl) (hr : (Region.ready .any rg listed).contains i = true := by kernel_rfl)
    (hp : PureH P L rg kp oi d v ⟨env, O, vw, n, m⟩ := by
      intro t hn gx ho K' k'
      dsimp only at hn
      refine .inl ?_
      simp (disch := first | decide | rfl) only [gx, zE, zP, aStepM, optable, Nat.reduceEqDiff, reduceIte, Nat.reduceLT, implies_true, forall_const, reduceCtorEq, V.ofValue, V.ofScalar, V.un, V.gd, aExec, aop, pickV, contentL, Value.oneCell', List.all_cons, List.all_nil, Bool.and_self, ‹Tys _›.h, ‹Fc _›.h]
      repeat (refine andA ?_)
      exact k') : aAny P L rg K (fuel + 1) listed ⟨env, O, vw, n, m⟩ := aAny_take hK kp i d hi hd hf hr ⟨v, hp, b⟩
theorem zdgPick {P : Program} {L : Lend} {rg : Array Oper} {K : St → Prop} {fuel : Nat} {listed : Array Bool} {env : List (Nat × V)} {O : List Blk} {vw : Bool} {n m : Nat} {oi : Oper} {rest : List Oper} {v : V} (hK : ∀ s t, EqS s t → K s → K t) (kp : Bool) (i d : Nat)
    (b : aAny P L rg K fuel (listed.setIfInBounds i true) ⟨(d, v) :: env, O, vw, n, m⟩) (hi : rg.toList.drop i = oi :: rest := by rfl) (hd : oi.dst = some d := by rfl) (hf : Region.freeG L kp rg listed i = true := by kernel_rfl) (hr : (Region.ready .any rg listed).contains i = true := by kernel_rfl)
    (hp : PureH P L rg kp oi d v ⟨env, O, vw, n, m⟩ := by
      intro t hn gx ho K' k'
      dsimp only at hn
      first
      | refine .inr ⟨?_, _, _, false, rfl, ?_, nofun, fun _ => ⟨.any, k'⟩⟩
        · simp only [hn, dst_some, Nat.reduceLT]
        · first | rfl | (simp (disch := decide) only [gx, zV, guardV, Nat.reduceEqDiff, reduceIte]; done)
      | skip
        refine .inl ?_
        simp (disch := first | decide | rfl) only [gx, zE, zP, zG, aStepM, optable, Nat.reduceEqDiff, reduceIte, Nat.reduceLT, implies_true, forall_const, reduceCtorEq, V.ofValue, V.ofScalar, V.un, V.gd, guardV, V.wrap, aExec, aop, pickV, contentL, Value.oneCell', List.all_cons, List.all_nil, Bool.and_self, ‹Tys _›.h, ‹Fc _›.h]
        repeat (refine andA ?_)
        exact k') : aAny P L rg K (fuel + 1) listed ⟨env, O, vw, n, m⟩ := aAny_take hK kp i d hi hd hf hr ⟨v, hp, b⟩
theorem zdLoad {P : Program} {L : Lend} {rg : Array Oper} {K : St → Prop} {fuel : Nat} {listed : Array Bool} {env : List (Nat × V)} {O : List Blk} {vw : Bool} {n m : Nat} {oi : Oper} {rest : List Oper} {v : V} (hK : ∀ s t, EqS s t → K s → K t) (kp : Bool) (i d : Nat)
    (b : aAny P L rg K fuel (listed.setIfInBounds i true) ⟨(d, v) :: env, O, vw, n, m⟩) (hi : rg.toList.drop i = oi :: rest := by rfl) (hd : oi.dst = some d := by rfl) (hf : Region.freeG L kp rg listed i = true := by kernel_rfl) (hr : (Region.ready .any rg listed).contains i = true := by kernel_rfl)
    (hp : PureH P L rg kp oi d v ⟨env, O, vw, n, m⟩ := by
      intro t hn gx ho K' k'
      dsimp only at hn
      first | have r0 := row_all (ho rfl) 0 rfl | have r0 := True.intro
      first | have r1 := row_all (ho rfl) 1 rfl | have r1 := True.intro
      first | have r2 := row_all (ho rfl) 2 rfl | have r2 := True.intro
      first | have r3 := row_all (ho rfl) 3 rfl | have r3 := True.intro
      first | have r4 := row_all (ho rfl) 4 rfl | have r4 := True.intro
      first | have r5 := row_all (ho rfl) 5 rfl | have r5 := True.intro
      refine .inl ?_
      simp (disch := first | decide | rfl) only [gx, r0, r1, r2, r3, r4, r5, zE, zL, zO, zN, aStepM, optable, Nat.reduceEqDiff, reduceIte, Nat.reduceLT, implies_true, forall_const, reduceCtorEq, V.ofValue, V.ofScalar, V.un, V.gd, aExec, aop, aLoad, row_mk, Blk.row, PartOK, Go.Vm.part, V.cells, V.noSl, V.noRef, Nat.reduceAdd, Nat.reduceLeDiff, Nat.reduceMul, contentL, Value.oneCell', List.all_cons, List.all_nil, ‹Tys _›.h, ‹Fc _›.h]
      repeat (refine andA ?_)
      exact k') : aAny P L rg K (fuel + 1) listed ⟨env, O, vw, n, m⟩ := aAny_take hK kp i d hi hd hf hr ⟨v, hp, b⟩
theorem zdLoadX {P : Program} {L : Lend} {rg : Array Oper} {K : St → Prop} {fuel : Nat} {listed : Array Bool} {env : List (Nat × V)} {O : List Blk} {vw : Bool} {n m : Nat} {oi : Oper} {rest : List Oper} {v : V} (hK : ∀ s t, EqS s t → K s → K t) (kp : Bool) (i d : Nat)
    (b : aAny P L rg K fuel (listed.setIfInBounds i true) ⟨(d, v) :: env, O, vw, n, m⟩) (hi : rg.toList.drop i = oi :: rest := by rfl) (hd : oi.dst = some d := by rfl) (hf : Region.freeG L kp rg listed i = true := by kernel_rfl) (hr : (Region.ready .any rg listed).contains i = true := by kernel_rfl)
    (hp : PureH P L rg kp oi d v ⟨env, O, vw, n, m⟩ := by
      intro t hn gx ho K' k'
      dsimp only at hn
      first | have r0 := row_all (ho rfl) 0 rfl | have r0 := True.intro
      first | have r1 := row_all (ho rfl) 1 rfl | have r1 := True.intro
      first | have r2 := row_all (ho rfl) 2 rfl | have r2 := True.intro
      first | have r3 := row_all (ho rfl) 3 rfl | have r3 := True.intro
      first | have r4 := row_all (ho rfl) 4 rfl | have r4 := True.intro
      first | have r5 := row_all (ho rfl) 5 rfl | have r5 := True.intro
      first | have r6 := row_all (ho rfl) 6 rfl | have r6 := True.intro
      first | have r7 := row_all (ho rfl) 7 rfl | have r7 := True.intro
      first | have r8 := row_all (ho rfl) 8 rfl | have r8 := True.intro
      first | have r9 := row_all (ho rfl) 9 rfl | have r9 := True.intro
      first | have r10 := row_all (ho rfl) 10 rfl | have r10 := True.intro
      first | have r11 := row_all (ho rfl) 11 rfl | have r11 := True.intro
      first | have r12 := row_all (ho rfl) 12 rfl | have r12 := True.intro
      first | have r13 := row_all (ho rfl) 13 rfl | have r13 := True.intro
      first | have r14 := row_all (ho rfl) 14 rfl | have r14 := True.intro
      first | have r15 := row_all (ho rfl) 15 rfl | have r15 := True.intro
      first | have r16 := row_all (ho rfl) 16 rfl | have r16 := True.intro
      first | have r17 := row_all (ho rfl) 17 rfl | have r17 := True.intro
      first | have r18 := row_all (ho rfl) 18 rfl | have r18 := True.intro
      first | have r19 := row_all (ho rfl) 19 rfl | have r19 := True.intro
      first | have r20 := row_all (ho rfl) 20 rfl | have r20 := True.intro
      first | have r21 := row_all (ho rfl) 21 rfl | have r21 := True.intro
      first | have r22 := row_all (ho rfl) 22 rfl | have r22 := True.intro
      first | have r23 := row_all (ho rfl) 23 rfl | have r23 := True.intro
      refine .inl ?_
      simp (disch := first | decide | rfl) only [gx, r0, r1, r2, r3, r4, r5, zE, zL, zO, zN, r6, r7, r8, r9, r10, r11, r12, r13, r14, r15, r16, r17, r18, r19, r20, r21, r22, r23, aStepM, optable, Nat.reduceEqDiff, reduceIte, Nat.reduceLT, implies_true, forall_const, reduceCtorEq, V.ofValue, V.ofScalar, V.un, V.gd, aExec, aop, aLoad, row_mk, Blk.row, PartOK, Go.Vm.part, V.cells, V.noSl, V.noRef, Nat.reduceAdd, Nat.reduceLeDiff, Nat.reduceMul, contentL, Value.oneCell', List.all_cons, List.all_nil, ‹Tys _›.h, ‹Fc _›.h]
      repeat (refine andA ?_)
      exact k') : aAny P L rg K (fuel + 1) listed ⟨env, O, vw, n, m⟩ := aAny_take hK kp i d hi hd hf hr ⟨v, hp, b⟩
theorem zdgLoad {P : Program} {L : Lend} {rg : Array Oper} {K : St → Prop} {fuel : Nat} {listed : Array Bool} {env : List (Nat × V)} {O : List Blk} {vw : Bool} {n m : Nat} {oi : Oper} {rest : List Oper} {v : V} (hK : ∀ s t, EqS s t → K s → K t) (kp : Bool) (i d : Nat)
    (b : aAny P L rg K fuel (listed.setIfInBounds i true) ⟨(d, v) :: env, O, vw, n, m⟩) (hi : rg.toList.drop i = oi :: rest := by rfl) (hd : oi.dst = some d := by rfl) (hf : Region.freeG L kp rg listed i = true := by kernel_rfl) (hr : (Region.ready .any rg listed).contains i = true := by kernel_rfl)
    (hp : PureH P L rg kp oi d v ⟨env, O, vw, n, m⟩ := by
      intro t hn gx ho K' k'
      dsimp only at hn
      first | have r0 := row_all (ho rfl) 0 rfl | have r0 := True.intro
      first | have r1 := row_all (ho rfl) 1 rfl | have r1 := True.intro
      first | have r2 := row_all (ho rfl) 2 rfl | have r2 := True.intro
      first | have r3 := row_all (ho rfl) 3 rfl | have r3 := True.intro
      first | have r4 := row_all (ho rfl) 4 rfl | have r4 := True.intro
      first | have r5 := row_all (ho rfl) 5 rfl | have r5 := True.intro
      first
      | refine .inr ⟨?_, _, _, false, rfl, ?_, nofun, fun _ => ⟨.any, k'⟩⟩
        · simp only [hn, dst_some, Nat.reduceLT]
        · first | rfl | (simp (disch := decide) only [gx, zV, guardV, Nat.reduceEqDiff, reduceIte]; done)
      | skip
        refine .inl ?_
        simp (disch := first | decide | rfl) only [gx, r0, r1, r2, r3, r4, r5, zE, zL, zO, zN, aStepM, optable, Nat.reduceEqDiff, reduceIte, Nat.reduceLT, implies_true, forall_const, reduceCtorEq, V.ofValue, V.ofScalar, V.un, V.gd, guardV, V.wrap, aExec, aop, aLoad, row_mk, Blk.row, PartOK, Go.Vm.part, V.cells, V.noSl, V.noRef, Nat.reduceAdd, Nat.reduceLeDiff, Nat.reduceMul, contentL, Value.oneCell', List.all_cons, List.all_nil, ‹Tys _›.h, ‹Fc _›.h]
        repeat (refine andA ?_)
        exact k') : aAny P L rg K (fuel + 1) listed ⟨env, O, vw, n, m⟩ := aAny_take hK kp i d hi hd hf hr ⟨v, hp, b⟩
theorem zdgLoadX {P : Program} {L : Lend} {rg : Array Oper} {K : St → Prop} {fuel : Nat} {listed : Array Bool} {env : List (Nat × V)} {O : List Blk} {vw : Bool} {n m : Nat} {oi : Oper} {rest : List Oper} {v : V} (hK : ∀ s t, EqS s t → K s → K t) (kp : Bool) (i d : Nat)
    (b : aAny P L rg K fuel (listed.setIfInBounds i true) ⟨(d, v) :: env, O, vw, n, m⟩) (hi : rg.toList.drop i = oi :: rest := by rfl) (hd : oi.dst = some d := by rfl) (hf : Region.freeG L kp rg listed i = true := by kernel_rfl) (hr : (Region.ready .any rg listed).contains i = true := by kernel_rfl)
    (hp : PureH P L rg kp oi d v ⟨env, O, vw, n, m⟩ := by
      intro t hn gx ho K' k'
      dsimp only at hn
      first | have r0 := row_all (ho rfl) 0 rfl | have r0 := True.intro
      first | have r1 := row_all (ho rfl) 1 rfl | have r1 := True.intro
      first | have r2 := row_all (ho rfl) 2 rfl | have r2 := True.intro
      first | have r3 := row_all (ho rfl) 3 rfl | have r3 := True.intro
      first | have r4 := row_all (ho rfl) 4 rfl | have r4 := True.intro
      first | have r5 := row_all (ho rfl) 5 rfl | have r5 := True.intro
      first | have r6 := row_all (ho rfl) 6 rfl | have r6 := True.intro
      first | have r7 := row_all (ho rfl) 7 rfl | have r7 := True.intro
      first | have r8 := row_all (ho rfl) 8 rfl | have r8 := True.intro
      first | have r9 := row_all (ho rfl) 9 rfl | have r9 := True.intro
      first | have r10 := row_all (ho rfl) 10 rfl | have r10 := True.intro
      first | have r11 := row_all (ho rfl) 11 rfl | have r11 := True.intro
      first | have r12 := row_all (ho rfl) 12 rfl | have r12 := True.intro
      first | have r13 := row_all (ho rfl) 13 rfl | have r13 := True.intro
      first | have r14 := row_all (ho rfl) 14 rfl | have r14 := True.intro
      first | have r15 := row_all (ho rfl) 15 rfl | have r15 := True.intro
      first | have r16 := row_all (ho rfl) 16 rfl | have r16 := True.intro
      first | have r17 := row_all (ho rfl) 17 rfl | have r17 := True.intro
      first | have r18 := row_all (ho rfl) 18 rfl | have r18 := True.intro
      first | have r19 := row_all (ho rfl) 19 rfl | have r19 := True.intro
      first | have r20 := row_all (ho rfl) 20 rfl | have r20 := True.intro
      first | have r21 := row_all (ho rfl) 21 rfl | have r21 := True.intro
      first | have r22 := row_all (ho rfl) 22 rfl | have r22 := True.intro
      first | have r23 := row_all (ho rfl) 23 rfl | have r23 := True.intro
      first
      | refine .inr ⟨?_, _, _, false, rfl, ?_, nofun, fun _ => ⟨.any, k'⟩⟩
        · simp only [hn, dst_some, Nat.reduceLT]
        · first | rfl | (simp (disch := decide) only [gx, zV, guardV, Nat.reduceEqDiff, reduceIte]; done)
      | skip
        refine .inl ?_
        simp (disch := first | decide | rfl) only [gx, r0, r1, r2, r3, r4, r5, zE, zL, zO, zN, r6, r7, r8, r9, r10, r11, r12, r13, r14, r15, r16, r17, r18, r19, r20, r21, r22, r23, aStepM, optable, Nat.reduceEqDiff, reduceIte, Nat.reduceLT, implies_true, forall_const, reduceCtorEq, V.ofValue, V.ofScalar, V.un, V.gd, guardV, V.wrap, aExec, aop, aLoad, row_mk, Blk.row, PartOK, Go.Vm.part, V.cells, V.noSl, V.noRef, Nat.reduceAdd, Nat.reduceLeDiff, Nat.reduceMul, contentL, Value.oneCell', List.all_cons, List.all_nil, ‹Tys _›.h, ‹Fc _›.h]
        repeat (refine andA ?_)
        exact k') : aAny P L rg K (fuel + 1) listed ⟨env, O, vw, n, m⟩ := aAny_take hK kp i d hi hd hf hr ⟨v, hp, b⟩
theorem zdNilCheck {P : Program} {L : Lend} {rg : Array Oper} {K : St → Prop} {fuel : Nat} {listed : Array Bool} {env : List (Nat × V)} {O : List Blk} {vw : Bool} {n m : Nat} {oi : Oper} {rest : List Oper} {v : V} (hK : ∀ s t, EqS s t → K s → K t) (kp : Bool) (i d : Nat)
    (b : aAny P L rg K fuel (listed.setIfInBounds i true) ⟨(d, v) :: env, O, vw, n, m⟩) (hi : rg.toList.drop i = oi :: rest := by rfl) (hd : oi.dst = some d := by rfl) (hf : Region.freeG L kp rg listed i = true := by kernel_rfl) (hr : (Region.ready .any rg listed).contains i = true := by kernel_rfl)
    (hp : PureH P L rg kp oi d v ⟨env, O, vw, n, m⟩ := by
      intro t hn gx ho K' k'
      dsimp only at hn
      refine .inl ?_
      simp (disch := first | decide | rfl) only [gx, zE, aStepM, optable, Nat.reduceEqDiff, reduceIte, Nat.reduceLT, implies_true, forall_const, reduceCtorEq, V.ofValue, V.ofScalar, V.un, V.gd, aExec, aop, contentL, Value.oneCell', List.all_cons, List.all_nil, Bool.and_self, ‹Tys _›.h, ‹Fc _›.h]
      repeat (refine andA ?_)
      exact k') : aAny P L rg K (fuel + 1) listed ⟨env, O, vw, n, m⟩ := aAny_take hK kp i d hi hd hf hr ⟨v, hp, b⟩
theorem zdBinOp {P : Program} {L : Lend} {rg : Array Oper} {K : St → Prop} {fuel : Nat} {listed : Array Bool} {env : List (Nat × V)} {O : List Blk} {vw : Bool} {n m : Nat} {oi : Oper} {rest : List Oper} {v : V} (hK : ∀ s t, EqS s t → K s → K t) (kp : Bool) (i d : Nat)
    (b : aAny P L rg K fuel (listed.setIfInBounds i true) ⟨(d, v) :: env, O, vw, n, m⟩) (hi : rg.toList.drop i = oi :: rest := by rfl) (hd : oi.dst = some d := by rfl) (hf : Region.freeG L kp rg listed i = true := by kernel_rfl) (hr : (Region.ready .any rg listed).contains i = true := by kernel_rfl)
    (hp : PureH P L rg kp oi d v ⟨env, O, vw, n, m⟩ := by
      intro t hn gx ho K' k'
      dsimp only at hn
      refine .inl ?_
      simp (disch := first | decide | rfl) only [gx, zE, aStepM, optable, Nat.reduceEqDiff, reduceIte, Nat.reduceLT, implies_true, forall_const, reduceCtorEq, V.ofValue, V.ofScalar, V.un, V.gd, aExec, aop, aBin, isNil, or_true, true_or, or_false, false_or, EK.fitsL, EK.fits, cellsEq, cellEq, contentL, Value.oneCell', List.all_cons, List.all_nil, Bool.and_self, ‹Tys _›.h, ‹Fc _›.h]
      repeat (refine andA ?_)
      exact k') : aAny P L rg K (fuel + 1) listed ⟨env, O, vw, n, m⟩ := aAny_take hK kp i d hi hd hf hr ⟨v, hp, b⟩
theorem zdBinOpW {P : Program} {L : Lend} {rg : Array Oper} {K : St → Prop} {fuel : Nat} {listed : Array Bool} {env : List (Nat × V)} {O : List Blk} {vw : Bool} {n m : Nat} {oi : Oper} {rest : List Oper} {v : V} (hK : ∀ s t, EqS s t → K s → K t) (kp : Bool) (i d : Nat)
    (b : aAny P L rg K fuel (listed.setIfInBounds i true) ⟨(d, v) :: env, O, vw, n, m⟩) (hi : rg.toList.drop i = oi :: rest := by rfl) (hd : oi.dst = some d := by rfl) (hf : Region.freeG L kp rg listed i = true := by kernel_rfl) (hr : (Region.ready .any rg listed).contains i = true := by kernel_rfl)
    (hp : PureH P L rg kp oi d v ⟨env, O, vw, n, m⟩ := by
      intro t hn gx ho K' k'
      dsimp only at hn
      refine .inl ?_
      simp (disch := first | decide | rfl) only [gx, zE, aStepM, optable, Nat.reduceEqDiff, reduceIte, Nat.reduceLT, implies_true, forall_const, reduceCtorEq, V.ofValue, V.ofScalar, V.un, V.gd, aExec, aop, aBin, isNil, or_true, true_or, or_false, false_or, EK.fitsL, EK.fits, cellsEq, cellEq, contentL, Value.oneCell', List.all_cons, List.all_nil, Bool.and_self, ‹Tys _›.h, ‹Fc _›.h]
      try simp (disch := omega) only [wrap64]
      repeat (refine andA ?_)
      exact k') : aAny P L rg K (fuel + 1) listed ⟨env, O, vw, n, m⟩ := aAny_take hK kp i d hi hd hf hr ⟨v, hp, b⟩
theorem zdgBinOp {P : Program} {L : Lend} {rg : Array Oper} {K : St → Prop} {fuel : Nat} {listed : Array Bool} {env : List (Nat × V)} {O : List Blk} {vw : Bool} {n m : Nat} {oi : Oper} {rest : List Oper} {v : V} (hK : ∀ s t, EqS s t → K s → K t) (kp : Bool) (i d : Nat)
    (b : aAny P L rg K fuel (listed.setIfInBounds i true) ⟨(d, v) :: env, O, vw, n, m⟩) (hi : rg.toList.drop i = oi :: rest := by rfl) (hd : oi.dst = some d := by rfl) (hf : Region.freeG L kp rg listed i = true := by kernel_rfl) (hr : (Region.ready .any rg listed).contains i = true := by kernel_rfl)
    (hp : PureH P L rg kp oi d v ⟨env, O, vw, n, m⟩ := by
      intro t hn gx ho K' k'
      dsimp only at hn
      first
      | refine .inr ⟨?_, _, _, false, rfl, ?_, nofun, fun _ => ⟨.any, k'⟩⟩
        · simp only [hn, dst_some, Nat.reduceLT]
        · first | rfl | (simp (disch := decide) only [gx, zV, guardV, Nat.reduceEqDiff, reduceIte]; done)
      | skip
        refine .inl ?_
        simp (disch := first | decide | rfl) only [gx, zE, zG, aStepM, optable, Nat.reduceEqDiff, reduceIte, Nat.reduceLT, implies_true, forall_const, reduceCtorEq, V.ofValue, V.ofScalar, V.un, V.gd, guardV, V.wrap, aExec, aop, aBin, isNil, or_true, true_or, or_false, false_or, EK.fitsL, EK.fits, cellsEq, cellEq, contentL, Value.oneCell', List.all_cons, List.all_nil, Bool.and_self, ‹Tys _›.h, ‹Fc _›.h]
        repeat (refine andA ?_)
        exact k') : aAny P L rg K (fuel + 1) listed ⟨env, O, vw, n, m⟩ := aAny_take hK kp i d hi hd hf hr ⟨v, hp, b⟩
theorem zdgBinOpW {P : Program} {L : Lend} {rg : Array Oper} {K : St → Prop} {fuel : Nat} {listed : Array Bool} {env : List (Nat × V)} {O : List Blk} {vw : Bool} {n m : Nat} {oi : Oper} {rest : List Oper} {v : V} (hK : ∀ s t, EqS s t → K s → K t) (kp : Bool) (i d : Nat)
    (b : aAny P L rg K fuel (listed.setIfInBounds i true) ⟨(d, v) :: env, O, vw, n, m⟩) (hi : rg.toList.drop i = oi :: rest := by rfl) (hd : oi.dst = some d := by rfl) (hf : Region.freeG L kp rg listed i = true := by kernel_rfl) (hr : (Region.ready .any rg listed).contains i = true := by kernel_rfl)
    (hp : PureH P L rg kp oi d v ⟨env, O, vw, n, m⟩ := by
      intro t hn gx ho K' k'
      dsimp only at hn
      first
      | refine .inr ⟨?_, _, _, false, rfl, ?_, nofun, fun _ => ⟨.any, k'⟩⟩
        · simp only [hn, dst_some, Nat.reduceLT]
        · first | rfl | (simp (disch := decide) only [gx, zV, guardV, Nat.reduceEqDiff, reduceIte]; done)
      | skip
        refine .inl ?_
        simp (disch := first | decide | rfl) only [gx, zE, zG, aStepM, optable, Nat.reduceEqDiff, reduceIte, Nat.reduceLT, implies_true, forall_const, reduceCtorEq, V.ofValue, V.ofScalar, V.un, V.gd, guardV, V.wrap, aExec, aop, aBin, isNil, or_true, true_or, or_false, false_or, EK.fitsL, EK.fits, cellsEq, cellEq, contentL, Value.oneCell', List.all_cons, List.all_nil, Bool.and_self, ‹Tys _›.h, ‹Fc _›.h]
        try simp (disch := omega) only [wrap64]
        repeat (refine andA ?_)
        exact k') : aAny P L rg K (fuel + 1) listed ⟨env, O, vw, n, m⟩ := aAny_take hK kp i d hi hd hf hr ⟨v, hp, b⟩
theorem zdUnOp {P : Program} {L : Lend} {rg : Array Oper} {K : St → Prop} {fuel : Nat} {listed : Array Bool} {env : List (Nat × V)} {O : List Blk} {vw : Bool} {n m : Nat} {oi : Oper} {rest : List Oper} {v : V} (hK : ∀ s t, EqS s t → K s → K t) (kp : Bool) (i d : Nat)
    (b : aAny P L rg K fuel (listed.setIfInBounds i true) ⟨(d, v) :: env, O, vw, n, m⟩) (hi : rg.toList.drop i = oi :: rest := by rfl) (hd : oi.dst = some d := by rfl) (hf : Region.freeG L kp rg listed i = true := by kernel_rfl) (hr : (Region.ready .any rg listed).contains i = true := by kernel_rfl)
    (hp : PureH P L rg kp oi d v ⟨env, O, vw, n, m⟩ := by
      intro t hn gx ho K' k'
      dsimp only at hn
      refine .inl ?_
      simp (disch := first | decide | rfl) only [gx, zE, aStepM, optable, Nat.reduceEqDiff, reduceIte, Nat.reduceLT, implies_true, forall_const, reduceCtorEq, V.ofValue, V.ofScalar, V.un, V.gd, aExec, aop, aUn, contentL, Value.oneCell', List.all_cons, List.all_nil, Bool.and_self, ‹Tys _›.h, ‹Fc _›.h]
      repeat (refine andA ?_)
      exact k') : aAny P L rg K (fuel + 1) listed ⟨env, O, vw, n, m⟩ := aAny_take hK kp i d hi hd hf hr ⟨v, hp, b⟩
theorem zdgUnOp {P : Program} {L : Lend} {rg : Array Oper} {K : St → Prop} {fuel : Nat} {listed : Array Bool} {env : List (Nat × V)} {O : List Blk} {vw : Bool} {n m : Nat} {oi : Oper} {rest : List Oper} {v : V} (hK : ∀ s t, EqS s t → K s → K t) (kp : Bool) (i d : Nat)
    (b : aAny P L rg K fuel (listed.setIfInBounds i true) ⟨(d, v) :: env, O, vw, n, m⟩) (hi : rg.toList.drop i = oi :: rest := by rfl) (hd : oi.dst = some d := by rfl) (hf : Region.freeG L kp rg listed i = true := by kernel_rfl) (hr : (Region.ready .any rg listed).contains i = true := by kernel_rfl)
    (hp : PureH P L rg kp oi d v ⟨env, O, vw, n, m⟩ := by
      intro t hn gx ho K' k'
      dsimp only at hn
      first
      | refine .inr ⟨?_, _, _, false, rfl, ?_, nofun, fun _ => ⟨.any, k'⟩⟩
        · simp only [hn, dst_some, Nat.reduceLT]
        · first | rfl | (simp (disch := decide) only [gx, zV, guardV, Nat.reduceEqDiff, reduceIte]; done)
      | skip
        refine .inl ?_
        simp (disch := first | decide | rfl) only [gx, zE, zG, aStepM, optable, Nat.reduceEqDiff, reduceIte, Nat.reduceLT, implies_true, forall_const, reduceCtorEq, V.ofValue, V.ofScalar, V.un, V.gd, guardV, V.wrap, aExec, aop, aUn, contentL, Value.oneCell', List.all_cons, List.all_nil, Bool.and_self, ‹Tys _›.h, ‹Fc _›.h]
        repeat (refine andA ?_)
        exact k') : aAny P L rg K (fuel + 1) listed ⟨env, O, vw, n, m⟩ := aAny_take hK kp i d hi hd hf hr ⟨v, hp, b⟩
theorem zdFieldAddr {P : Program} {L : Lend} {rg : Array Oper} {K : St → Prop} {fuel : Nat} {listed : Array Bool} {env : List (Nat × V)} {O : List Blk} {vw : Bool} {n m : Nat} {oi : Oper} {rest : List Oper} {v : V} (hK : ∀ s t, EqS s t → K s → K t) (kp : Bool) (i d : Nat)
    (b : aAny P L rg K fuel (listed.setIfInBounds i true) ⟨(d, v) :: env, O, vw, n, m⟩) (hi : rg.toList.drop i = oi :: rest := by rfl) (hd : oi.dst = some d := by rfl) (hf : Region.freeG L kp rg listed i = true := by kernel_rfl) (hr : (Region.ready .any rg listed).contains i = true := by kernel_rfl)
    (hp : PureH P L rg kp oi d v ⟨env, O, vw, n, m⟩ := by
      intro t hn gx ho K' k'
      dsimp only at hn
      refine .inl ?_
      simp (disch := first | decide | rfl) only [gx, zE, zL, zN, aStepM, optable, Nat.reduceEqDiff, reduceIte, Nat.reduceLT, implies_true, forall_const, reduceCtorEq, V.ofValue, V.ofScalar, V.un, V.gd, aExec, aop, aFieldAddr, Nat.reduceAdd, Nat.reduceLeDiff, Nat.reduceMul, contentL, Value.oneCell', List.all_cons, List.all_nil, Bool.and_self, ‹Tys _›.h, ‹Fc _›.h]
      repeat (refine andA ?_)
      exact k') : aAny P L rg K (fuel + 1) listed ⟨env, O, vw, n, m⟩ := aAny_take hK kp i d hi hd hf hr ⟨v, hp, b⟩
theorem zdgFieldAddr {P : Program} {L : Lend} {rg : Array Oper} {K : St → Prop} {fuel : Nat} {listed : Array Bool} {env : List (Nat × V)} {O : List Blk} {vw : Bool} {n m : Nat} {oi : Oper} {rest : List Oper} {v : V} (hK : ∀ s t, EqS s t → K s → K t) (kp : Bool) (i d : Nat)
    (b : aAny P L rg K fuel (listed.setIfInBounds i true) ⟨(d, v) :: env, O, vw, n, m⟩) (hi : rg.toList.drop i = oi :: rest := by rfl) (hd : oi.dst = some d := by rfl) (hf : Region.freeG L kp rg listed i = true := by kernel_rfl) (hr : (Region.ready .any rg listed).contains i = true := by kernel_rfl)
    (hp : PureH P L rg kp oi d v ⟨env, O, vw, n, m⟩ := by
      intro t hn gx ho K' k'
      dsimp only at hn
      first
      | refine .inr ⟨?_, _, _, false, rfl, ?_, nofun, fun _ => ⟨.any, k'⟩⟩
        · simp only [hn, dst_some, Nat.reduceLT]
        · first | rfl | (simp (disch := decide) only [gx, zV, guardV, Nat.reduceEqDiff, reduceIte]; done)
      | skip
        refine .inl ?_
        simp (disch := first | decide | rfl) only [gx, zE, zL, zN, aStepM, optable, Nat.reduceEqDiff, reduceIte, Nat.reduceLT, implies_true, forall_const, reduceCtorEq, V.ofValue, V.ofScalar, V.un, V.gd, guardV, V.wrap, aExec, aop, aFieldAddr, Nat.reduceAdd, Nat.reduceLeDiff, Nat.reduceMul, contentL, Value.oneCell', List.all_cons, List.all_nil, Bool.and_self, ‹Tys _›.h, ‹Fc _›.h]
        repeat (refine andA ?_)
        exact k') : aAny P L rg K (fuel + 1) listed ⟨env, O, vw, n, m⟩ := aAny_take hK kp i d hi hd hf hr ⟨v, hp, b⟩
theorem zdIndexAddr {P : Program} {L : Lend} {rg : Array Oper} {K : St → Prop} {fuel : Nat} {listed : Array Bool} {env : List (Nat × V)} {O : List Blk} {vw : Bool} {n m : Nat} {oi : Oper} {rest : List Oper} {v : V} (hK : ∀ s t, EqS s t → K s → K t) (kp : Bool) (i d : Nat)
    (b : aAny P L rg K fuel (listed.setIfInBounds i true) ⟨(d, v) :: env, O, vw, n, m⟩) (hi : rg.toList.drop i = oi :: rest := by rfl) (hd : oi.dst = some d := by rfl) (hf : Region.freeG L kp rg listed i = true := by kernel_rfl) (hr : (Region.ready .any rg listed).contains i = true := by kernel_rfl)
    (hp : PureH P L rg kp oi d v ⟨env, O, vw, n, m⟩ := by
      intro t hn gx ho K' k'
      dsimp only at hn
      first | have r0 := row_all (ho rfl) 0 rfl | have r0 := True.intro
      first | have r1 := row_all (ho rfl) 1 rfl | have r1 := True.intro
      first | have r2 := row_all (ho rfl) 2 rfl | have r2 := True.intro
      first | have r3 := row_all (ho rfl) 3 rfl | have r3 := True.intro
      first | have r4 := row_all (ho rfl) 4 rfl | have r4 := True.intro
      first | have r5 := row_all (ho rfl) 5 rfl | have r5 := True.intro
      refine .inl ?_
      simp (disch := first | decide | rfl) only [gx, r0, r1, r2, r3, r4, r5, zE, zL, zN, aStepM, optable, Nat.reduceEqDiff, reduceIte, Nat.reduceLT, implies_true, forall_const, reduceCtorEq, V.ofValue, V.ofScalar, V.un, V.gd, aExec, aop, List.mem_cons, List.not_mem_nil, or_false, forall_eq_or_imp, forall_eq, aIndexAddr, row_mk, Blk.row, Go.Vm.V.cells, List.forall_mem_map, List.length_map, Int.toNat_natCast, Int.reduceToNat, TypeDesc.slice.injEq, Nat.reduceAdd, Nat.reduceLeDiff, Nat.reduceMul, contentL, Value.oneCell', List.all_cons, List.all_nil, Bool.and_self, ‹Tys _›.h, ‹Fc _›.h]
      repeat (refine andA ?_)
      exact k') : aAny P L rg K (fuel + 1) listed ⟨env, O, vw, n, m⟩ := aAny_take hK kp i d hi hd hf hr ⟨v, hp, b⟩
theorem zdIndexAddrR {P : Program} {L : Lend} {rg : Array Oper} {K : St → Prop} {fuel : Nat} {listed : Array Bool} {env : List (Nat × V)} {O : List Blk} {vw : Bool} {n m : Nat} {oi : Oper} {rest : List Oper} {v : V} (hK : ∀ s t, EqS s t → K s → K t) (kp : Bool) (i d : Nat)
    (b : aAny P L rg K fuel (listed.setIfInBounds i true) ⟨(d, v) :: env, O, vw, n, m⟩) (hi : rg.toList.drop i = oi :: rest := by rfl) (hd : oi.dst = some d := by rfl) (hf : Region.freeG L kp rg listed i = true := by kernel_rfl) (hr : (Region.ready .any rg listed).contains i = true := by kernel_rfl)
    (hp : PureH P L rg kp oi d v ⟨env, O, vw, n, m⟩ := by
      intro t hn gx ho K' k'
      dsimp only at hn
      have rs := row_sym (ho rfl) ‹Rw _ _ _›
      first | have r0 := row_all (ho rfl) 0 rfl | have r0 := True.intro
      first | have r1 := row_all (ho rfl) 1 rfl | have r1 := True.intro
      first | have r2 := row_all (ho rfl) 2 rfl | have r2 := True.intro
      first | have r3 := row_all (ho rfl) 3 rfl | have r3 := True.intro
      first | have r4 := row_all (ho rfl) 4 rfl | have r4 := True.intro
      first | have r5 := row_all (ho rfl) 5 rfl | have r5 := True.intro
      refine .inl ?_
      simp (disch := first | decide | rfl) only [gx, zE, zL, zN, rs, r0, r1, r2, r3, r4, r5, aStepM, optable, Nat.reduceEqDiff, reduceIte, Nat.reduceLT, implies_true, forall_const, reduceCtorEq, V.ofValue, V.ofScalar, V.un, V.gd, aExec, aop, List.mem_cons, List.not_mem_nil, or_false, forall_eq_or_imp, forall_eq, aIndexAddr, row_mk, Blk.row, Go.Vm.V.cells, List.forall_mem_map, List.length_map, Int.toNat_natCast, Int.reduceToNat, TypeDesc.slice.injEq, Nat.reduceAdd, Nat.reduceLeDiff, Nat.reduceMul, contentL, Value.oneCell', List.all_cons, List.all_nil, Bool.and_self, ‹Tys _›.h, ‹Fc _›.h]
      repeat (refine andA ?_)
      exact k') : aAny P L rg K (fuel + 1) listed ⟨env, O, vw, n, m⟩ := aAny_take hK kp i d hi hd hf hr ⟨v, hp, b⟩
theorem zdgIndexAddr {P : Program} {L : Lend} {rg : Array Oper} {K : St → Prop} {fuel : Nat} {listed : Array Bool} {env : List (Nat × V)} {O : List Blk} {vw : Bool} {n m : Nat} {oi : Oper} {rest : List Oper} {v : V} (hK : ∀ s t, EqS s t → K s → K t) (kp : Bool) (i d : Nat)
    (b : aAny P L rg K fuel (listed.setIfInBounds i true) ⟨(d, v) :: env, O, vw, n, m⟩) (hi : rg.toList.drop i = oi :: rest := by rfl) (hd : oi.dst = some d := by rfl) (hf : Region.freeG L kp rg listed i = true := by kernel_rfl) (hr : (Region.ready .any rg listed).contains i = true := by kernel_rfl)
    (hp : PureH P L rg kp oi d v ⟨env, O, vw, n, m⟩ := by
      intro t hn gx ho K' k'
      dsimp only at hn
      first | have r0 := row_all (ho rfl) 0 rfl | have r0 := True.intro
      first | have r1 := row_all (ho rfl) 1 rfl | have r1 := True.intro
      first | have r2 := row_all (ho rfl) 2 rfl | have r2 := True.intro
      first | have r3 := row_all (ho rfl) 3 rfl | have r3 := True.intro
      first | have r4 := row_all (ho rfl) 4 rfl | have r4 := True.intro
      first | have r5 := row_all (ho rfl) 5 rfl | have r5 := True.intro
      first
      | refine .inr ⟨?_, _, _, false, rfl, ?_, nofun, fun _ => ⟨.any, k'⟩⟩
        · simp only [hn, dst_some, Nat.reduceLT]
        · first | rfl | (simp (disch := decide) only [gx, zV, guardV, Nat.reduceEqDiff, reduceIte]; done)
      | skip
        refine .inl ?_
        simp (disch := first | decide | rfl) only [gx, r0, r1, r2, r3, r4, r5, zE, zL, zN, aStepM, optable, Nat.reduceEqDiff, reduceIte, Nat.reduceLT, implies_true, forall_const, reduceCtorEq, V.ofValue, V.ofScalar, V.un, V.gd, guardV, V.wrap, aExec, aop, List.mem_cons, List.not_mem_nil, or_false, forall_eq_or_imp, forall_eq, aIndexAddr, row_mk, Blk.row, Go.Vm.V.cells, List.forall_mem_map, List.length_map, Int.toNat_natCast, Int.reduceToNat, TypeDesc.slice.injEq, Nat.reduceAdd, Nat.reduceLeDiff, Nat.reduceMul, contentL, Value.oneCell', List.all_cons, List.all_nil, Bool.and_self, ‹Tys _›.h, ‹Fc _›.h]
        repeat (refine andA ?_)
        exact k') : aAny P L rg K (fuel + 1) listed ⟨env, O, vw, n, m⟩ := aAny_take hK kp i d hi hd hf hr ⟨v, hp, b⟩
theorem zdIndex {P : Program} {L : Lend} {rg : Array Oper} {K : St → Prop} {fuel : Nat} {listed : Array Bool} {env : List (Nat × V)} {O : List Blk} {vw : Bool} {n m : Nat} {oi : Oper} {rest : List Oper} {v : V} (hK : ∀ s t, EqS s t → K s → K t) (kp : Bool) (i d : Nat)
    (b : aAny P L rg K fuel (listed.setIfInBounds i true) ⟨(d, v) :: env, O, vw, n, m⟩) (hi : rg.toList.drop i = oi :: rest := by rfl) (hd : oi.dst = some d := by rfl) (hf : Region.freeG L kp rg listed i = true := by kernel_rfl) (hr : (Region.ready .any rg listed).contains i = true := by kernel_rfl)
    (hp : PureH P L rg kp oi d v ⟨env, O, vw, n, m⟩ := by
      intro t hn gx ho K' k'
      dsimp only at hn
      refine .inl ?_
      simp (disch := first | decide | rfl) only [gx, zE, zL, zN, aStepM, optable, Nat.reduceEqDiff, reduceIte, Nat.reduceLT, implies_true, forall_const, reduceCtorEq, V.ofValue, V.ofScalar, V.un, V.gd, aExec, aop, aIndex, Int.toNat_natCast, Int.reduceToNat, Nat.reduceAdd, Nat.reduceLeDiff, Nat.reduceMul, contentL, Value.oneCell', List.all_cons, List.all_nil, Bool.and_self, ‹Tys _›.h, ‹Fc _›.h]
      repeat (refine andA ?_)
      exact k') : aAny P L rg K (fuel + 1) listed ⟨env, O, vw, n, m⟩ := aAny_take hK kp i d hi hd hf hr ⟨v, hp, b⟩
theorem zdgIndex {P : Program} {L : Lend} {rg : Array Oper} {K : St → Prop} {fuel : Nat} {listed : Array Bool} {env : List (Nat × V)} {O : List Blk} {vw : Bool} {n m : Nat} {oi : Oper} {rest : List Oper} {v : V} (hK : ∀ s t, EqS s t → K s → K t) (kp : Bool) (i d : Nat)
    (b : aAny P L rg K fuel (listed.setIfInBounds i true) ⟨(d, v) :: env, O, vw, n, m⟩) (hi : rg.toList.drop i = oi :: rest := by rfl) (hd : oi.dst = some d := by rfl) (hf : Region.freeG L kp rg listed i = true := by kernel_rfl) (hr : (Region.ready .any rg listed).contains i = true := by kernel_rfl)
    (hp : PureH P L rg kp oi d v ⟨env, O, vw, n, m⟩ := by
      intro t hn gx ho K' k'
      dsimp only at hn
      first
      | refine .inr ⟨?_, _, _, false, rfl, ?_, nofun, fun _ => ⟨.any, k'⟩⟩
        · simp only [hn, dst_some, Nat.reduceLT]
        · first | rfl | (simp (disch := decide) only [gx, zV, guardV, Nat.reduceEqDiff, reduceIte]; done)
      | skip
        refine .inl ?_
        simp (disch := first | decide | rfl) only [gx, zE, zL, zN, aStepM, optable, Nat.reduceEqDiff, reduceIte, Nat.reduceLT, implies_true, forall_const, reduceCtorEq, V.ofValue, V.ofScalar, V.un, V.gd, guardV, V.wrap, aExec, aop, aIndex, Int.toNat_natCast, Int.reduceToNat, Nat.reduceAdd, Nat.reduceLeDiff, Nat.reduceMul, contentL, Value.oneCell', List.all_cons, List.all_nil, Bool.and_self, ‹Tys _›.h, ‹Fc _›.h]
        repeat (refine andA ?_)
        exact k') : aAny P L rg K (fuel + 1) listed ⟨env, O, vw, n, m⟩ := aAny_take hK kp i d hi hd hf hr ⟨v, hp, b⟩
theorem zdExtract {P : Program} {L : Lend} {rg : Array Oper} {K : St → Prop} {fuel : Nat} {listed : Array Bool} {env : List (Nat × V)} {O : List Blk} {vw : Bool} {n m : Nat} {oi : Oper} {rest : List Oper} {v : V} (hK : ∀ s t, EqS s t → K s → K t) (kp : Bool) (i d : Nat)
    (b : aAny P L rg K fuel (listed.setIfInBounds i true) ⟨(d, v) :: env, O, vw, n, m⟩) (hi : rg.toList.drop i = oi :: rest := by rfl) (hd : oi.dst = some d := by rfl) (hf : Region.freeG L kp rg listed i = true := by kernel_rfl) (hr : (Region.ready .any rg listed).contains i = true := by kernel_rfl)
    (hp : PureH P L rg kp oi d v ⟨env, O, vw, n, m⟩ := by
      intro t hn gx ho K' k'
      dsimp only at hn
      refine .inl ?_
      simp (disch := first | decide | rfl) only [gx, zE, zL, zN, aStepM, optable, Nat.reduceEqDiff, reduceIte, Nat.reduceLT, implies_true, forall_const, reduceCtorEq, V.ofValue, V.ofScalar, V.un, V.gd, aExec, aop, aExtract, Nat.reduceAdd, Nat.reduceLeDiff, Nat.reduceMul, contentL, Value.oneCell', List.all_cons, List.all_nil, Bool.and_self, ‹Tys _›.h, ‹Fc _›.h]
      repeat (refine andA ?_)
      exact k') : aAny P L rg K (fuel + 1) listed ⟨env, O, vw, n, m⟩ := aAny_take hK kp i d hi hd hf hr ⟨v, hp, b⟩
theorem zdSlice {P : Program} {L : Lend} {rg : Array Oper} {K : St → Prop} {fuel : Nat} {listed : Array Bool} {env : List (Nat × V)} {O : List Blk} {vw : Bool} {n m : Nat} {oi : Oper} {rest : List Oper} {v : V} (hK : ∀ s t, EqS s t → K s → K t) (kp : Bool) (i d : Nat)
    (b : aAny P L rg K fuel (listed.setIfInBounds i true) ⟨(d, v) :: env, O, vw, n, m⟩) (hi : rg.toList.drop i = oi :: rest := by rfl) (hd : oi.dst = some d := by rfl) (hf : Region.freeG L kp rg listed i = true := by kernel_rfl) (hr : (Region.ready .any rg listed).contains i = true := by kernel_rfl)
    (hp : PureH P L rg kp oi d v ⟨env, O, vw, n, m⟩ := by
      intro t hn gx ho K' k'
      dsimp only at hn
      first | have r0 := row_all (ho rfl) 0 rfl | have r0 := True.intro
      first | have r1 := row_all (ho rfl) 1 rfl | have r1 := True.intro
      first | have r2 := row_all (ho rfl) 2 rfl | have r2 := True.intro
      first | have r3 := row_all (ho rfl) 3 rfl | have r3 := True.intro
      first | have r4 := row_all (ho rfl) 4 rfl | have r4 := True.intro
      first | have r5 := row_all (ho rfl) 5 rfl | have r5 := True.intro
      refine .inl ?_
      simp (disch := first | decide | rfl) only [gx, r0, r1, r2, r3, r4, r5, zE, zL, zN, aStepM, optable, Nat.reduceEqDiff, reduceIte, Nat.reduceLT, implies_true, forall_const, reduceCtorEq, V.ofValue, V.ofScalar, V.un, V.gd, aExec, aop, List.set_cons_zero, List.set_cons_succ, aSlice, forall_eq', bound, ElemsOK, Option.map_none, Option.isNone_none, row_mk, Blk.row, TypeDesc.slice.injEq, List.forall_mem_map, List.length_map, Go.Vm.V.cells, Int.toNat_natCast, Int.reduceToNat, ← List.map_take, ← List.map_drop, List.take_length, Nat.reduceAdd, Nat.reduceLeDiff, Nat.reduceMul, contentL, Value.oneCell', List.all_cons, List.all_nil, Bool.and_self, ‹Tys _›.h, ‹Fc _›.h]
      repeat (refine andA ?_)
      exact k') : aAny P L rg K (fuel + 1) listed ⟨env, O, vw, n, m⟩ := aAny_take hK kp i d hi hd hf hr ⟨v, hp, b⟩
theorem zdLen {P : Program} {L : Lend} {rg : Array Oper} {K : St → Prop} {fuel : Nat} {listed : Array Bool} {env : List (Nat × V)} {O : List Blk} {vw : Bool} {n m : Nat} {oi : Oper} {rest : List Oper} {v : V} (hK : ∀ s t, EqS s t → K s → K t) (kp : Bool) (i d : Nat)
    (b : aAny P L rg K fuel (listed.setIfInBounds i true) ⟨(d, v) :: env, O, vw, n, m⟩) (hi : rg.toList.drop i = oi :: rest := by rfl) (hd : oi.dst = some d := by rfl) (hf : Region.freeG L kp rg listed i = true := by kernel_rfl) (hr : (Region.ready .any rg listed).contains i = true := by kernel_rfl)
    (hp : PureH P L rg kp oi d v ⟨env, O, vw, n, m⟩ := by
      intro t hn gx ho K' k'
      dsimp only at hn
      first | have r0 := row_all (ho rfl) 0 rfl | have r0 := True.intro
      first | have r1 := row_all (ho rfl) 1 rfl | have r1 := True.intro
      first | have r2 := row_all (ho rfl) 2 rfl | have r2 := True.intro
      first | have r3 := row_all (ho rfl) 3 rfl | have r3 := True.intro
      first | have r4 := row_all (ho rfl) 4 rfl | have r4 := True.intro
      first | have r5 := row_all (ho rfl) 5 rfl | have r5 := True.intro
      refine .inl ?_
      simp (disch := first | decide | rfl) only [gx, r0, r1, r2, r3, r4, r5, zE, zL, zN, aStepM, optable, Nat.reduceEqDiff, reduceIte, Nat.reduceLT, implies_true, forall_const, reduceCtorEq, V.ofValue, V.ofScalar, V.un, V.gd, aExec, aop, List.length_map, aLen, lenOK, row_mk, Blk.row, List.size_toArray, List.getD_eq_getElem?_getD, Array.getD_eq_getD_getElem?, Option.getD_some, Nat.reduceAdd, Nat.reduceLeDiff, Nat.reduceMul, contentL, Value.oneCell', List.all_cons, List.all_nil, Bool.and_self, ‹Tys _›.h, ‹Fc _›.h]
      repeat (refine andA ?_)
      exact k') : aAny P L rg K (fuel + 1) listed ⟨env, O, vw, n, m⟩ := aAny_take hK kp i d hi hd hf hr ⟨v, hp, b⟩
theorem zdConvert {P : Program} {L : Lend} {rg : Array Oper} {K : St → Prop} {fuel : Nat} {listed : Array Bool} {env : List (Nat × V)} {O : List Blk} {vw : Bool} {n m : Nat} {oi : Oper} {rest : List Oper} {v : V} (hK : ∀ s t, EqS s t → K s → K t) (kp : Bool) (i d : Nat)
    (b : aAny P L rg K fuel (listed.setIfInBounds i true) ⟨(d, v) :: env, O, vw, n, m⟩) (hi : rg.toList.drop i = oi :: rest := by rfl) (hd : oi.dst = some d := by rfl) (hf : Region.freeG L kp rg listed i = true := by kernel_rfl) (hr : (Region.ready .any rg listed).contains i = true := by kernel_rfl)
    (hp : PureH P L rg kp oi d v ⟨env, O, vw, n, m⟩ := by
      intro t hn gx ho K' k'
      dsimp only at hn
      refine .inl ?_
      simp (disch := first | decide | rfl) only [gx, zE, zL, zN, aStepM, optable, Nat.reduceEqDiff, reduceIte, Nat.reduceLT, implies_true, forall_const, reduceCtorEq, V.ofValue, V.ofScalar, V.un, V.gd, aExec, aop, unByte, row_mk, Blk.row, TypeDesc.slice.injEq, Nat.reduceAdd, Nat.reduceLeDiff, Nat.reduceMul, contentL, Value.oneCell', List.all_cons, List.all_nil, Bool.and_self, ‹Tys _›.h, ‹Fc _›.h]
      repeat (refine andA ?_)
      exact k') : aAny P L rg K (fuel + 1) listed ⟨env, O, vw, n, m⟩ := aAny_take hK kp i d hi hd hf hr ⟨v, hp, b⟩
theorem zdConvertY {P : Program} {L : Lend} {rg : Array Oper} {K : St → Prop} {fuel : Nat} {listed : Array Bool} {env : List (Nat × V)} {O : List Blk} {vw : Bool} {n m : Nat} {oi : Oper} {rest : List Oper} {v : V} (hK : ∀ s t, EqS s t → K s → K t) (kp : Bool) (i d : Nat)
    (b : aAny P L rg K fuel (listed.setIfInBounds i true) ⟨(d, v) :: env, O, vw, n, m⟩) (hi : rg.toList.drop i = oi :: rest := by rfl) (hd : oi.dst = some d := by rfl) (hf : Region.freeG L kp rg listed i = true := by kernel_rfl) (hr : (Region.ready .any rg listed).contains i = true := by kernel_rfl)
    (hp : PureH P L rg kp oi d v ⟨env, O, vw, n, m⟩ := by
      intro t hn gx ho K' k'
      dsimp only at hn
      first | have r0 := row_all (ho rfl) 0 rfl | have r0 := True.intro
      first | have r1 := row_all (ho rfl) 1 rfl | have r1 := True.intro
      first | have r2 := row_all (ho rfl) 2 rfl | have r2 := True.intro
      first | have r3 := row_all (ho rfl) 3 rfl | have r3 := True.intro
      first | have r4 := row_all (ho rfl) 4 rfl | have r4 := True.intro
      first | have r5 := row_all (ho rfl) 5 rfl | have r5 := True.intro
      refine .inl ?_
      simp (disch := first | decide | rfl) only [gx, r0, r1, r2, r3, r4, r5, zE, zL, zN, aStepM, optable, Nat.reduceEqDiff, reduceIte, Nat.reduceLT, implies_true, forall_const, reduceCtorEq, V.ofValue, V.ofScalar, V.un, V.gd, aExec, aop, unByte, row_mk, Blk.row, TypeDesc.slice.injEq, Nat.reduceAdd, Nat.reduceLeDiff, Nat.reduceMul, contentL, Value.oneCell', List.all_cons, List.all_nil, Bool.and_self, ‹Tys _›.h, ‹Fc _›.h]
      repeat (refine andA ?_)
      exact k') : aAny P L rg K (fuel + 1) listed ⟨env, O, vw, n, m⟩ := aAny_take hK kp i d hi hd hf hr ⟨v, hp, b⟩
theorem zoAssign {P : Program} {L : Lend} {rg : Array Oper} {K : St → Prop} {fuel : Nat} {listed : Array Bool} {s : St} {oi : Oper} {rest : List Oper} {B : Prop} (i : Nat) (b : Ho B) (hi : rg.toList.drop i = oi :: rest := by rfl) (hr : Region.ready .any rg listed = [i] := by kernel_rfl)
    (e : Ho B → (∀ K' : St → Prop, (∀ s, aAny P L rg K fuel (listed.setIfInBounds i true) s → K' s) → aStepM P L rg oi s K') := by
      intro b K k
      simp only [zE, zS, aStepM, optable, set_some, Nat.reduceEqDiff, reduceIte, Nat.reduceLT, implies_true, forall_const, reduceCtorEq, V.ofValue, V.ofScalar, V.un, V.gd, aExec, aop, Nat.reduceAdd, contentL, Value.oneCell', List.all_cons, List.all_nil, Bool.and_self, ‹Tys _›.h, ‹Fc _›.h]
      repeat (refine andA ?_)
      refine k _ ?_
      clear k K
      exact b.h) : aAny P L rg K (fuel + 1) listed s := aAny_only i hi hr (e b)
theorem zoStore {P : Program} {L : Lend} {rg : Array Oper} {K : St → Prop} {fuel : Nat} {listed : Array Bool} {s : St} {oi : Oper} {rest : List Oper} {B : Prop} (i : Nat) (b : Ho B) (hi : rg.toList.drop i = oi :: rest := by rfl) (hr : Region.ready .any rg listed = [i] := by kernel_rfl)
    (e : Ho B → (∀ K' : St → Prop, (∀ s, aAny P L rg K fuel (listed.setIfInBounds i true) s → K' s) → aStepM P L rg oi s K') := by
      intro b K k
      simp only [zE, zS, zJ, zL, zO, zN, aStepM, optable, set_some, Nat.reduceEqDiff, reduceIte, Nat.reduceLT, implies_true, forall_const, reduceCtorEq, V.ofValue, V.ofScalar, V.un, V.gd, aExec, aop, aStore, setCells, V.isVal, V.cells, kindOf, kindAll, V.noSl, V.noRef, gt_iff_lt, Nat.reduceAdd, Nat.reduceLeDiff, Nat.reduceMul, takeV, takeCell, takeCells, row_mk, Blk.row, killAll, Nat.reduceBEq, join_t, contentL, Value.oneCell', ‹Tys _›.h, ‹Fc _›.h]
      repeat (refine andA ?_)
      refine k _ ?_
      clear k K
      exact b.h) : aAny P L rg K (fuel + 1) listed s := aAny_only i hi hr (e b)
theorem zoBuildSlice {P : Program} {L : Lend} {rg : Array Oper} {K : St → Prop} {fuel : Nat} {listed : Array Bool} {s : St} {oi : Oper} {rest : List Oper} {B : Prop} (i : Nat) (b : Ho B) (hi : rg.toList.drop i = oi :: rest := by rfl) (hr : Region.ready .any rg listed = [i] := by kernel_rfl)
    (e : Ho B → (∀ K' : St → Prop, (∀ s, aAny P L rg K fuel (listed.setIfInBounds i true) s → K' s) → aStepM P L rg oi s K') := by
      intro b K k
      simp only [zE, zO, zN, aStepM, optable, set_some, Nat.reduceEqDiff, reduceIte, Nat.reduceLT, implies_true, forall_const, reduceCtorEq, V.ofValue, V.ofScalar, V.un, V.gd, aExec, aop, litElems, rng0, rng1, rng2, rng3, rng4, rng5, rng6, rng7, rng8, rng9, rng10, rng11, rng12, List.map_cons, List.map_nil, List.all_cons, List.all_nil, V.isVal, V.cells, content, kindAll, V.noRef, V.noSl, List.mem_cons, List.not_mem_nil, or_false, forall_eq_or_imp, forall_eq, if_true, Option.isSome_some, List.length_cons, List.length_nil, Nat.reduceAdd, Nat.reduceLeDiff, Nat.reduceMul, contentL, Value.oneCell', ‹Tys _›.h, ‹Fc _›.h]
      repeat (refine andA ?_)
      refine k _ ?_
      clear k K
      exact b.h) : aAny P L rg K (fuel + 1) listed s := aAny_only i hi hr (e b)
theorem zoc {P : Program} {L : Lend} {rg : Array Oper} {K : St → Prop} {fuel : Nat} {listed : Array Bool} {s : St} {oi : Oper} {rest : List Oper} {B : Prop} {C : Prop} (i : Nat) (con : C) (b : Ho B) (hi : rg.toList.drop i = oi :: rest := by rfl) (hr : Region.ready .any rg listed = [i] := by kernel_rfl)
    (e : C → Ho B → (∀ K' : St → Prop, (∀ s, aAny P L rg K fuel (listed.setIfInBounds i true) s → K' s) → aStepM P L rg oi s K') := by
      intro con b K k
      simp only [zE, zM, aStepM, optable, set_some, Nat.reduceEqDiff, reduceIte, Nat.reduceLT, implies_true, forall_const, reduceCtorEq, V.ofValue, V.ofScalar, V.un, V.gd, aExec, lentIds, lendOf, ‹Tys _›.h, ‹Fc _›.h]
      repeat (refine andC ?_)
      refine aCall_new con (by first | rfl | (simp only [toArgs, toArg, toCell, toCells, idx, row_mk, List.getElem?_cons_zero, List.getElem?_cons_succ, Option.bind_some, Option.map_some, Blk.row, fillK_mix, flat_mix, deep_mix, thin_mix, shal_mix, cond_true, List.map_take]; done) | (simp [toArgs, toArg, toCell, toCells, idx, row_mk, Blk.row, fillK_mix, flat_mix, deep_mix, thin_mix, shal_mix, Nat.beq_refl]; done)) (by first | exact .inl ⟨rfl, by simp [Blk.kindIs, fillK_fd]⟩ | exact .inr (by simp [V.cold])) ?_
      refine k _ ?_
      clear k K
      simp only [zY, zW, set_some, Nat.reduceEqDiff, reduceIte, V.ren, V.renL, rho, Nat.reduceAdd]
      exact b.h) : aAny P L rg K (fuel + 1) listed s := aAny_only i hi hr (e con b)
theorem zogc {P : Program} {L : Lend} {rg : Array Oper} {K : St → Prop} {fuel : Nat} {listed : Array Bool} {s : St} {oi : Oper} {rest : List Oper} {B : Prop} {C : Prop} (i : Nat) (con : C) (b : Ho B) (hi : rg.toList.drop i = oi :: rest := by rfl) (hr : Region.ready .any rg listed = [i] := by kernel_rfl)
    (e : C → Ho B → (Region.ready .any rg listed = [i]) → (rg.toList.drop i = oi :: rest) → aAny P L rg K (fuel + 1) listed s := by
      intro con b hr hi
      first
      | refine aAny_pass _ _ _ _ hi rfl (Nat.le_of_ble_eq_true rfl) hr rfl ?_ ?_
        · first | rfl | (simp only [zV, guardV, Nat.reduceEqDiff, reduceIte]; done)
        simp only [zW, set_some, Nat.reduceEqDiff, reduceIte]
        exact b.h
      | skip
        refine aAny_only _ hi hr ?_
        intro K k
        simp only [zE, zG, aStepM, optable, set_some, Nat.reduceEqDiff, reduceIte, Nat.reduceLT, implies_true, forall_const, reduceCtorEq, V.ofValue, V.ofScalar, V.un, V.gd, guardV, ‹Tys _›.h, ‹Fc _›.h]
        simp only [zM, zW, aExec, lentIds, lendOf, set_some, Nat.reduceEqDiff, reduceIte, V.ofValue, V.ofScalar, V.un, V.gd, and_true, true_and, implies_true, and_self, decide_eq_true_eq]
        first | refine Exists.imp (fun r h => h) (aCall_guardT con (by first | rfl | (simp only [toArgs, toArg, toCell, toCells, idx, row_mk, List.getElem?_cons_zero, List.getElem?_cons_succ, Option.bind_some, Option.map_some, Blk.row, fillK_mix, flat_mix, deep_mix, thin_mix, shal_mix, cond_true, List.map_take]; done) | (simp [toArgs, toArg, toCell, toCells, idx, row_mk, Blk.row, fillK_mix, flat_mix, deep_mix, thin_mix, shal_mix, Nat.beq_refl]; done)) rfl rfl ?_) | refine Exists.imp (fun r h => h) (aCall_guard0 (fun hg => con) (by first | rfl | (simp only [toArgs, toArg, toCell, toCells, idx, row_mk, List.getElem?_cons_zero, List.getElem?_cons_succ, Option.bind_some, Option.map_some, Blk.row, fillK_mix, flat_mix, deep_mix, thin_mix, shal_mix, cond_true, List.map_take]; done) | (simp [toArgs, toArg, toCell, toCells, idx, row_mk, Blk.row, fillK_mix, flat_mix, deep_mix, thin_mix, shal_mix, Nat.beq_refl]; done)) rfl rfl ?_) | refine Exists.imp (fun r h => h) (aCall_guard (by first | (intros; trivial) | (intros; simp_all; done)) (fun hg => con) (by first | rfl | (simp only [toArgs, toArg, toCell, toCells, idx, row_mk, List.getElem?_cons_zero, List.getElem?_cons_succ, Option.bind_some, Option.map_some, Blk.row, fillK_mix, flat_mix, deep_mix, thin_mix, shal_mix, cond_true, List.map_take]; done) | (simp [toArgs, toArg, toCell, toCells, idx, row_mk, Blk.row, fillK_mix, flat_mix, deep_mix, thin_mix, shal_mix, Nat.beq_refl]; done)) rfl rfl ?_)
        refine k _ ?_
        clear k K
        exact b.h) : aAny P L rg K (fuel + 1) listed s := e con b hr hi
end Go.Vm
