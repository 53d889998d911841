/- The value machine, part 10: stores and appends. -/
import Derived.Test.YtciapcamhocmcaaVm9
set_option linter.unusedSimpArgs false
set_option linter.unusedVariables false
namespace Go.Vm
open Go

section
variable {P : Program} {cx : Cx} {s : St} {a : Act} {w : World} {μ : Nat → Option Loc} {ow : Ow}

theorem VOK.mono2 {ow' : Ow} {vw : Bool} {b : Nat} (h : VOK cx ow vw b) (h0 : ow b = none → ow' b = none) (h1 : ∀ id, ow b = some (false, id) → ow' b = none ∨ ∃ id', ow' b = some (false, id')) : VOK cx ow' vw b := by
  refine ⟨?_, h.2⟩
  rcases h.1 with e | ⟨e1, id, e2⟩
  · exact .inl (h0 e)
  · rcases h1 id e2 with q | ⟨id', q⟩
    · exact .inl q
    · exact .inr ⟨e1, id', q⟩

theorem frozen_setRow (w : World) (g : Nat) (cs : Array Value) (x : Addr) : (w.setRow g cs).frozen? x = w.frozen? x := by
  by_cases h : x.block = g
  · simp only [World.frozen?, World.setRow, h, Array.getElem?_modify, if_true]
    cases w.heap[g]? with
    | none => rfl
    | some o => cases o <;> rfl
  · simp [World.frozen?, setRow_other w g x.block cs h]

/-- A change of owned blocks. 'T': those that change. -/
theorem Rel.mut (h : Rel cx s a w μ ow) {w' : World} {μ' : Nat → Option Loc} {ow' : Ow} {O' : List Blk} (T : Nat → Prop) (hm : MLe μ μ') (hdom : ∀ id, O'.length ≤ id → μ' id = none)
    (hsize : w.heap.size ≤ w'.heap.size) (hold : ∀ b, b < w.heap.size → (∀ id, ow b = some (true, id) → ¬ T id) → w'.heap[b]? = w.heap[b]?) (hos : w'.os = w.os) (htape : w'.tape = w.tape) (hout : w'.output = w.output) (hice : ∀ x, x.block < w.heap.size → w'.frozen? x = w.frozen? x)
    (h0 : ∀ b, b < w.heap.size → ow b = none → ow' b = none) (h1 : ∀ b id, ow b = some (false, id) → ow' b = none ∨ ∃ id', ow' b = some (false, id'))
    (hblk : ∀ id bk, O'[id]? = some bk → (s.O[id]? = some bk ∧ ¬ T id ∧ ∀ b r, ow b = some (r, id) → ow' b = ow b) ∨ BlkOK cx w' μ' ow' s.vw id bk)
    (howl : ∀ b, ow' b ≠ none → Live w' b) (hown : ∀ b, ow' b ≠ none → ow b ≠ none ∨ w.heap.size ≤ b) : Rel cx { s with O := O' } a w' μ' ow' := by
  have hv : ∀ b, b < w.heap.size → VOK cx ow s.vw b → w'.heap[b]? = w.heap[b]? ∧ VOK cx ow' s.vw b := by
    intro b hb hvok
    refine ⟨hold b hb fun id e => (hvok.not_root e).elim, hvok.mono2 (h0 b hb) (h1 b)⟩
  refine ⟨h.dfr, h.sz, ?_, ?_, hdom, howl, ?_, ?_, h.mu.trans hm⟩
  · intro t
    obtain ⟨bl, r1, r2⟩ := h.env t
    exact ⟨bl, r1.keep hm fun b hb => (hv b (r1.lt b hb) (r2 b hb)).1, fun b hb => (hv b (r1.lt b hb) (r2 b hb)).2⟩
  · intro id bk e
    rcases hblk id bk e with ⟨e0, hT, hsame⟩ | q
    · have hb := h.blk id bk e0
      have key : ∀ xs k, RowOK cx w μ ow s.vw id xs k → RowOK cx w' μ' ow' s.vw id xs k := by
        intro xs k ⟨l, q1, q2, q3⟩
        refine ⟨l, hm _ _ q1, q2, ?_⟩
        rcases q3 with q3 | ⟨q3, q4, bl, q5, q6, q7⟩
        · exact .inl q3
        · have hroot : w'.heap[l.b]? = w.heap[l.b]? := hold l.b q5.lt fun id' e' => by rw [q4] at e'; cases e'; exact hT
          have hnest : ∀ b ∈ bl, w'.heap[b]? = w.heap[b]? := by
            intro b hbb
            have hlt : b < w.heap.size := by obtain ⟨vs, c1, _, _⟩ := q5.rowOf; exact c1.lt b hbb
            cases k with
            | flat | thin => have : bl = [] := q6; subst this; cases hbb
            | deep => exact hold b hlt fun id' e' => by rw [q6.2 b hbb] at e'; cases e'
            | shal => exact (hv b hlt (q6 b hbb)).1
            | mix => exact (hv b hlt (q6 b hbb)).1
          refine .inr ⟨q3, (hsame _ _ q4).trans q4, bl, q5.keep (Kd.mu_mono hm) hroot hnest, ?_, q7⟩
          have hlt : ∀ b ∈ bl, b < w.heap.size := by obtain ⟨vs, c1, _, _⟩ := q5.rowOf; exact c1.lt
          cases k with
          | flat | thin => exact q6
          | deep => exact ⟨q6.1, fun b hbb => (hsame _ _ (q6.2 b hbb)).trans (q6.2 b hbb)⟩
          | shal => exact fun b hbb => (hv b (hlt b hbb) (q6 b hbb)).2
          | mix => exact fun b hbb => (hv b (hlt b hbb) (q6 b hbb)).2
      cases bk with
      | dead => trivial
      | arr xs k => exact key xs k hb
      | box x k => exact key [x] k hb
    · exact q
  · intro b hb
    rcases hown b hb with q | q
    · exact h.own b q
    · exact .inr (Nat.le_trans h.frm.size q)
  · refine ⟨Nat.le_trans h.frm.size hsize, fun b hb hn => ?_, hos.trans h.frm.os, htape.trans h.frm.tape, hout.trans h.frm.output, fun x hx => (hice x (Nat.lt_of_lt_of_le hx h.frm.size)).trans (h.frm.ice x hx)⟩
    refine (hold b (Nat.lt_of_lt_of_le hb h.frm.size) fun id e => ?_).trans (h.frm.old b hb hn)
    rcases h.own b (by rw [e]; simp) with q | q
    · exact absurd q hn
    · omega

theorem getElem?_append3 {α : Type} (xs ys zs : List α) (o : Nat) (ho : xs.length = o) (j : Nat) : (xs ++ ys ++ zs)[j]? = if j < o then xs[j]? else if j < o + ys.length then ys[j - o]? else zs[j - o - ys.length]? := by
  subst ho
  by_cases h1 : j < xs.length
  · rw [if_pos h1, List.append_assoc, List.getElem?_append_left h1]
  · rw [if_neg h1, List.append_assoc, List.getElem?_append_right (by omega)]
    by_cases h2 : j < xs.length + ys.length
    · rw [if_pos h2, List.getElem?_append_left (by omega)]
    · rw [if_neg h2, List.getElem?_append_right (by omega)]

/-- The cells of an owned block, some of them overwritten. -/
theorem cells_put {μ' : Nat → Option Loc} {l : Loc} {xs' : List V} {bl' : List Nat} {o : Nat} {news vs vs' : List Value} (c : Array Value) (t : TypeId) (hc : w.heap[l.b]? = some (.cells c t (0, 0)))
    (g5 : l.off + l.cap * l.sz ≤ c.size) (g2 : 0 < l.sz) (g7 : ∀ v ∈ vs, v.oneCell' = true) (g8 : ∀ j x, vs[j]? = some x → c[l.off + j]? = some x)
    (hlen : xs'.length ≤ l.cap) (hfit : o + news.length ≤ l.cap * l.sz) (hz : ∀ x ∈ xs', x.cells.length = l.sz) (h1 : ∀ v ∈ news, v.oneCell' = true)
    (k1 : RepL w μ' (xs'.flatMap V.cells) vs' bl') (k2 : vs' = (vs.take o ++ news ++ vs.drop (o + news.length)).take vs'.length) (k3 : o ≤ vs.length)
    (hbl : ∀ b ∈ bl', b ≠ l.b) :
    Cells (w.setRow l.b (c.toList.take (l.off + o) ++ news ++ c.toList.drop (l.off + o + news.length)).toArray) μ' { l with n := xs'.length } xs' bl' := by
  have hsz : (c.toList.take (l.off + o) ++ news ++ c.toList.drop (l.off + o + news.length)).length = c.size := by simp; omega
  refine ⟨hlen, g2, hz, _, t, vs', setRow_heap w l.b c _ t _ hc, ?_, ?_, ?_, ?_⟩
  · rw [List.size_toArray, hsz]; exact g5
  · exact k1.keep (MLe.refl _) fun b hb => setRow_other w l.b b _ (hbl b hb)
  · intro v hv
    rw [k2] at hv
    have hv := List.mem_of_mem_take hv
    rw [List.mem_append, List.mem_append] at hv
    rcases hv with (hv | hv) | hv
    · exact g7 v (List.mem_of_mem_take hv)
    · exact h1 v hv
    · exact g7 v (List.mem_of_mem_drop hv)
  · intro j x hj
    have hjl : j < vs'.length := by
      rcases Nat.lt_or_ge j vs'.length with q | q
      · exact q
      · rw [List.getElem?_eq_none q] at hj; cases hj
    rw [k2, List.getElem?_take_of_lt hjl] at hj
    have hcl : (c.toList.take (l.off + o)).length = l.off + o := by rw [List.length_take, Array.length_toList]; omega
    show (c.toList.take (l.off + o) ++ news ++ c.toList.drop (l.off + o + news.length)).toArray[l.off + j]? = some x
    rw [List.getElem?_toArray, getElem?_append3 _ _ _ _ hcl]
    by_cases hj1 : j < o
    · rw [if_pos (by omega), List.getElem?_take_of_lt (by omega)]
      rw [List.append_assoc] at hj
      rw [List.getElem?_append_left (by rw [List.length_take]; omega), List.getElem?_take_of_lt hj1] at hj
      simpa using g8 j x hj
    · have htl : (vs.take o).length = o := by rw [List.length_take]; omega
      rw [getElem?_append3 _ _ _ _ htl, if_neg hj1] at hj
      rw [if_neg (by omega)]
      by_cases hj2 : j < o + news.length
      · rw [if_pos hj2] at hj
        rw [if_pos (by omega)]
        have : l.off + j - (l.off + o) = j - o := by omega
        rw [this]; exact hj
      · rw [if_neg hj2, List.getElem?_drop] at hj
        rw [if_neg (by omega), List.getElem?_drop]
        have e1 : o + news.length + (j - o - news.length) = j := by omega
        have e2 : l.off + o + news.length + (l.off + j - (l.off + o) - news.length) = l.off + j := by omega
        rw [e1] at hj
        rw [e2]
        simpa using g8 j x hj

end
end Go.Vm
