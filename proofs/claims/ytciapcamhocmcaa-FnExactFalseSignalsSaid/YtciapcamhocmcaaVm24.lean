/- The value machine, part 24: the sort of a slice of integers, out of the kit's contract. -/
import Derived.Test.YtciapcamhocmcaaVm20
import Derived.Sort.Grow
set_option linter.unusedSimpArgs false
set_option linter.unusedVariables false
namespace Go.Vm
open Go

theorem rep_ints {w : World} {μ : Nat → Option Loc} : ∀ (ns : List Int) {vs : List Value} {bl : List Nat}, RepL w μ ((ns.map (V.int .i64)).flatMap V.cells) vs bl → vs = ns.map (Value.int .i64)
  | [], vs, bl, h => by cases h; rfl
  | n :: ns, vs, bl, h => by
    simp only [List.map_cons, List.flatMap_cons, V.cells, List.cons_append, List.nil_append] at h
    cases h with
    | cons _ x bl _ xs bl' h1 h2 =>
      have := rep_ints ns h2
      rw [this, h1.int_inv]; rfl
theorem ints_rep {w : World} {μ : Nat → Option Loc} : ∀ ns : List Int, RepL w μ ((ns.map (V.int .i64)).flatMap V.cells) (ns.map (Value.int .i64)) []
  | [] => .nil
  | n :: ns => by
    simp only [List.map_cons, List.flatMap_cons, V.cells, List.cons_append, List.nil_append]
    exact .cons _ _ [] _ _ [] (.int _ _) (ints_rep ns)

def sortL (zs : List Int) : List Int := zs.mergeSort fun x y => decide (x ≤ y)
theorem sortL_len (zs : List Int) : (sortL zs).length = zs.length := List.length_mergeSort ..

theorem con_sort {P : Program} {f : FuncId} (zs : List Int) (hf : ∃ fn, P.funcs[f]? = some fn ∧ (fn.name == "runtime.NumGoroutine") = false ∧ fn.body.isNone = false) (hne : zs ≠ [])
    (h : ∀ (blk off cap : Nat) (w : World), Sort.Holds (Value.int .i64) w blk off zs.toArray → blk < w.heap.size → Calls P f #[.slice (some ⟨blk, off, none⟩) zs.length cap] w fun e w' =>
      e = .returned (.tuple #[]) ∧ ∃ n os, w' = Sort.grow (Sort.putRow (Value.int .i64) (Sort.ahead w n) blk off (sortL zs).toArray) os) :
    Con P f [.ref 0] [.arr (zs.map (V.int .i64)) .flat] (.tup []) [.arr ((sortL zs).map (V.int .i64)) .flat] := by
  refine ⟨hf, fun w vals μ ow vis hi => ?_⟩
  obtain ⟨l, hl, hn, h3⟩ := hi.blk 0 _ rfl
  rcases h3 with ⟨_, h3⟩ | ⟨hreal, hroot, bl, ⟨c1, c2, c3, c, t, vs, c4, c5, c6, c7, c8⟩, hk, hne'⟩
  · exact absurd (by simpa using h3) hne
  have hbl : bl = [] := hk
  subst hbl
  have hvs := rep_ints zs c6
  subst hvs
  have hsz : l.sz = 1 := by
    obtain ⟨z, hz⟩ := List.exists_mem_of_ne_nil _ hne
    have := c3 (.int .i64 z) (List.mem_map.2 ⟨z, hz, rfl⟩)
    exact this.symm
  have hn' : l.n = zs.length := by simpa using hn
  have h0 : vals.getD 0 undef = .slice (some ⟨l.b, l.off, none⟩) zs.length l.cap := by
    obtain ⟨b0, r0, _⟩ := hi.arg 0 _ rfl
    generalize vals.getD 0 undef = x at r0 ⊢
    cases r0 with
    | ref _ l2 _ hm hd =>
      rw [hl] at hm
      cases hm
      rw [← hn']
      cases hd with
      | real _ => rfl
      | nil a hr _ => rw [hreal] at hr; cases hr
  have hv : vals = #[.slice (some ⟨l.b, l.off, none⟩) zs.length l.cap] := by
    have hs : vals.size = 1 := hi.sz
    apply Array.ext
    · simpa using hs
    · intro i hi1 hi2
      have : i = 0 := by simp at hi2; exact hi2
      subst this
      have e : vals.getD 0 undef = vals[0] := by simp [Array.getD, hi1]
      rw [← e, h0]; rfl
  subst hv
  have hlt : l.b < w.heap.size := by
    rcases Nat.lt_or_ge l.b w.heap.size with q | q
    · exact q
    · rw [Array.getElem?_eq_none q] at c4; cases c4
  have hH : Sort.Holds (Value.int .i64) w l.b l.off zs.toArray := by
    intro j hj
    have hj' : j < zs.length := by simpa using hj
    refine ⟨?_, by simp [World.frozen?, c4]⟩
    rw [cell_of_row w l.b _ c t _ c4, c8 j (.int .i64 zs[j]) (by simp [hj'])]
    congr 2
    simp [hj']
  refine (h l.b l.off l.cap w hH hlt).mono ?_
  rintro e w' ⟨rfl, n, os, rfl⟩
  let enc : Int → Value := Value.int .i64
  let d := (sortL zs).toArray
  have hother : ∀ b, b < w.heap.size → b ≠ l.b → (Sort.grow (Sort.putRow enc (Sort.ahead w n) l.b l.off d) os).heap[b]? = w.heap[b]? := by
    intro b hb hne
    rw [Sort.heap_grow_old _ _ (by simpa using hb)]
    simp [Sort.putRow, Sort.mapBlock, Array.getElem?_modify, Ne.symm hne]
  have hself : (Sort.grow (Sort.putRow enc (Sort.ahead w n) l.b l.off d) os).heap[l.b]? = some (.cells (Sort.putCells enc l.off d c) t (0, 0)) := by
    rw [Sort.heap_grow_old _ _ (by simpa using hlt)]
    simp [Sort.putRow, Sort.mapBlock, Array.getElem?_modify, c4, Sort.onCells]
  have hrow : RowOK ⟨w, fun b => ow b ≠ none, vis, μ⟩ (Sort.grow (Sort.putRow enc (Sort.ahead w n) l.b l.off d) os) μ ow false 0 ((sortL zs).map (V.int .i64)) .flat := by
    refine ⟨l, hl, by rw [List.length_map, sortL_len]; exact hn', .inr ⟨hreal, hroot, [], ⟨c1, c2, ?_, Sort.putCells enc l.off d c, t, (sortL zs).map (Value.int .i64), hself, ?_, ints_rep _, ?_, ?_⟩, rfl, fun _ e => by
      have := congrArg List.length e
      rw [List.length_map, sortL_len] at this
      exact hne (List.length_eq_zero_iff.1 this)⟩⟩
    · intro x hx
      obtain ⟨z, _, rfl⟩ := List.mem_map.1 hx
      rw [hsz]; rfl
    · simpa [Sort.putCells] using c5
    · intro v hv
      obtain ⟨z, _, rfl⟩ := List.mem_map.1 hv
      rfl
    · intro j x hj
      have hjl : j < (sortL zs).length := by
        rcases Nat.lt_or_ge j (sortL zs).length with q | q
        · exact q
        · rw [List.getElem?_eq_none (by simpa using q)] at hj; cases hj
      have hx : x = .int .i64 (sortL zs)[j] := by simpa [hjl, eq_comm] using hj
      have hjz : j < zs.length := by rw [← sortL_len]; exact hjl
      have hc := c8 j (.int .i64 zs[j]) (by simp [hjz])
      rw [Sort.putCells, Array.getElem?_mapIdx, hc, Option.map_some, if_pos ⟨by omega, by simpa [d] using hjl⟩, hx]
      have : l.off + j - l.off = j := by omega
      rw [this]
      simp [enc, d, hjl]
  refine ⟨_, μ, ow, rfl, ⟨⟨[], .tup [] [] [] .nil, by simp⟩, fun id bk e => ?_, ?_, MLe.refl _, Nat.le_refl _, fun id hid => hi.dom id hid, fun b hb => ?_, fun b hb => .inl hb, ⟨?_, fun b hb hno => ?_, rfl, rfl, rfl, fun x hx => ?_⟩⟩⟩
  · cases id with
    | zero =>
      simp only [List.getElem?_cons_zero, Option.some.injEq] at e
      subst e
      exact hrow
    | succ id => simp at e
  · intro bk hb
    rw [List.mem_singleton] at hb
    subst hb
    rfl
  · by_cases q : b = l.b
    · subst q; exact ⟨_, _, hself⟩
    · exact (hi.owl b hb).keep (hother b (hi.owl b hb).lt q)
  · show w.heap.size ≤ _
    simp
  · refine hother b hb fun q => hno ?_
    show ow b ≠ none
    rw [q, hroot]; simp
  · have hx' : x.block < w.heap.size := hx
    rw [Sort.frozen?_grow _ _ _ (by simpa using hx'), Sort.frozen?_putRow, Sort.frozen?_ahead]

end Go.Vm
