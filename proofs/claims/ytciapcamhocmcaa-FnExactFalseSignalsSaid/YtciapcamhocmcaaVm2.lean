/- The value machine, part 2: states, what a state stands for, and how it goes on when an operation yields a value and new blocks. -/
import Derived.Test.YtciapcamhocmcaaVm1
set_option linter.unusedSimpArgs false
set_option linter.unusedVariables false
namespace Go.Vm
open Go

inductive Kd where
  | flat | deep | shal | mix | thin
  deriving DecidableEq, Inhabited

/-- An owned block: gone; a row of elements; a variable. The kind says what the slices inside are: there are none; they are the block's own; they are only read; ('mix') besides, owned blocks are named inside. -/
inductive Blk where
  | dead
  | arr (xs : List V) (k : Kd)
  | box (x : V) (k : Kd)
  deriving Inhabited

def Kd.mu (k : Kd) (μ : Nat → Option Loc) : Nat → Option Loc := match k with | .mix => μ | _ => M0

structure St where
  env : List (Nat × V)
  O : List Blk
  vw : Bool
  n : Nat
  mask : Nat

def look (t : Nat) : List (Nat × V) → V
  | [] => .any
  | (k, v) :: l => bif Nat.beq t k then v else look t l

def St.get (s : St) (t : Nat) : V := look t s.env

/-- What surrounds a call: the world in which it began, which blocks it was lent, which it may read. -/
structure Cx where
  w0 : World
  own0 : Nat → Prop
  vis : Nat → Prop
  mu0 : Nat → Option Loc := M0

abbrev Ow := Nat → Option (Bool × Nat)

def VOK (cx : Cx) (ow : Ow) (vw : Bool) (b : Nat) : Prop :=
  (ow b = none ∨ (vw = true ∧ ∃ id, ow b = some (false, id))) ∧ (cx.vis b ∨ cx.own0 b ∨ cx.w0.heap.size ≤ b)

def KdOK (cx : Cx) (ow : Ow) (vw : Bool) (id : Nat) (bl : List Nat) : Kd → Prop
  | .flat | .thin => bl = []
  | .deep => bl.Nodup ∧ ∀ b ∈ bl, ow b = some (false, id)
  | .shal | .mix => ∀ b ∈ bl, VOK cx ow vw b

structure Cells (w : World) (μ : Nat → Option Loc) (l : Loc) (xs : List V) (bl : List Nat) : Prop where
  le : l.n ≤ l.cap
  sz : 0 < l.sz
  each : ∀ x ∈ xs, x.cells.length = l.sz
  row : ∃ c t vs, w.heap[l.b]? = some (.cells c t (0, 0)) ∧ l.off + l.cap * l.sz ≤ c.size ∧ RepL w μ (xs.flatMap V.cells) vs bl ∧
    (∀ v ∈ vs, v.oneCell' = true) ∧ ∀ j x, vs[j]? = some x → c[l.off + j]? = some x

def RowOK (cx : Cx) (w : World) (μ : Nat → Option Loc) (ow : Ow) (vw : Bool) (id : Nat) (xs : List V) (k : Kd) : Prop :=
  ∃ l, μ id = some l ∧ l.n = xs.length ∧
    ((l.real = false ∧ xs = []) ∨ (l.real = true ∧ ow l.b = some (true, id) ∧ ∃ bl, Cells w (k.mu μ) l xs bl ∧ KdOK cx ow vw id bl k ∧ (k ≠ .thin → xs ≠ [])))

def BlkOK (cx : Cx) (w : World) (μ : Nat → Option Loc) (ow : Ow) (vw : Bool) (id : Nat) : Blk → Prop
  | .dead => True
  | .arr xs k => RowOK cx w μ ow vw id xs k
  | .box x k => RowOK cx w μ ow vw id [x] k

structure Frame (cx : Cx) (w : World) : Prop where
  size : cx.w0.heap.size ≤ w.heap.size
  old : ∀ b, b < cx.w0.heap.size → ¬ cx.own0 b → w.heap[b]? = cx.w0.heap[b]?
  os : w.os = cx.w0.os
  tape : w.tape = cx.w0.tape
  output : w.output = cx.w0.output
  ice : ∀ x, x.block < cx.w0.heap.size → w.frozen? x = cx.w0.frozen? x

structure Rel (cx : Cx) (s : St) (a : Act) (w : World) (μ : Nat → Option Loc) (ow : Ow) : Prop where
  dfr : a.defers = []
  sz : a.tmps.size = s.n
  env : ∀ t, ∃ bl, Rep w μ (s.get t) (a.tmps.getD t undef) bl ∧ ∀ b ∈ bl, VOK cx ow s.vw b
  blk : ∀ id bk, s.O[id]? = some bk → BlkOK cx w μ ow s.vw id bk
  dom : ∀ id, s.O.length ≤ id → μ id = none
  owl : ∀ b, ow b ≠ none → Live w b
  own : ∀ b, ow b ≠ none → cx.own0 b ∨ cx.w0.heap.size ≤ b
  frm : Frame cx w
  mu : MLe cx.mu0 μ

theorem VOK.mono {cx : Cx} {ow ow' : Ow} {vw vw' : Bool} {b : Nat} (h : VOK cx ow vw b) (ho : ow' b = ow b) (hv : vw = true → vw' = true) : VOK cx ow' vw' b := by
  refine ⟨?_, h.2⟩
  rw [ho]
  exact h.1.imp id fun ⟨e, k⟩ => ⟨hv e, k⟩

theorem VOK.not_root {cx : Cx} {ow : Ow} {vw : Bool} {b id : Nat} (h : VOK cx ow vw b) (hr : ow b = some (true, id)) : False := by
  rcases h.1 with e | ⟨_, i, e⟩ <;> simp [hr] at e

/-- The memory of one owned block does not turn. -/
theorem Cells.keep {w w' : World} {μ μ' : Nat → Option Loc} {l : Loc} {xs : List V} {bl : List Nat} (h : Cells w μ l xs bl) (hm : MLe μ μ')
    (hb : w'.heap[l.b]? = w.heap[l.b]?) (hbl : ∀ b ∈ bl, w'.heap[b]? = w.heap[b]?) : Cells w' μ' l xs bl := by
  obtain ⟨h1, h2, h3, c, t, vs, h4, h5, h6, h7, h8⟩ := h
  exact ⟨h1, h2, h3, c, t, vs, hb.trans h4, h5, h6.keep hm hbl, h7, h8⟩

theorem Cells.lt {w : World} {μ : Nat → Option Loc} {l : Loc} {xs : List V} {bl : List Nat} (h : Cells w μ l xs bl) : l.b < w.heap.size := by
  obtain ⟨_, _, _, c, t, vs, h4, _⟩ := h
  rcases Nat.lt_or_ge l.b w.heap.size with e | e
  · exact e
  · simp [Array.getElem?_eq_none e] at h4

theorem KdOK.mono {cx : Cx} {ow ow' : Ow} {vw vw' : Bool} {id : Nat} {bl : List Nat} {k : Kd} (h : KdOK cx ow vw id bl k)
    (ho : ∀ b ∈ bl, ow' b = ow b) (hv : vw = true → vw' = true) : KdOK cx ow' vw' id bl k := by
  cases k with
  | flat => exact h
  | thin => exact h
  | deep => exact ⟨h.1, fun b hb => (ho b hb).trans (h.2 b hb)⟩
  | shal => exact fun b hb => (h b hb).mono (ho b hb) hv
  | mix => exact fun b hb => (h b hb).mono (ho b hb) hv

theorem Kd.mu_mono {k : Kd} {μ μ' : Nat → Option Loc} (h : MLe μ μ') : MLe (k.mu μ) (k.mu μ') := by
  cases k <;> first | exact h | exact MLe.refl _
theorem Kd.mu_le (k : Kd) (μ : Nat → Option Loc) : MLe (k.mu μ) μ := by
  cases k <;> first | exact MLe.refl _ | exact MLe.zero _

/-- The blocks that an owned block leans on: itself and those inside. -/
theorem RowOK.keep {cx : Cx} {w w' : World} {μ μ' : Nat → Option Loc} {ow ow' : Ow} {vw vw' : Bool} {id : Nat} {xs : List V} {k : Kd}
    (h : RowOK cx w μ ow vw id xs k) (hm : MLe μ μ') (hv : vw = true → vw' = true)
    (hb : ∀ b, b < w.heap.size → (ow b = some (true, id) ∨ ow b = some (false, id) ∨ VOK cx ow vw b) → w'.heap[b]? = w.heap[b]? ∧ ow' b = ow b) : RowOK cx w' μ' ow' vw' id xs k := by
  obtain ⟨l, h1, h2, h3⟩ := h
  refine ⟨l, hm _ _ h1, h2, ?_⟩
  rcases h3 with h3 | ⟨h3, h4, bl, h5, h6, h7⟩
  · exact .inl h3
  · have hl := hb l.b h5.lt (.inl h4)
    have hin : ∀ b ∈ bl, w'.heap[b]? = w.heap[b]? ∧ ow' b = ow b := by
      intro b hbb
      have hlt : b < w.heap.size := by
        obtain ⟨_, _, _, c, t, vs, _, _, hr, _⟩ := h5
        exact hr.lt b hbb
      cases k with
      | flat => have e : bl = [] := h6; subst e; simp at hbb
      | thin => have e : bl = [] := h6; subst e; simp at hbb
      | deep => exact hb b hlt (.inr (.inl (h6.2 b hbb)))
      | shal => exact hb b hlt (.inr (.inr (h6 b hbb)))
      | mix => exact hb b hlt (.inr (.inr (h6 b hbb)))
    exact .inr ⟨h3, hl.2.trans h4, bl, h5.keep (Kd.mu_mono hm) hl.1 fun b hbb => (hin b hbb).1, h6.mono (fun b hbb => (hin b hbb).2) hv, h7⟩

theorem BlkOK.keep {cx : Cx} {w w' : World} {μ μ' : Nat → Option Loc} {ow ow' : Ow} {vw vw' : Bool} {id : Nat} {bk : Blk}
    (h : BlkOK cx w μ ow vw id bk) (hm : MLe μ μ') (hv : vw = true → vw' = true)
    (hb : ∀ b, b < w.heap.size → (ow b = some (true, id) ∨ ow b = some (false, id) ∨ VOK cx ow vw b) → w'.heap[b]? = w.heap[b]? ∧ ow' b = ow b) : BlkOK cx w' μ' ow' vw' id bk := by
  cases bk with
  | dead => trivial
  | arr xs k => exact RowOK.keep h hm hv hb
  | box x k => exact RowOK.keep h hm hv hb

/-- A step of the world that turns nothing that is there. -/
structure Ext (w w' : World) : Prop where
  size : w.heap.size ≤ w'.heap.size
  old : ∀ b, b < w.heap.size → w'.heap[b]? = w.heap[b]?
  os : w'.os = w.os
  tape : w'.tape = w.tape
  output : w'.output = w.output
  ice : ∀ x, x.block < w.heap.size → w'.frozen? x = w.frozen? x

theorem Ext.refl (w : World) : Ext w w := ⟨Nat.le_refl _, fun _ _ => rfl, rfl, rfl, rfl, fun _ _ => rfl⟩
theorem Ext.trans {a b c : World} (h : Ext a b) (k : Ext b c) : Ext a c :=
  ⟨Nat.le_trans h.size k.size, fun i hi => (k.old i (Nat.lt_of_lt_of_le hi h.size)).trans (h.old i hi), k.os.trans h.os, k.tape.trans h.tape, k.output.trans h.output, fun x hx => (k.ice x (Nat.lt_of_lt_of_le hx h.size)).trans (h.ice x hx)⟩
theorem Ext.alloc (w : World) (c : Array Value) (t : TypeId) : Ext w (w.alloc (.cells c t)) :=
  ⟨by show w.heap.size ≤ (w.heap.push _).size; simp, fun b hb => by show (w.heap.push _)[b]? = _; rw [Array.getElem?_push, if_neg (by omega)], rfl, rfl, rfl, fun x _ => by
    by_cases h : x.block = w.heap.size
    · have e1 : (w.heap.push (.cells c t))[x.block]? = some (.cells c t) := by rw [h]; simp
      have e2 : w.heap[x.block]? = none := by rw [h]; simp
      show World.frozen? { w with heap := w.heap.push _ } x = _
      simp [World.frozen?, e1, e2]
    · have e1 : (w.heap.push (.cells c t))[x.block]? = w.heap[x.block]? := by rw [Array.getElem?_push, if_neg h]
      show World.frozen? { w with heap := w.heap.push _ } x = _
      simp [World.frozen?, e1]⟩
theorem Ext.drew (w : World) : Ext w w.drew := ⟨Nat.le_refl _, fun _ _ => rfl, rfl, rfl, rfl, fun _ _ => rfl⟩

theorem Frame.ext {cx : Cx} {w w' : World} (h : Frame cx w) (k : Ext w w') : Frame cx w' :=
  ⟨Nat.le_trans h.size k.size, fun b hb hn => (k.old b (Nat.lt_of_lt_of_le hb h.size)).trans (h.old b hb hn), k.os.trans h.os, k.tape.trans h.tape, k.output.trans h.output, fun x hx => (k.ice x (Nat.lt_of_lt_of_le hx h.size)).trans (h.ice x hx)⟩

def St.put (s : St) (d : Option Nat) (v : V) (new : List Blk) (vw : Bool) : St :=
  { s with env := match d with | some t => (t, v) :: s.env | none => s.env, O := s.O ++ new, vw := vw }

/-- WHAT A QUIET OPERATION GIVES: a value and new blocks; nothing that was there has turned. 'nid': the number of the first new block. -/
structure Gives (cx : Cx) (s : St) (nid : Nat) (w : World) (μ : Nat → Option Loc) (ow : Ow) (v : Value) (w' : World) (val : V) (new : List Blk) (vw' : Bool) : Prop where
  ext : Ext w w'
  vw : s.vw = true → vw' = true
  rest : ∃ (locs : List Loc) (ow' : Ow), locs.length = new.length ∧ (∀ b, ow b ≠ none → ow' b = ow b) ∧ (∀ b, b < w.heap.size → ow' b = ow b) ∧ (∀ b, ow' b ≠ none → Live w' b) ∧
    ∀ μ', MLe μ μ' → (∀ j l, locs[j]? = some l → μ' (nid + j) = some l) →
      (∃ bl, Rep w' μ' val v bl ∧ ∀ b ∈ bl, VOK cx ow' vw' b) ∧ ∀ j bk, new[j]? = some bk → BlkOK cx w' μ' ow' vw' (nid + j) bk

theorem getD_setIfInBounds (a : Array Value) (d t : Nat) (v : Value) (h : d < a.size) : (a.setIfInBounds d v).getD t undef = if t = d then v else a.getD t undef := by
  by_cases e : t = d
  · subst e
    simp [h]
  · simp [e, Ne.symm e]

theorem St.get_put (s : St) (d : Option Nat) (v : V) (new : List Blk) (vw : Bool) (t : Nat) : (s.put d v new vw).get t = if d = some t then v else s.get t := by
  cases d with
  | none => simp [St.get, St.put]
  | some d =>
    by_cases e : t = d
    · subst e
      simp [St.get, St.put, look]
    · have : Nat.beq t d = false := by
        cases h : Nat.beq t d with
        | false => rfl
        | true => exact absurd (Nat.eq_of_beq_eq_true h) e
      have e' : ¬ d = t := fun h => e h.symm
      simp [St.get, St.put, look, this, e']

/-- The state goes on. -/
theorem Rel.put {cx : Cx} {s : St} {a : Act} {w w' : World} {μ : Nat → Option Loc} {ow : Ow} {v : Value} {val : V} {new : List Blk} {vw' : Bool} {d : Option Nat}
    (h : Rel cx s a w μ ow) (hd : ∀ t, d = some t → t < s.n) (g : Gives cx s s.O.length w μ ow v w' val new vw') :
    ∃ μ' ow', Rel cx (s.put d val new vw') (a.put d v) w' μ' ow' := by
  obtain ⟨gext, gvw, locs, ow', hlen, hkeep, hold, hlt, hall⟩ := g
  let μ' : Nat → Option Loc := fun id => if s.O.length ≤ id then locs[id - s.O.length]? else μ id
  have hm : MLe μ μ' := by
    intro id l e
    have : ¬ s.O.length ≤ id := fun hle => by rw [h.dom id hle] at e; cases e
    simp [μ', this, e]
  obtain ⟨⟨bl, hrep, hbl⟩, hnew⟩ := hall μ' hm (by intro j l e; simp [μ', e])
  refine ⟨μ', ow', ?_, ?_, ?_, ?_, ?_, ?_, ?_, h.frm.ext gext, h.mu.trans hm⟩
  · cases d <;> exact h.dfr
  · cases d <;> simp [Act.put, St.put, h.sz]
  · intro t
    rw [St.get_put]
    have hslot : ∀ t, d ≠ some t → (a.put d v).tmps.getD t undef = a.tmps.getD t undef := by
      intro t ht
      cases d with
      | none => rfl
      | some e =>
        have ne : ¬ t = e := fun x => ht (by rw [x])
        have ne' : ¬ e = t := fun x => ne x.symm
        simp [Act.put, ne']
    by_cases e : d = some t
    · subst e
      have hlt' : t < a.tmps.size := by rw [h.sz]; exact hd t rfl
      rw [if_pos rfl]
      refine ⟨bl, ?_, hbl⟩
      have : (a.put (some t) v).tmps.getD t undef = v := by
        show (a.tmps.setIfInBounds t v).getD t undef = v
        rw [getD_setIfInBounds _ _ _ _ hlt', if_pos rfl]
      rw [this]; exact hrep
    · rw [if_neg e, hslot t e]
      obtain ⟨bl', h1, h2⟩ := h.env t
      exact ⟨bl', h1.keep hm fun b hb => gext.old b (h1.lt b hb), fun b hb => (h2 b hb).mono (hold b (h1.lt b hb)) gvw⟩
  · intro id bk e
    by_cases hid : id < s.O.length
    · have e' : s.O[id]? = some bk := by simpa [St.put, List.getElem?_append_left hid] using e
      exact (h.blk id bk e').keep hm gvw fun b hb _ => ⟨gext.old b hb, hold b hb⟩
    · have hge : s.O.length ≤ id := Nat.le_of_not_lt hid
      have e' : new[id - s.O.length]? = some bk := by simpa [St.put, List.getElem?_append_right hge] using e
      have := hnew (id - s.O.length) bk e'
      rwa [Nat.add_sub_cancel' hge] at this
  · intro id hid
    have : s.O.length + new.length ≤ id := by simpa [St.put] using hid
    have h1 : s.O.length ≤ id := by omega
    simp only [μ', h1, if_true]
    exact List.getElem?_eq_none (by omega)
  · exact hlt
  · intro b hb
    by_cases hlt2 : b < w.heap.size
    · rw [hold b hlt2] at hb; exact h.own b hb
    · exact .inr (Nat.le_trans h.frm.size (Nat.le_of_not_lt hlt2))

end Go.Vm
