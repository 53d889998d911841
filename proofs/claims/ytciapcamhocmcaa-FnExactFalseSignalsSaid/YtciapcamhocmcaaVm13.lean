/- The value machine, part 13: appends. -/
import Derived.Test.YtciapcamhocmcaaVm12
set_option linter.unusedSimpArgs false
set_option linter.unusedVariables false
namespace Go.Vm
open Go

def takeElems (s : St) : List V → Option (List V × List Nat × Bool)
  | [] => some ([], [], false)
  | x :: xs => match takeV s x, takeElems s xs with
    | some (x', l, b), some (xs', l', b') => some (x' :: xs', l ++ l', b || b')
    | _, _ => none

/-- What is appended: its elements, which blocks move, whether slices that are only read stand in it. -/
def srcOf (s : St) : V → Option (List V × List Nat × Bool)
  | .nsl => some ([], [], false)
  | .sl xs => some (xs, [], !xs.all V.noSl)
  | .ref id => match s.row id with
    | some (xs, .flat) => some (xs, [], false)
    | some (xs, .deep) => some (xs, [id], false)
    | some (xs, .thin) => some (xs, [], false)
    | some (xs, .shal) => some (xs, [], true)
    | some (xs, .mix) => takeElems s xs
    | none => none
  | .sub id lo n => match s.row id with
    | some (xs, .flat) => some ((xs.drop lo).take n, [], false)
    | some (xs, .thin) => some ((xs.drop lo).take n, [], false)
    | some (xs, .shal) => some ((xs.drop lo).take n, [], true)
    | _ => none
  | _ => none

/-- What is appended to: the elements before, the kind, the block, the whole row. -/
def destOf (s : St) : V → Option (List V × Kd × Option Nat × List V)
  | .nsl => some ([], .flat, none, [])
  | .ref id => match s.row id with
    | some (xs, k) => some (xs, k, some id, xs)
    | none => none
  | .sub id lo n => match s.row id with
    | some (xs, k) => some ((xs.drop lo).take n, k, some id, xs)
    | none => none
  | _ => none

def V.isSub : V → Bool
  | .sub _ _ _ => true
  | _ => false

def aAppend (P : Program) (s : St) (t : TypeId) (K : V → St → Prop) (d x : V) : Prop :=
  match P.underlying t, destOf s d, srcOf s x with
  | some (.slice e), some (xs, k, did, xs0), some (ys, ids, vi) =>
    (0 < P.cellsOf e ∧ (Program.zeroOf P e).map (fun z => z.cells.size) = some (P.cellsOf e) ∧ (∀ y ∈ xs0, y.cells.length = P.cellsOf e) ∧ (∀ y ∈ ys, y.cells.length = P.cellsOf e) ∧ ids.Nodup ∧
      (∀ i, did = some i → i ∉ ids) ∧ (∀ j ∈ ids, j < s.O.length) ∧ (d.isSub = true → ys ≠ []) ∧ k ≠ .thin ∧ xs.length + ys.length ≤ 9223372036854775807 ∧ (xs.length + ys.length) * P.bytesOf e ≤ 140737488355328) ∧
    match kdJoin k (!ids.isEmpty) vi with
    | some k' => K (.ref s.O.length) { s with O := killAll s.O (did.toList ++ ids) ++ [.arr (xs ++ ys) k'] }
    | none => False
  | _, _, _ => False

section
variable {P : Program} {cx : Cx} {s : St} {a : Act} {w : World} {μ : Nat → Option Loc} {ow : Ow} {o : Oper}

/-- Cells in memory that may be put into a row. -/
structure Src (cx : Cx) (s : St) (w : World) (ow : Ow) (x : Value) (ys : List V) (ids : List Nat) (vi : Bool) (news : List Value) (bl : List Nat) : Prop where
  val : ∃ q c, x = .slice q ys.length c ∧ (ys = [] ∨ ∃ b off, q = some ⟨b, off, none⟩ ∧ Row w b off news)
  rep : RepL w M0 (ys.flatMap V.cells) news bl
  one : ∀ v ∈ news, v.oneCell' = true
  no : vi = false → ids = [] → bl = []
  view : ids = [] → ∀ b ∈ bl, VOK cx ow s.vw b
  own : vi = false → bl.Nodup ∧ ∀ b ∈ bl, ∃ j ∈ ids, ∃ r, ow b = some (r, j)

theorem Row.part {b off : Nat} {vs : List Value} (h : Row w b off vs) (o n : Nat) : Row w b (off + o) ((vs.drop o).take n) := by
  intro j x hj
  have hjl : j < n := by
    rcases Nat.lt_or_ge j n with q | q
    · exact q
    · rw [List.getElem?_eq_none (by rw [List.length_take]; omega)] at hj; cases hj
  rw [List.getElem?_take_of_lt hjl, List.getElem?_drop] at hj
  rw [Nat.add_assoc]
  exact h _ x hj

theorem takeElems_rep (h : Sup cx s a w μ ow) : ∀ {xs xs' : List V} {vs : List Value} {bl : List Nat} {ids : List Nat} {vi : Bool}, RepL w μ (xs.flatMap V.cells) vs bl → (∀ b ∈ bl, VOK cx ow s.vw b) → takeElems s xs = some (xs', ids, vi) → ids.Nodup →
    ∃ bl', xs'.length = xs.length ∧ RepL w M0 (xs'.flatMap V.cells) vs bl' ∧ ((vi = false → ids = [] → bl' = []) ∧ (ids = [] → ∀ b ∈ bl', VOK cx ow s.vw b)) ∧ (vi = false → bl'.Nodup ∧ ∀ b ∈ bl', ∃ id ∈ ids, ∃ r, ow b = some (r, id))
  | [], xs', vs, bl, ids, vi, hr, _, ht, _ => by
    simp only [List.flatMap_nil] at hr
    cases hr
    simp [takeElems] at ht
    obtain ⟨rfl, rfl, rfl⟩ := ht
    exact ⟨[], rfl, .nil, by simp, by simp⟩
  | x :: xs, xs', vs, bl, ids, vi, hr, hb, ht, hnd => by
    rw [List.flatMap_cons] at hr
    obtain ⟨v1, v2, b1, b2, rfl, rfl, r1, r2⟩ := RepL.split _ _ hr
    unfold takeElems at ht
    cases q1 : takeV s x with
    | none => rw [q1] at ht; cases ht
    | some t1 =>
      obtain ⟨x', l1, w1⟩ := t1
      cases q2 : takeElems s xs with
      | none => rw [q1, q2] at ht; cases ht
      | some t2 =>
        obtain ⟨xs2, l2, w2⟩ := t2
        rw [q1, q2] at ht
        simp only [Option.some.injEq, Prod.mk.injEq] at ht
        obtain ⟨rfl, rfl, rfl⟩ := ht
        have hn := List.nodup_append.1 hnd
        obtain ⟨d2, g0, g1, g3, g4⟩ := takeElems_rep h r2 (fun b hbb => hb b (List.mem_append_right _ hbb)) q2 hn.2.1
        -- the first element: its cells, as a list
        have first : ∃ d1, RepL w M0 x'.cells v1 d1 ∧ ((w1 = false → l1 = [] → d1 = []) ∧ (l1 = [] → ∀ b ∈ d1, VOK cx ow s.vw b)) ∧ (w1 = false → d1.Nodup ∧ ∀ b ∈ d1, ∃ id ∈ l1, ∃ r, ow b = some (r, id)) := by
          have one : takeCell s x = some (x', l1, w1) → x.cells = [x] → ∃ d1, RepL w M0 x'.cells v1 d1 ∧ ((w1 = false → l1 = [] → d1 = []) ∧ (l1 = [] → ∀ b ∈ d1, VOK cx ow s.vw b)) ∧ (w1 = false → d1.Nodup ∧ ∀ b ∈ d1, ∃ id ∈ l1, ∃ r, ow b = some (r, id)) := by
            intro q e
            rw [e] at r1
            cases r1 with
            | cons _ y c1 _ ys c2 hc ht' =>
              cases ht'
              obtain ⟨d1, k1, k2, k3, k4, _⟩ := takeCell_rep h hc (fun b hbb => hb b (by simp [hbb])) q
              have e' : x'.cells = [x'] := by
                cases x <;> simp [takeCell] at q <;> try (obtain ⟨rfl, rfl, rfl⟩ := q; rfl)
                split at q
                · rename_i xs0 k0 _
                  cases hk : (k0 == Kd.flat || k0 == Kd.deep || k0 == Kd.thin) with
                  | false => rw [hk] at q; cases q
                  | true => rw [hk, cond_true] at q; simp at q; obtain ⟨rfl, _, _⟩ := q; rfl
                · cases q
              rw [e']
              exact ⟨d1, by simpa using RepL.cons _ _ _ _ _ _ k1 .nil, k3, k4⟩
          cases x with
          | agg cs =>
            simp only [takeV] at q1
            cases q : takeCells s cs with
            | none => rw [q] at q1; cases q1
            | some r =>
              obtain ⟨cs', l, b⟩ := r
              rw [q] at q1
              simp only [Option.some.injEq, Prod.mk.injEq] at q1
              obtain ⟨rfl, rfl, rfl⟩ := q1
              obtain ⟨d1, k1, k2, k3⟩ := takeCells_rep h r1 (fun b hbb => hb b (List.mem_append_left _ hbb)) q hn.1
              exact ⟨d1, k1, k2, k3⟩
          | _ => exact one q1 rfl
        obtain ⟨d1, e1, e3, e4⟩ := first
        refine ⟨d1 ++ d2, by simp [g0], by rw [List.flatMap_cons]; exact e1.append g1, ⟨fun hv hi => ?_, fun hi b hbb => ?_⟩, fun hv => ?_⟩
        · simp only [Bool.or_eq_false_iff] at hv
          simp only [List.append_eq_nil_iff] at hi
          rw [e3.1 hv.1 hi.1, g3.1 hv.2 hi.2]; rfl
        · simp only [List.append_eq_nil_iff] at hi
          exact (List.mem_append.1 hbb).elim (e3.2 hi.1 b) (g3.2 hi.2 b)
        · simp only [Bool.or_eq_false_iff] at hv
          obtain ⟨m1, m2⟩ := e4 hv.1
          obtain ⟨m3, m4⟩ := g4 hv.2
          refine ⟨List.nodup_append.2 ⟨m1, m3, fun x hx y hy e => ?_⟩, fun b hbb => ?_⟩
          · subst e
            obtain ⟨i1, j1, r1, k1⟩ := m2 x hx
            obtain ⟨i2, j2, r2, k2⟩ := m4 x hy
            rw [k1] at k2
            simp only [Option.some.injEq, Prod.mk.injEq] at k2
            exact hn.2.2 i1 j1 i2 j2 k2.2
          · rcases List.mem_append.1 hbb with q | q
            · obtain ⟨i1, j1, r1, k1⟩ := m2 b q; exact ⟨i1, List.mem_append_left _ j1, r1, k1⟩
            · obtain ⟨i1, j1, r1, k1⟩ := m4 b q; exact ⟨i1, List.mem_append_right _ j1, r1, k1⟩

theorem src_rep (h : Sup cx s a w μ ow) {v : V} {x : Value} {bl0 : List Nat} {ys : List V} {ids : List Nat} {vi : Bool} (hr : Rep w μ v x bl0) (hb : ∀ b ∈ bl0, VOK cx ow s.vw b) (ht : srcOf s v = some (ys, ids, vi)) (hnd : ids.Nodup) :
    ∃ news bl, Src cx s w ow x ys ids vi news bl := by
  cases v <;> simp only [srcOf] at ht <;> try (cases ht; done)
  case nsl =>
    simp at ht; obtain ⟨rfl, rfl, rfl⟩ := ht
    cases hr with
    | nsl q => exact ⟨[], [], ⟨⟨q, 0, rfl, .inl rfl⟩, .nil, by simp, by simp, by simp, by simp⟩⟩
  case sl xs =>
    simp only [Option.some.injEq, Prod.mk.injEq] at ht
    obtain ⟨rfl, rfl, rfl⟩ := ht
    cases hr with
    | sl0 q c => exact ⟨[], [], ⟨⟨q, c, rfl, .inl rfl⟩, .nil, by simp, by simp, by simp, by simp⟩⟩
    | sl _ b off c sz vs bl hne hcap hs hz hl hone hr' =>
      have hnil : (!xs.all V.noSl) = false → bl = [] := fun q => noSl_all hl (by simpa using q)
      exact ⟨vs, bl, ⟨⟨_, c, rfl, .inr ⟨b, off, rfl, hr'⟩⟩, hl, hone, fun q _ => hnil q, fun _ y hy => hb y (List.mem_cons_of_mem _ hy), fun q => by rw [hnil q]; simp⟩⟩
  case ref id =>
    cases hrow : s.row id with
    | none => rw [hrow] at ht; cases ht
    | some xk =>
      obtain ⟨xs, k⟩ := xk
      rw [hrow] at ht
      obtain ⟨l, h1, h2, h3⟩ := h.row hrow
      cases hr with
      | ref _ l' _ hl hd =>
        rw [hl] at h1
        obtain rfl := Option.some.inj h1
        rcases h3 with ⟨h3, h4⟩ | ⟨h3, h4, bl, h5, h6, h7⟩
        · subst h4
          cases hd with
          | real hreal => rw [hreal] at h3; cases h3
          | nil q _ _ =>
            have hys : ys = [] ∧ (∀ j ∈ ids, True) := by
              cases k <;> simp [takeElems] at ht <;> exact ⟨by first | exact ht.1 | exact ht.1.symm, fun _ _ => trivial⟩
            obtain ⟨rfl, _⟩ := hys
            exact ⟨[], [], ⟨⟨q, 0, rfl, .inl rfl⟩, .nil, by simp, by simp, by simp, by simp⟩⟩
        · cases hd with
          | nil _ hf' _ => rw [h3] at hf'; cases hf'
          | real _ =>
            obtain ⟨vs, c1, c2, c3⟩ := h5.rowOf
            cases k with
            | flat | thin =>
              simp at ht; obtain ⟨rfl, rfl, rfl⟩ := ht
              have h6' : bl = [] := h6
              subst h6'
              exact ⟨vs, [], ⟨⟨_, _, by rw [h2], .inr ⟨_, _, rfl, c3⟩⟩, c1, c2, by simp, by simp, by simp⟩⟩
            | deep =>
              simp at ht; obtain ⟨rfl, rfl, rfl⟩ := ht
              exact ⟨vs, bl, ⟨⟨_, _, by rw [h2], .inr ⟨_, _, rfl, c3⟩⟩, c1, c2, by simp, by simp, fun _ => ⟨h6.1, fun b hbb => ⟨id, by simp, false, h6.2 b hbb⟩⟩⟩⟩
            | shal =>
              simp at ht; obtain ⟨rfl, rfl, rfl⟩ := ht
              exact ⟨vs, bl, ⟨⟨_, _, by rw [h2], .inr ⟨_, _, rfl, c3⟩⟩, c1, c2, by simp, fun _ => h6, by simp⟩⟩
            | mix =>
              obtain ⟨bl', g0, g1, g2, g3⟩ := takeElems_rep h (w := w) (μ := μ) c1 h6 ht hnd
              exact ⟨vs, bl', ⟨⟨_, _, by rw [h2, ← g0], .inr ⟨_, _, rfl, c3⟩⟩, g1, c2, g2.1, g2.2, g3⟩⟩
  case sub id lo n =>
    cases hrow : s.row id with
    | none => rw [hrow] at ht; cases ht
    | some xk =>
      obtain ⟨xs, k⟩ := xk
      rw [hrow] at ht
      obtain ⟨l, h1, h2, h3⟩ := h.row hrow
      have part : ∀ {bl : List Nat}, Cells w M0 l xs bl → lo + n ≤ xs.length → ∃ news b', RepL w M0 (((xs.drop lo).take n).flatMap V.cells) news b' ∧ (∀ v ∈ news, v.oneCell' = true) ∧ Row w l.b (l.off + lo * l.sz) news ∧ ∀ b ∈ b', b ∈ bl := by
        intro bl h5 hle
        obtain ⟨vs, c1, c2, c3⟩ := h5.rowOf
        obtain ⟨b', p1, p2⟩ := c1.part (lo * l.sz) (n * l.sz)
        refine ⟨_, b', ?_, fun v hv => c2 v (List.mem_of_mem_drop (List.mem_of_mem_take hv)), c3.part (lo * l.sz) (n * l.sz), p2⟩
        rw [flatMap_take _ l.sz (fun y hy => h5.each y (List.mem_of_mem_drop hy)), flatMap_drop _ l.sz h5.each]
        exact p1
      cases hr with
      | sub0 _ _ l' q hl hn =>
        have hys : ys = [] := by
          cases k <;> simp at ht <;> first | exact ht.1 | exact ht.1.symm
        subst hys
        exact ⟨[], [], ⟨⟨q, 0, rfl, .inl rfl⟩, .nil, by simp, by simp, by simp, by simp⟩⟩
      | sub _ _ _ l' hl hreal hn =>
        rw [hl] at h1
        obtain rfl := Option.some.inj h1
        rcases h3 with ⟨h3, _⟩ | ⟨h3, h4, bl, h5, h6, h7⟩
        · rw [hreal] at h3; cases h3
        · have hlen : ((xs.drop lo).take n).length = n := by rw [List.length_take, List.length_drop]; omega
          cases k with
          | flat | thin =>
            simp at ht; obtain ⟨rfl, rfl, rfl⟩ := ht
            have h6' : bl = [] := h6
            subst h6'
            obtain ⟨news, b', p1, p2, p3, p4⟩ := part h5 (by omega)
            have : b' = [] := List.eq_nil_iff_forall_not_mem.2 fun b hb => by have := p4 b hb; simp at this
            subst this
            exact ⟨news, [], ⟨⟨_, _, by rw [hlen], .inr ⟨_, _, rfl, p3⟩⟩, p1, p2, by simp, by simp, by simp⟩⟩
          | shal =>
            simp at ht; obtain ⟨rfl, rfl, rfl⟩ := ht
            obtain ⟨news, b', p1, p2, p3, p4⟩ := part h5 (by omega)
            exact ⟨news, b', ⟨⟨_, _, by rw [hlen], .inr ⟨_, _, rfl, p3⟩⟩, p1, p2, by simp, fun _ b hb => h6 b (p4 b hb), by simp⟩⟩
          | deep => cases ht
          | mix => cases ht


theorem Src.first {x : Value} {ys : List V} {ids : List Nat} {vi : Bool} {news : List Value} {bl : List Nat} (h : Src cx s w ow x ys ids vi news bl) {sz : Nat} (hz : ∀ y ∈ ys, y.cells.length = sz) :
    ∃ q c, x = .slice q ys.length c ∧ news.length = ys.length * sz ∧ ∀ w' : World, w'.heap = w.heap → (Builtin.firstCells sz ys.length x).run P w' = .ok news.toArray w' := by
  obtain ⟨q, c, rfl, hv⟩ := h.val
  have hlen : news.length = ys.length * sz := by rw [← h.rep.length, flatMap_len ys sz hz]
  refine ⟨q, c, rfl, hlen, fun w' hw => ?_⟩
  have hcell : ∀ ad, w'.cell? ad = w.cell? ad := by intro ad; simp [World.cell?, hw]
  rcases hv with h0 | ⟨b, off, rfl, hrow⟩
  · subst h0
    have hn : news = [] := List.length_eq_zero_iff.1 (by simpa using hlen)
    subst hn
    cases q with
    | none => exact run_firstCells_none (P := P) w' sz 0 0 c
    | some ad => exact run_firstCells_some (P := P) w' sz 0 ad 0 c [] (by simp) (by intro j v hj; simp at hj)
  · exact run_firstCells_some (P := P) w' sz ys.length ⟨b, off, none⟩ ys.length c news hlen (by
      intro j v hj
      rw [hcell, Addr.add_none]
      exact hrow j v hj)

theorem run_append_in {t e : TypeId} {ty : TypeId} (ht : P.underlying t = some (.slice e)) (hp : 0 < P.cellsOf e) {b off n cap m : Nat} {x : Value} {cur : Array Value} {te : TypeId} {news : List Value}
    (hg : w.heap[b]? = some (.cells cur te (0, 0))) (hx : ∃ q c, x = .slice q m c) (hf : (Builtin.firstCells (P.cellsOf e) m x).run P w = .ok news.toArray w) (h1 : ∀ u ∈ news, u.oneCell' = true)
    (hroom : n + m ≤ cap) (hfit : off + n * P.cellsOf e + news.length ≤ cur.size) :
    (Builtin.append_ #[t, t] ty #[.slice (some ⟨b, off, none⟩) n cap, x]).run P w =
      .ok (.slice (some ⟨b, off, none⟩) (n + m) cap) (w.setRow b (cur.toList.take (off + n * P.cellsOf e) ++ news ++ cur.toList.drop (off + n * P.cellsOf e + news.length)).toArray) := by
  obtain ⟨q, c, rfl⟩ := hx
  obtain ⟨i, hi, hs⟩ := info_of_cells hp
  generalize P.cellsOf e = sz at *
  subst hs
  have hst := run_storeCells_at P b (off + n * i.size) te news 0 cur w hg (by simpa using hfit) h1
  simp only [Nat.add_zero] at hst
  simp [Builtin.append_, run_underlying ht, sizeOf, typeInfo, hi, Builtin.lenOf, hroom, hf, Addr.add_none, hst]

theorem run_append_same {t e : TypeId} {ty : TypeId} (ht : P.underlying t = some (.slice e)) (hp : 0 < P.cellsOf e) {q0 : Option Addr} {n cap : Nat} {x : Value} (hx : ∃ q c, x = .slice q 0 c)
    (hf : (Builtin.firstCells (P.cellsOf e) 0 x).run P w = .ok #[] w) (hroom : n ≤ cap) :
    (Builtin.append_ #[t, t] ty #[.slice q0 n cap, x]).run P w = .ok (.slice q0 n cap) w := by
  obtain ⟨q, c, rfl⟩ := hx
  obtain ⟨i, hi, hs⟩ := info_of_cells hp
  generalize P.cellsOf e = sz at *
  subst hs
  cases q0 <;> simp [Builtin.append_, run_underlying ht, sizeOf, typeInfo, hi, Builtin.lenOf, hroom, hf, storeCells]

theorem run_append_out {t e : TypeId} {ty : TypeId} (ht : P.underlying t = some (.slice e)) (hp : 0 < P.cellsOf e) {z : Value} (hz : Program.zeroOf P e = some z) {q0 : Option Addr} {n cap m : Nat} {x : Value} {olds news : List Value}
    (hx : ∃ q c, x = .slice q m c) (hfo : (Builtin.firstCells (P.cellsOf e) n (.slice q0 n cap)).run P w.drew = .ok olds.toArray w.drew) (hf : (Builtin.firstCells (P.cellsOf e) m x).run P w.drew = .ok news.toArray w.drew)
    (hroom : cap < n + m) (h63 : n + m ≤ 9223372036854775807) (hb : (n + m) * P.bytesOf e ≤ 140737488355328) :
    ∃ cap', n + m ≤ cap' ∧ (Builtin.append_ #[t, t] ty #[.slice q0 n cap, x]).run P w =
      .ok (.slice (some ⟨w.heap.size, 0, none⟩) (n + m) cap') (w.drew.alloc (.cells (olds ++ news ++ (Builtin.zeroCells z.cells (cap' - (n + m))).toList).toArray e)) := by
  obtain ⟨q, c, rfl⟩ := hx
  obtain ⟨i, hi, hs⟩ := info_of_cells hp
  have hbb : P.bytesOf e = i.bytes := by simp [Program.bytesOf, hi]
  rw [hbb] at hb
  generalize P.cellsOf e = sz at *
  subst hs
  have hzero : i.zero = some z := by simpa [Program.zeroOf, hi] using hz
  refine ⟨grownCap w (n + m) cap e, grownCap_ge w (n + m) cap e, ?_⟩
  have hn : ¬ (n + m ≤ cap) := by omega
  have h63' : ¬ (9223372036854775807 < ((n : Int) + (m : Int))) := by omega
  have hfits := growslice_fits (bytes := i.bytes) (need := n + m) (old := cap) (by omega) hb
  have h48' : ¬ (281474976710656 < Builtin.nextslicecap (n + m) cap * i.bytes) := by omega
  simp [Builtin.append_, run_underlying ht, sizeOf, typeInfo, zeroValue, hi, hzero, Builtin.lenOf, hn, h63', h48', Question.forced, hf, hfo, newRow, grownCap]
  congr 2
  apply Array.ext'
  simp [List.append_assoc]


/-- Ownership under a new number. -/
def renOw (ow : Ow) (did : Option Nat) (id : Nat) : Ow := fun b => match ow b with
  | some (r, j) => if did = some j then some (r, id) else some (r, j)
  | none => none

theorem append_sound (h : Rel cx s a w μ ow) {K : V → St → Prop} (t : TypeId) (d x : Operand) (c : Call) (ho : o.op = .call c) (hcal : c.callee = .builtin .append) (hargs : c.args = #[d, x]) (hty : c.argTypes = #[t, t])
    (hgd : (s.ev d).gd = true) (hgx : (s.ev x).gd = true) (hk : aAppend P s t K (s.ev d).un (s.ev x).un) :
    ∃ v w' val s' μ' ow', (execOp a.eval o).run P w = .ok (.value v) w' ∧ Rel cx s' a w' μ' ow' ∧ s'.n = s.n ∧ (∃ bl, Rep w' μ' val v bl ∧ ∀ b ∈ bl, VOK cx ow' s'.vw b) ∧ K val s' := by
  have hsup := h.sup
  obtain ⟨bd, rd, _⟩ := hsup.evu d hgd
  obtain ⟨bx, rx, vx⟩ := hsup.evu x hgx
  unfold aAppend at hk
  split at hk
  case h_2 => exact hk.elim
  rename_i e xs k did xs0 ys ids vi ht hdest hsrc
  obtain ⟨⟨hp, hzl, hxs0, hys, hnd, hdi, hsrcids, hsubne, hkt, h63, hby⟩, hk⟩ := hk
  split at hk
  case h_2 => exact hk.elim
  rename_i k' hj
  obtain ⟨hk1, hk2⟩ := kdJoin_ne_mix hj
  obtain ⟨news, bl', hS⟩ := src_rep hsup rx vx hsrc hnd
  obtain ⟨q, cx', ex, hnl, hfirst⟩ := hS.first (P := P) hys
  have hzz : ∃ z, Program.zeroOf P e = some z ∧ z.cells.size = P.cellsOf e := by
    cases hq : Program.zeroOf P e with
    | none => rw [hq] at hzl; cases hzl
    | some z => rw [hq] at hzl; exact ⟨z, rfl, by simpa using hzl⟩
  obtain ⟨z, hz, hzs⟩ := hzz
  let nid := s.O.length
  -- the operation is the builtin
  have run : ∀ {v : Value} {w' : World}, (Builtin.append_ #[t, t] o.type #[a.eval d, a.eval x]).run P w = .ok v w' → (execOp a.eval o).run P w = .ok (.value v) w' := by
    intro v w' hv
    unfold execOp
    rw [ho]
    simp only [Sem.run_bind, resolve, hcal, hargs, hty, Sem.run_pure, Result.andThen_ok, invoke, builtin, List.map_toArray, List.map_cons, List.map_nil]
    rw [hv]; rfl
  let ow1 := renOw ow did nid
  have ow1none : ∀ b, ow b = none → ow1 b = none := fun b e => by simp [ow1, renOw, e]
  have ow1ne : ∀ b, ow1 b ≠ none → ow b ≠ none := fun b hb e => hb (ow1none b e)
  have ow1keep : ∀ b r j, ow b = some (r, j) → did ≠ some j → ow1 b = some (r, j) := fun b r j e hne => by simp [ow1, renOw, e, hne]
  have ow1did : ∀ b r j, ow b = some (r, j) → did = some j → ow1 b = some (r, nid) := fun b r j e he => by simp [ow1, renOw, e, he]
  have ow1false : ∀ b j, ow b = some (false, j) → ∃ j', ow1 b = some (false, j') := fun b j e => by
    by_cases q : did = some j
    · exact ⟨nid, ow1did b _ j e q⟩
    · exact ⟨j, ow1keep b _ j e q⟩
  have v1 : ∀ b, VOK cx ow s.vw b → VOK cx ow1 s.vw b := fun b hb => hb.mono2 (ow1none b) fun j e => .inr (ow1false b j e)
  have hnidn : nid ∉ ids := fun hm => Nat.lt_irrefl _ (hsrcids _ hm)
  -- the source's blocks, under the new numbers
  have hS1 : vi = false → bl'.Nodup ∧ ∀ b ∈ bl', ∃ j ∈ ids, ∃ r, ow1 b = some (r, j) := fun hv => by
    obtain ⟨m1, m2⟩ := hS.own hv
    refine ⟨m1, fun b hb => ?_⟩
    obtain ⟨j, hj1, r, e1⟩ := m2 b hb
    exact ⟨j, hj1, r, ow1keep b r j e1 fun hd => hdi j hd hj1⟩
  let ow' := moveOw ow1 ids nid
  have hv' : ∀ b, VOK cx ow1 s.vw b → VOK cx ow' s.vw b := fun b hb => hb.mono2 moveOw_none fun j e => .inr (moveOw_false e)
  -- what is appended to
  have dst : (∀ y ∈ xs, y.cells.length = P.cellsOf e) ∧ ∃ (q0 : Option Addr) (cap : Nat) (olds : List Value) (blo : List Nat), a.eval d = .slice q0 xs.length cap ∧ RepL w M0 (xs.flatMap V.cells) olds blo ∧ (∀ v ∈ olds, v.oneCell' = true) ∧ KdOK cx ow1 s.vw nid blo k ∧
      ((cap = 0 ∧ xs = []) ∨ ∃ (l : Loc) (i lo : Nat) (c : Array Value) (tc : TypeId), did = some i ∧ i < nid ∧ l.real = true ∧ ow l.b = some (true, i) ∧ 0 < l.sz ∧ l.sz = P.cellsOf e ∧ (xs = [] → ys ≠ []) ∧ w.heap[l.b]? = some (.cells c tc (0, 0)) ∧ l.off + l.cap * l.sz ≤ c.size ∧ lo + xs.length ≤ l.cap ∧
        q0 = some ⟨l.b, l.off + lo * l.sz, none⟩ ∧ cap = l.cap - lo ∧ (∀ j x, olds[j]? = some x → c[l.off + lo * l.sz + j]? = some x) ∧ ∀ b ∈ blo, b ≠ l.b) := by
    have kd0 : ∀ k : Kd, k ≠ .mix → KdOK cx ow1 s.vw nid [] k := by
      intro k hk
      cases k with
      | flat | thin => rfl
      | deep => exact ⟨by simp, by simp⟩
      | shal => intro b hb; cases hb
      | mix => exact absurd rfl hk
    have kdmove : ∀ {i : Nat} {bl b' : List Nat}, did = some i → KdOK cx ow s.vw i bl k → List.Sublist b' bl → KdOK cx ow1 s.vw nid b' k := by
      intro i bl b' hd hkd hsub
      cases k with
      | flat | thin => have : bl = [] := hkd; subst this; exact List.sublist_nil.1 hsub
      | deep => exact ⟨hsub.nodup hkd.1, fun b hb => ow1did b _ i (hkd.2 b (hsub.subset hb)) hd⟩
      | shal => exact fun b hb => v1 b (hkd b (hsub.subset hb))
      | mix => exact absurd rfl hk1
    have notroot : ∀ {i : Nat} {l : Loc} {bl : List Nat}, KdOK cx ow s.vw i bl k → ow l.b = some (true, i) → ∀ b ∈ bl, b ≠ l.b := by
      intro i l bl hkd hr b hb e0
      subst e0
      cases k with
      | flat | thin => have : bl = [] := hkd; rw [this] at hb; cases hb
      | deep => have := hkd.2 _ hb; rw [hr] at this; cases this
      | shal => exact (hkd _ hb).not_root hr
      | mix => exact absurd rfl hk1
    generalize (s.ev d).un = vd at hdest rd hsubne
    cases vd <;> simp only [destOf] at hdest <;> try (cases hdest; done)
    case nsl =>
      simp at hdest
      obtain ⟨rfl, rfl, rfl, rfl⟩ := hdest
      generalize a.eval d = ad at rd ⊢
      cases rd with
      | nsl q0 => exact ⟨by simp, q0, 0, [], [], rfl, .nil, by simp, kd0 _ (by simp), .inl ⟨rfl, rfl⟩⟩
    case ref i =>
      cases hrow : s.row i with
      | none => rw [hrow] at hdest; cases hdest
      | some xk =>
        obtain ⟨xs1, k0⟩ := xk
        rw [hrow] at hdest
        simp only [Option.some.injEq, Prod.mk.injEq] at hdest
        obtain ⟨rfl, rfl, rfl, rfl⟩ := hdest
        have hilt : i < nid := by
          rcases Nat.lt_or_ge i nid with z | z
          · exact z
          · simp [St.row, List.getElem?_eq_none z] at hrow
        obtain ⟨l, q1, q2, q3⟩ := hsup.row hrow
        generalize a.eval d = ad at rd ⊢
        cases rd with
        | ref _ l' _ hl hd =>
          rw [hl] at q1
          obtain rfl := Option.some.inj q1
          rcases q3 with ⟨q3, q4⟩ | ⟨q3, q4, bl, q5, q6, q7⟩
          · subst q4
            cases hd with
            | real hreal => rw [hreal] at q3; cases q3
            | nil q0 _ _ => exact ⟨by simp, q0, 0, [], [], rfl, .nil, by simp, kd0 _ hk1, .inl ⟨rfl, rfl⟩⟩
          · cases hd with
            | nil _ hf' _ => rw [q3] at hf'; cases hf'
            | real _ =>
              rw [mu_ne_mix hk1] at q5
              obtain ⟨c, tc, vs, g4, g5, g6, g7, g8⟩ := q5.row
              have hne := q7 hkt
              have hsz : l'.sz = P.cellsOf e := by
                cases xs1 with
                | nil => exact absurd rfl hne
                | cons y ys' => rw [← q5.each y (List.mem_cons_self ..), hxs0 y (List.mem_cons_self ..)]
              exact ⟨hxs0, _, _, vs, bl, by rw [q2], g6, g7, kdmove rfl q6 (List.Sublist.refl _), .inr ⟨l', i, 0, c, tc, rfl, hilt, q3, q4, q5.sz, hsz, fun h0 => absurd h0 hne, g4, g5, by have := q5.le; omega, by simp, by simp, by simpa using g8, notroot q6 q4⟩⟩
    case sub i lo n =>
      cases hrow : s.row i with
      | none => rw [hrow] at hdest; cases hdest
      | some xk =>
        obtain ⟨xs1, k0⟩ := xk
        rw [hrow] at hdest
        simp only [Option.some.injEq, Prod.mk.injEq] at hdest
        obtain ⟨rfl, rfl, rfl, rfl⟩ := hdest
        have hilt : i < nid := by
          rcases Nat.lt_or_ge i nid with z | z
          · exact z
          · simp [St.row, List.getElem?_eq_none z] at hrow
        obtain ⟨l, q1, q2, q3⟩ := hsup.row hrow
        generalize a.eval d = ad at rd ⊢
        cases rd with
        | sub0 _ _ l' q0 hl hn => exact ⟨by simp, q0, 0, [], [], by simp, by rw [List.take_zero]; exact .nil, by simp, kd0 _ hk1, .inl ⟨rfl, by simp⟩⟩
        | sub _ _ _ l' hl hreal hn =>
          rw [hl] at q1
          obtain rfl := Option.some.inj q1
          rcases q3 with ⟨q3, _⟩ | ⟨q3, q4, bl, q5, q6, q7⟩
          · rw [hreal] at q3; cases q3
          · rw [mu_ne_mix hk1] at q5
            obtain ⟨c, tc, vs, g4, g5, g6, g7, g8⟩ := q5.row
            have hlen : ((xs1.drop lo).take n).length = n := by rw [List.length_take, List.length_drop]; omega
            have hle := q5.le
            -- a part of the row
            have e3 : xs1.flatMap V.cells = (xs1.flatMap V.cells).take (lo * l'.sz) ++ (((xs1.flatMap V.cells).drop (lo * l'.sz)).take (n * l'.sz) ++ (xs1.flatMap V.cells).drop (lo * l'.sz + n * l'.sz)) := by
              rw [show (xs1.flatMap V.cells).drop (lo * l'.sz + n * l'.sz) = ((xs1.flatMap V.cells).drop (lo * l'.sz)).drop (n * l'.sz) by rw [List.drop_drop], List.take_append_drop, List.take_append_drop]
            have g6' := g6
            rw [e3] at g6'
            obtain ⟨x1, x23, b1, b23, ev1, eb1, r1, r23⟩ := RepL.split _ _ g6'
            obtain ⟨x2, x3, b2, b3, ev2, eb2, r2, r3⟩ := RepL.split _ _ r23
            have hL : (xs1.flatMap V.cells).length = xs1.length * l'.sz := flatMap_len xs1 l'.sz q5.each
            have hmul : (lo + n) * l'.sz ≤ xs1.length * l'.sz := Nat.mul_le_mul_right _ (by omega)
            rw [Nat.add_mul] at hmul
            have hx1 : x1.length = lo * l'.sz := by rw [← r1.length, List.length_take]; omega
            have hne := q7 hkt
            have hsz : l'.sz = P.cellsOf e := by
              cases xs1 with
              | nil => exact absurd rfl hne
              | cons y ys' => rw [← q5.each y (List.mem_cons_self ..), hxs0 y (List.mem_cons_self ..)]
            refine ⟨fun y hy => hxs0 y (List.mem_of_mem_drop (List.mem_of_mem_take hy)), _, _, x2, b2, by rw [hlen], ?_, fun v hv => g7 v (by rw [ev1, ev2]; simp [hv]), kdmove rfl q6 (by rw [eb1, eb2]; exact (List.sublist_append_left b2 b3).trans (List.sublist_append_right b1 _)), .inr ⟨l', i, lo, c, tc, rfl, hilt, q3, q4, q5.sz, hsz, fun _ => hsubne rfl, g4, g5, by rw [hlen]; omega, rfl, rfl, fun j y hj => ?_, fun b hb => notroot q6 q4 b (by rw [eb1, eb2]; simp [hb])⟩⟩
            · rw [flatMap_take _ l'.sz (fun y hy => q5.each y (List.mem_of_mem_drop hy)), flatMap_drop _ l'.sz q5.each]
              exact r2
            · have : vs[lo * l'.sz + j]? = some y := by
                rw [ev1, List.getElem?_append_right (by omega), hx1, Nat.add_sub_cancel_left, ev2, List.getElem?_append_left (by
                  rcases Nat.lt_or_ge j x2.length with z | z
                  · exact z
                  · rw [List.getElem?_eq_none z] at hj; cases hj)]
                exact hj
              rw [Nat.add_assoc]
              exact g8 _ y this
  obtain ⟨hxs, q0, cap, olds, blo, ed, ro, o1, kdo, hcase⟩ := dst
  have hol : olds.length = xs.length * P.cellsOf e := by rw [← ro.length, flatMap_len xs _ hxs]
  have rnew : RepL w M0 ((xs ++ ys).flatMap V.cells) (olds ++ news) (blo ++ bl') := by rw [List.flatMap_append]; exact ro.append hS.rep
  have onew : ∀ v ∈ olds ++ news, v.oneCell' = true := fun v hv => (List.mem_append.1 hv).elim (o1 v) (hS.one v)
  have kdnew : KdOK cx ow' s.vw nid (blo ++ bl') k' := by
    have := kd_join (b1 := blo) (b2 := []) (b3 := []) (bl' := bl') hj (by simpa using kdo) hnidn hS.no (fun hi b hb => v1 b (hS.view hi b hb)) hS1
    simpa using this
  have hsz' : ∀ y ∈ xs ++ ys, y.cells.length = P.cellsOf e := fun y hy => (List.mem_append.1 hy).elim (hxs y) (hys y)
  -- the caller's other blocks
  let O' := killAll s.O (did.toList ++ ids) ++ [.arr (xs ++ ys) k']
  have hOlen : O'.length = nid + 1 := by simp [O', killAll_len, nid]
  have ow'none : ∀ b, ow b = none → ow' b = none := fun b e0 => moveOw_none (ow1none b e0)
  have ow'ne : ∀ b, ow' b ≠ none → ow b ≠ none := fun b hb => ow1ne b (moveOw_ne hb)
  have ow'false : ∀ b j, ow b = some (false, j) → ∃ j', ow' b = some (false, j') := fun b j e0 => by
    obtain ⟨j', q⟩ := ow1false b j e0
    exact moveOw_false q
  have blkcase : ∀ (μ' : Nat → Option Loc) (w' : World) (owx : Ow), (∀ b, b < w.heap.size → owx b = ow' b) → (∀ b r j, ow b = some (r, j) → b < w.heap.size) → BlkOK cx w' μ' owx s.vw nid (.arr (xs ++ ys) k') →
      ∀ id bk, O'[id]? = some bk → (s.O[id]? = some bk ∧ ¬ did = some id ∧ ∀ b r, ow b = some (r, id) → owx b = ow b) ∨ BlkOK cx w' μ' owx s.vw id bk := by
    intro μ' w' owx hox hlt hnew id bk e0
    by_cases hid : id < nid
    · rw [List.getElem?_append_left (by rw [killAll_len]; exact hid)] at e0
      by_cases hd : bk = .dead
      · subst hd; exact .inr trivial
      · obtain ⟨e1, e2⟩ := killAll_get _ _ _ _ e0 hd
        simp only [List.mem_append, Option.mem_toList, not_or] at e2
        left
        refine ⟨e1, e2.1, fun b r eb => ?_⟩
        rw [hox b (hlt b r id eb)]
        show moveOw ow1 ids nid b = ow b
        rw [moveOw_keep (ow1keep b r id eb e2.1) e2.2, ow1keep b r id eb e2.1, eb]
    · have : id = nid := by
        rcases Nat.lt_or_ge id O'.length with z | z
        · omega
        · rw [List.getElem?_eq_none z] at e0; cases e0
      subst this
      right
      rw [List.getElem?_append_right (by rw [killAll_len]; omega), killAll_len] at e0
      simp only [nid, Nat.sub_self, List.getElem?_cons_zero, Option.some.injEq] at e0
      subst e0
      exact hnew
  have howl : ∀ b r j, ow b = some (r, j) → b < w.heap.size := fun b r j e0 => (h.owl b (by rw [e0]; simp)).lt
  have hdomnid : μ nid = none := h.dom nid (Nat.le_refl _)
  -- the map with the new number
  have mkmu : ∀ loc : Loc, ∃ μ' : Nat → Option Loc, MLe μ μ' ∧ μ' nid = some loc ∧ ∀ j, nid + 1 ≤ j → μ' j = none := by
    intro loc
    refine ⟨fun j => if j = nid then some loc else μ j, fun j l e0 => ?_, by simp, fun j hj => ?_⟩
    · have : j ≠ nid := fun q => by rw [q, hdomnid] at e0; cases e0
      simp [this, e0]
    · have : j ≠ nid := by omega
      simp only [this, if_false]
      exact h.dom j (by show s.O.length ≤ j; have : nid = s.O.length := rfl; omega)
  by_cases hroom : xs.length + ys.length ≤ cap
  · rcases hcase with ⟨hc0, hx0⟩ | ⟨l, i, lo, c, tc, hd, hilt, hreal, hroot, hlsz, hlsz', hne0, g4, g5, hlo, hq0, hcap, g8, hbne⟩
    · -- nothing onto nothing
      subst hx0
      have hy0 : ys = [] := List.length_eq_zero_iff.1 (by simp at hroom; omega)
      subst hy0
      obtain ⟨μ', m1, m2, m3⟩ := mkmu nilLoc
      have hn0 : news = [] := List.length_eq_zero_iff.1 (by simpa using hnl)
      subst hn0
      have hr := run_append_same (P := P) (w := w) (ty := o.type) (q0 := q0) (n := 0) (cap := cap) (x := a.eval x) ht hp ⟨q, cx', ex⟩ (hfirst w rfl) (Nat.zero_le _)
      refine ⟨.slice q0 0 cap, w, .ref nid, { s with O := O' }, μ', ow', run (by rw [ed]; exact hr), ?_, rfl, ⟨[], .ref nid nilLoc _ m2 (by rw [hc0]; exact .nil _ rfl rfl), by simp⟩, hk⟩
      refine h.mut (O' := O') (fun j => did = some j) m1 (fun j hj => m3 j (by rw [hOlen] at hj; exact hj)) (Nat.le_refl _) (fun _ _ _ => rfl) rfl rfl rfl (fun _ _ => rfl) (fun b _ e0 => ow'none b e0) (fun b j e0 => .inr (ow'false b j e0))
        (blkcase μ' w ow' (fun _ _ => rfl) howl ⟨nilLoc, m2, rfl, .inl ⟨rfl, rfl⟩⟩) (fun b hb => h.owl b (ow'ne b hb)) (fun b hb => .inl (ow'ne b hb))
    · -- in place
      subst hq0
      have hroot' : ow' l.b = some (true, nid) := by
        have q := ow1did l.b _ i hroot hd
        show moveOw ow1 ids nid l.b = _
        rw [moveOw_keep q hnidn, q]
      have htot : xs ++ ys ≠ [] := by
        intro h0
        simp only [List.append_eq_nil_iff] at h0
        exact hne0 h0.1 h0.2
      let loc : Loc := ⟨l.b, l.off + lo * l.sz, l.sz, (xs ++ ys).length, l.cap - lo, true⟩
      obtain ⟨μ', m1, m2, m3⟩ := mkmu loc
      have hcapc : l.off + lo * l.sz + (l.cap - lo) * l.sz ≤ c.size := by
        have e1 : (l.cap - lo) * l.sz = l.cap * l.sz - lo * l.sz := Nat.sub_mul ..
        have e2 : lo * l.sz ≤ l.cap * l.sz := Nat.mul_le_mul_right _ (by omega)
        omega
      have hfit : olds.length + news.length ≤ (l.cap - lo) * l.sz := by
        rw [hol, hnl, ← Nat.add_mul, hlsz']
        exact Nat.mul_le_mul_right _ (by omega)
      have hr := run_append_in (P := P) (w := w) (ty := o.type) (off := l.off + lo * l.sz) (n := xs.length) (cap := cap) (m := ys.length) (x := a.eval x) (news := news) ht hp g4 ⟨q, cx', ex⟩ (hfirst w rfl) hS.one hroom (by rw [← hol]; omega)
      have hbb : ∀ b ∈ blo ++ bl', b ≠ l.b := by
        intro b hb
        rcases List.mem_append.1 hb with hb | hb
        · exact hbne b hb
        · intro e0
          subst e0
          cases hv : vi with
          | false =>
            obtain ⟨j, hj1, r, e1⟩ := (hS.own hv).2 _ hb
            rw [hroot] at e1
            simp only [Option.some.injEq, Prod.mk.injEq] at e1
            exact hdi i hd (e1.2 ▸ hj1)
          | true =>
            have hnil : ids = [] := by
              subst hv
              rcases kdJoin_cases hj with ⟨_, _, e, _⟩ | ⟨_, _, e, _⟩ | ⟨_, _, e, _⟩ | ⟨_, e, _⟩ | ⟨_, m1, _, _⟩ | ⟨_, m1, _⟩
              · cases e
              · cases e
              · cases e
              · cases e
              · exact nil_of_not m1
              · exact nil_of_not m1
            exact (hS.view hnil _ hb).not_root hroot
      have hcells := cells_put (w := w) (μ' := M0) (l := ⟨l.b, l.off + lo * l.sz, l.sz, xs.length, l.cap - lo, true⟩) (xs' := xs ++ ys) (bl' := blo ++ bl') (o := olds.length) (news := news) (vs := olds) (vs' := olds ++ news) c tc g4 hcapc hlsz o1 g8
        (by simp only [List.length_append]; show xs.length + ys.length ≤ l.cap - lo; omega) hfit (by intro y hy; rw [hsz' y hy]; exact hlsz'.symm) hS.one rnew
        (by rw [List.take_length, List.drop_of_length_le (by omega), List.append_nil, List.take_length]) (Nat.le_refl _) hbb
      rw [hol] at hcells
      refine ⟨_, _, .ref nid, { s with O := O' }, μ', ow', run (by rw [ed]; exact hr), ?_, rfl, ⟨[], .ref nid loc _ m2 ?_, by simp⟩, hk⟩
      · refine h.mut (O' := O') (fun j => did = some j) m1 (fun j hj => m3 j (by rw [hOlen] at hj; exact hj)) (by simp) (fun b hb hnt => setRow_other w l.b b _ fun e0 => ?_) rfl rfl rfl (fun x _ => frozen_setRow _ _ _ x) (fun b _ e0 => ow'none b e0) (fun b j e0 => .inr (ow'false b j e0))
          (blkcase μ' _ ow' (fun _ _ => rfl) howl ⟨loc, m2, rfl, .inr ⟨rfl, hroot', blo ++ bl', by rw [mu_ne_mix hk2]; exact hcells, kdnew, fun _ => htot⟩⟩) (fun b hb => (h.owl b (ow'ne b hb)).setRow) (fun b hb => .inl (ow'ne b hb))
        subst e0
        exact hnt i hroot hd
      · have := Hd.real (l := loc) rfl
        rw [hcap]
        simpa [loc] using this
  · -- a new block
    have hnil : (Builtin.firstCells (P.cellsOf e) xs.length (.slice q0 xs.length cap)).run P w.drew = .ok olds.toArray w.drew := by
      rcases hcase with ⟨hc0, hx0⟩ | ⟨l, i, lo, c, tc, hd, hilt, hreal, hroot, hlsz, hlsz', hne0, g4, g5, hlo, hq0, hcap, g8, hbne⟩
      · subst hx0
        have ho0 : olds = [] := List.length_eq_zero_iff.1 (by simpa using hol)
        subst ho0
        cases q0 with
        | none => exact run_firstCells_none (P := P) w.drew _ 0 0 cap
        | some ad => exact run_firstCells_some (P := P) w.drew _ 0 ad 0 cap [] (by simp) (by intro j v hj; simp at hj)
      · subst hq0
        exact run_firstCells_some (P := P) w.drew (P.cellsOf e) xs.length _ xs.length cap olds hol (by
          intro j v hj
          rw [Addr.add_none]
          show w.cell? _ = some v
          rw [cell_of_row w l.b _ c tc _ g4]
          exact g8 j v hj)
    obtain ⟨cap', hc1, hr⟩ := run_append_out (P := P) (w := w) (t := t) (ty := o.type) (q0 := q0) (n := xs.length) (cap := cap) (m := ys.length) (x := a.eval x) ht hp hz ⟨q, cx', ex⟩ hnil (hfirst w.drew rfl) (by omega) h63 hby
    have htot : xs ++ ys ≠ [] := by
      intro h0
      rw [List.append_eq_nil_iff] at h0
      have h1 := congrArg List.length h0.1
      have h2 := congrArg List.length h0.2
      simp only [List.length_nil] at h1 h2
      omega
    let loc : Loc := ⟨w.heap.size, 0, P.cellsOf e, (xs ++ ys).length, cap', true⟩
    obtain ⟨μ', m1, m2, m3⟩ := mkmu loc
    have fresh : ow w.heap.size = none := by
      cases e0 : ow w.heap.size with
      | none => rfl
      | some r => have := (h.owl w.heap.size (by rw [e0]; simp)).lt; omega
    let w2 := w.drew.alloc (.cells (olds ++ news ++ (Builtin.zeroCells z.cells (cap' - (xs.length + ys.length))).toList).toArray e)
    have hw2 : Ext w w2 := (Ext.drew w).trans (Ext.alloc _ _ _)
    have hw2s : w2.heap.size = w.heap.size + 1 := size_alloc w.drew _
    have hcells : Cells w2 M0 loc (xs ++ ys) (blo ++ bl') := by
      refine ⟨by show (xs ++ ys).length ≤ cap'; rw [List.length_append]; exact hc1, hp, hsz', _, e, olds ++ news, heap_new w.drew _, ?_, rnew.keep (MLe.refl _) fun b hb => hw2.old b (rnew.lt b hb), onew, fun j y hj => ?_⟩
      · show 0 + cap' * P.cellsOf e ≤ _
        have hzlen : (Builtin.zeroCells z.cells (cap' - (xs.length + ys.length))).toList.length = (cap' - (xs.length + ys.length)) * P.cellsOf e := by rw [Array.length_toList, size_zeroCells, hzs]
        rw [List.size_toArray, List.length_append, List.length_append, hol, hnl, hzlen, ← Nat.add_mul, ← Nat.add_mul, Nat.zero_add]
        exact Nat.mul_le_mul_right _ (by omega)
      · show (olds ++ news ++ _).toArray[0 + j]? = some y
        rw [Nat.zero_add, List.getElem?_toArray, List.getElem?_append_left (by
          rcases Nat.lt_or_ge j (olds ++ news).length with z | z
          · exact z
          · rw [List.getElem?_eq_none z] at hj; cases hj)]
        exact hj
    let owx := bindOw ow' w.heap.size nid
    have hox : ∀ b, b < w.heap.size → owx b = ow' b := fun b hb => by simp only [owx, bindOw]; rw [if_neg (by omega)]
    have hkdx : KdOK cx owx s.vw nid (blo ++ bl') k' := kdnew.mono (fun b hb => hox b (rnew.lt b hb)) (fun q => q)
    refine ⟨_, w2, .ref nid, { s with O := O' }, μ', owx, run (by rw [ed]; exact hr), ?_, rfl, ⟨[], .ref nid loc _ m2 ?_, by simp⟩, hk⟩
    · refine h.mut (O' := O') (fun j => did = some j) m1 (fun j hj => m3 j (by rw [hOlen] at hj; exact hj)) hw2.size (fun b hb _ => hw2.old b hb) hw2.os hw2.tape hw2.output hw2.ice (fun b hb e0 => (hox b hb).trans (ow'none b e0))
        (fun b j e0 => .inr (by obtain ⟨j', q⟩ := ow'false b j e0; exact ⟨j', (hox b (howl b _ j e0)).trans q⟩))
        (blkcase μ' w2 owx hox howl ⟨loc, m2, rfl, .inr ⟨rfl, by simp [owx, bindOw, loc], blo ++ bl', by rw [mu_ne_mix hk2]; exact hcells, hkdx, fun _ => htot⟩⟩) (fun b hb => ?_) (fun b hb => ?_)
      · simp only [owx, bindOw] at hb
        split at hb
        · rename_i q; subst q; exact ⟨_, _, heap_new w.drew _⟩
        · exact (h.owl b (ow'ne b hb)).keep (hw2.old b (h.owl b (ow'ne b hb)).lt)
      · simp only [owx, bindOw] at hb
        split at hb
        · right; omega
        · exact .inl (ow'ne b hb)
    · have := Hd.real (l := loc) rfl
      simpa [loc] using this

end
end Go.Vm
