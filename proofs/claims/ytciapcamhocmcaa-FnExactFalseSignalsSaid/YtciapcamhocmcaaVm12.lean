/- The value machine, part 12: stores. -/
import Derived.Test.YtciapcamhocmcaaVm11
set_option linter.unusedSimpArgs false
set_option linter.unusedVariables false
namespace Go.Vm
open Go

/-- A store through a pointer into an owned block. -/
def aStore (P : Program) (s : St) (T : TypeId) (K : St → Prop) (p v : V) : Prop :=
  match p with
  | .ptr id i off => match s.O[id]? with
    | some (.box x k) =>
      let r := settle s.O.length v
      (r.1.isVal = true ∧ r.1.cells.length = P.cellsOf T ∧ 0 < P.cellsOf T ∧ i = 0 ∧ off + P.cellsOf T ≤ x.cells.length ∧ (k = .deep → r.1.noSl = true ∧ r.1.noRef = true)) ∧
      K { s with O := s.O.set id (.box (setCells x off r.1) (if k = .deep then .deep else kindOf (setCells x off r.1))) ++ r.2 }
    | some (.arr xs k) => match takeV s v with
      | some (v', ids, vi) => (v'.cells.length = P.cellsOf T ∧ 0 < P.cellsOf T ∧ off + P.cellsOf T ≤ (xs.getD i .any).cells.length ∧ id ∉ ids ∧ ids.Nodup) ∧ match kdJoin k (!ids.isEmpty) vi with
        | some k' => K { s with O := killAll (s.O.set id (.arr (xs.set i (setCells (xs.getD i .any) off v')) k')) ids }
        | none => False
      | none => False
    | _ => False
  | _ => False

theorem flatMap_set : ∀ (xs : List V) (sz : Nat) (_ : ∀ x ∈ xs, x.cells.length = sz) (i : Nat) (y : V), i < xs.length →
    (xs.set i y).flatMap V.cells = (xs.flatMap V.cells).take (i * sz) ++ y.cells ++ (xs.flatMap V.cells).drop (i * sz + sz)
  | [], _, _, i, _, hi => by simp at hi
  | x :: xs, sz, hz, 0, y, _ => by
    have hx := hz x (List.mem_cons_self ..)
    simp [List.flatMap_cons, ← hx]
  | x :: xs, sz, hz, i + 1, y, hi => by
    have hx := hz x (List.mem_cons_self ..)
    have ih := flatMap_set xs sz (fun z hz' => hz z (List.mem_cons_of_mem _ hz')) i y (by simpa using hi)
    have e : (i + 1) * sz = x.cells.length + i * sz := by rw [hx, Nat.add_mul]; omega
    rw [List.set_cons_succ, List.flatMap_cons, List.flatMap_cons, ih, e, List.take_length_add_append, Nat.add_assoc]
    have hd : List.drop (x.cells.length + (i * sz + sz)) (x.cells ++ List.flatMap V.cells xs) = List.drop (i * sz + sz) (List.flatMap V.cells xs) := by rw [← List.drop_drop, List.drop_left]
    rw [hd]
    simp

theorem setCells_cells {x v : V} {off : Nat} (h : off + v.cells.length ≤ x.cells.length) (h0 : 0 < v.cells.length) : (setCells x off v).cells = x.cells.take off ++ v.cells ++ x.cells.drop (off + v.cells.length) := by
  cases x with
  | agg cs => rfl
  | _ =>
    have h' : off + v.cells.length ≤ 1 := h
    have e0 : off = 0 := by omega
    have e1 : v.cells.length = 1 := by omega
    subst e0
    simp only [setCells, e1]
    simp [V.cells]

theorem seg_set {α : Type} (L : List α) (p sz off n : Nat) (m : List α) (hm : m.length = n) (ho : off + n ≤ sz) (hp : p + sz ≤ L.length) :
    L.take p ++ (((L.drop p).take sz).take off ++ m ++ ((L.drop p).take sz).drop (off + n)) ++ L.drop (p + sz) = L.take (p + off) ++ m ++ L.drop (p + off + n) := by
  have h1 : ((L.drop p).take sz).take off = (L.drop p).take off := by rw [List.take_take, Nat.min_eq_left (by omega)]
  have h2 : ((L.drop p).take sz).drop (off + n) ++ L.drop (p + sz) = L.drop (p + off + n) := by
    have : L.drop (p + off + n) = (L.drop p).drop (off + n) := by rw [List.drop_drop]; congr 1; omega
    rw [this, show L.drop (p + sz) = (L.drop p).drop sz by rw [List.drop_drop]]
    conv => rhs; rw [← List.take_append_drop sz (L.drop p)]
    rw [List.drop_append_of_le_length (by rw [List.length_take, List.length_drop]; omega)]
  have h3 : L.take p ++ (L.drop p).take off = L.take (p + off) := by rw [List.take_add]
  rw [h1, ← h2, ← h3]
  simp [List.append_assoc]

section
variable {P : Program} {cx : Cx} {s : St} {a : Act} {w : World} {μ : Nat → Option Loc} {ow : Ow} {o : Oper}

theorem run_storeVar {T : TypeId} {b off : Nat} {v : Value} {c : Array Value} {t : TypeId} (hc : w.heap[b]? = some (.cells c t (0, 0))) (hp : 0 < P.cellsOf T) (hsz : v.cells.size = P.cellsOf T)
    (hfit : off + v.cells.size ≤ c.size) (h1 : ∀ x ∈ v.cells.toList, x.oneCell' = true) :
    (Instr.storeAt T (.pointer (some ⟨b, off, none⟩)) v).run P w = .ok () (w.setRow b (c.toList.take off ++ v.cells.toList ++ c.toList.drop (off + v.cells.toList.length)).toArray) := by
  have hst := run_storeCells_at P b off t v.cells.toList 0 c w hc (by simpa using hfit) h1
  simp only [Nat.add_zero] at hst
  have hne : ¬ (v.cells.size ≠ P.cellsOf T) := by simp [hsz]
  simp only [Instr.storeAt, Instr.sureAddr, Sem.run_bind, Sem.run_pure, Result.andThen_ok, storeVar, run_sizeOf hp, hne, if_false, hst]

theorem run_op_u {m : Sem Unit} {w' : World} {T : TypeId} {x y : Operand} (ho : o.op = .store T x y) (hm : m = Instr.storeAt T (a.eval x) (a.eval y)) (h : m.run P w = .ok () w') : (execOp a.eval o).run P w = .ok .skip w' := by
  unfold execOp
  rw [ho]
  subst hm
  simp only [Sem.run_bind, h, Result.andThen_ok, Sem.run_pure]

/-- Ownership when blocks move into another one. -/
def moveOw (ow : Ow) (ids : List Nat) (id : Nat) : Ow := fun b => match ow b with
  | some (r, j) => if j ∈ ids then some (false, id) else some (r, j)
  | none => none

theorem moveOw_none {ids : List Nat} {id b : Nat} (h : ow b = none) : moveOw ow ids id b = none := by simp [moveOw, h]
theorem moveOw_ne {ids : List Nat} {id b : Nat} (h : moveOw ow ids id b ≠ none) : ow b ≠ none := fun e => h (moveOw_none e)
theorem moveOw_false {ids : List Nat} {id b j : Nat} (h : ow b = some (false, j)) : ∃ j', moveOw ow ids id b = some (false, j') := by
  unfold moveOw
  rw [h]
  by_cases q : j ∈ ids
  · exact ⟨id, by simp [q]⟩
  · exact ⟨j, by simp [q]⟩
theorem moveOw_keep {ids : List Nat} {id b j : Nat} {r : Bool} (h : ow b = some (r, j)) (hj : j ∉ ids) : moveOw ow ids id b = ow b := by simp [moveOw, h, hj]
theorem moveOw_in {ids : List Nat} {id b j : Nat} {r : Bool} (h : ow b = some (r, j)) (hj : j ∈ ids) : moveOw ow ids id b = some (false, id) := by simp [moveOw, h, hj]

theorem nil_of_not {l : List Nat} (h : (!l.isEmpty) = false) : l = [] := by
  cases l with
  | nil => rfl
  | cons x l => simp at h

theorem kdJoin_cases {k k' : Kd} {mv vi : Bool} (h : kdJoin k mv vi = some k') :
    (k = .flat ∧ mv = false ∧ vi = false ∧ k' = .flat) ∨ (k = .flat ∧ mv = true ∧ vi = false ∧ k' = .deep) ∨ (k = .thin ∧ mv = false ∧ vi = false ∧ k' = .thin) ∨ (k = .deep ∧ vi = false ∧ k' = .deep) ∨ (k = .flat ∧ mv = false ∧ vi = true ∧ k' = .shal) ∨ (k = .shal ∧ mv = false ∧ k' = .shal) := by
  cases k <;> cases mv <;> cases vi <;> simp [kdJoin] at h <;> subst h <;> simp

/-- The kind of a row that takes in more, justified. -/
theorem kd_join {k k' : Kd} {id : Nat} {ids : List Nat} {vi : Bool} {vw : Bool} {b1 b2 b3 bl' : List Nat} (hj : kdJoin k (!ids.isEmpty) vi = some k') (hk : KdOK cx ow vw id (b1 ++ b2 ++ b3) k) (hid : id ∉ ids)
    (h1 : vi = false → ids = [] → bl' = []) (h2 : ids = [] → ∀ b ∈ bl', VOK cx ow vw b) (h3 : vi = false → bl'.Nodup ∧ ∀ b ∈ bl', ∃ j ∈ ids, ∃ r, ow b = some (r, j)) :
    KdOK cx (moveOw ow ids id) vw id (b1 ++ bl' ++ b3) k' := by
  have empty : ∀ {l : List Nat}, (!l.isEmpty) = false → l = [] := by intro l h; cases l <;> simp_all
  have vmove : ∀ b, VOK cx ow vw b → VOK cx (moveOw ow ids id) vw b := fun b hb => hb.mono2 moveOw_none fun j e => .inr (moveOw_false e)
  rcases kdJoin_cases hj with ⟨rfl, m1, rfl, rfl⟩ | ⟨rfl, m1, rfl, rfl⟩ | ⟨rfl, m1, rfl, rfl⟩ | ⟨rfl, rfl, rfl⟩ | ⟨rfl, m1, rfl, rfl⟩ | ⟨rfl, m1, rfl⟩
  · have h0 : b1 ++ b2 ++ b3 = [] := hk
    simp only [List.append_eq_nil_iff] at h0
    show b1 ++ bl' ++ b3 = []
    rw [h0.1.1, h0.2, h1 rfl (empty m1)]; rfl
  · have h0 : b1 ++ b2 ++ b3 = [] := hk
    simp only [List.append_eq_nil_iff] at h0
    rw [h0.1.1, h0.2]
    obtain ⟨q1, q2⟩ := h3 rfl
    refine ⟨by simpa using q1, fun b hb => ?_⟩
    obtain ⟨j, hj, r, e⟩ := q2 b (by simpa using hb)
    exact moveOw_in e hj
  · have h0 : b1 ++ b2 ++ b3 = [] := hk
    simp only [List.append_eq_nil_iff] at h0
    show b1 ++ bl' ++ b3 = []
    rw [h0.1.1, h0.2, h1 rfl (empty m1)]; rfl
  · obtain ⟨q1, q2⟩ := h3 rfl
    have hnd := hk.1
    have hown := hk.2
    have hn := List.nodup_append.1 hnd
    have hn12 := List.nodup_append.1 hn.1
    have cross : ∀ x ∈ bl', ∀ y, ow y = some (false, id) → x ≠ y := by
      intro x hx y hy e
      subst e
      obtain ⟨j, hj, r, e⟩ := q2 x hx
      rw [hy] at e
      simp only [Option.some.injEq, Prod.mk.injEq] at e
      exact hid (e.2 ▸ hj)
    have o1 : ∀ y ∈ b1, ow y = some (false, id) := fun y hy => hown y (by simp [hy])
    have o3 : ∀ y ∈ b3, ow y = some (false, id) := fun y hy => hown y (by simp [hy])
    refine ⟨?_, fun b hb => ?_⟩
    · refine List.nodup_append.2 ⟨List.nodup_append.2 ⟨hn12.1, q1, fun x hx y hy e => cross y hy x (o1 x hx) e.symm⟩, hn.2.1, fun x hx y hy => ?_⟩
      rcases List.mem_append.1 hx with q | q
      · exact hn.2.2 x (List.mem_append_left _ q) y hy
      · exact cross x q y (o3 y hy)
    · rcases List.mem_append.1 hb with hb | hb
      · rcases List.mem_append.1 hb with hb | hb
        · rw [moveOw_keep (o1 b hb) hid]; exact o1 b hb
        · obtain ⟨j, hj, r, e⟩ := q2 b hb; exact moveOw_in e hj
      · rw [moveOw_keep (o3 b hb) hid]; exact o3 b hb
  · have h0 : b1 ++ b2 ++ b3 = [] := hk
    simp only [List.append_eq_nil_iff] at h0
    intro b hb
    rw [h0.1.1, h0.2] at hb
    exact vmove b (h2 (empty m1) b (by simpa using hb))
  · intro b hb
    rcases List.mem_append.1 hb with hb | hb
    · rcases List.mem_append.1 hb with hb | hb
      · exact vmove b (hk b (by simp [hb]))
      · exact vmove b (h2 (empty m1) b hb)
    · exact vmove b (hk b (by simp [hb]))

theorem kdJoin_ne_mix {k k' : Kd} {mv vi : Bool} (h : kdJoin k mv vi = some k') : k ≠ .mix ∧ k' ≠ .mix := by
  rcases kdJoin_cases h with ⟨rfl, _, _, rfl⟩ | ⟨rfl, _, _, rfl⟩ | ⟨rfl, _, _, rfl⟩ | ⟨rfl, _, rfl⟩ | ⟨rfl, _, _, rfl⟩ | ⟨rfl, _, rfl⟩ <;> simp

theorem mu_ne_mix {k : Kd} (h : k ≠ .mix) (μ : Nat → Option Loc) : k.mu μ = M0 := by cases k <;> first | rfl | exact absurd rfl h

theorem store_arr (h : Rel cx s a w μ ow) {K : St → Prop} (T : TypeId) (p x : Operand) (ho : o.op = .store T p x) (hgp : (s.ev p).gd = true) (hgx : (s.ev x).gd = true) (id i off : Nat) (hp : (s.ev p).un = .ptr id i off)
    (xs : List V) (k : Kd) (hO : s.O[id]? = some (.arr xs k)) (v' : V) (ids : List Nat) (vi : Bool) (ht : takeV s (s.ev x).un = some (v', ids, vi)) (hlen : v'.cells.length = P.cellsOf T) (hpos : 0 < P.cellsOf T)
    (hoff : off + P.cellsOf T ≤ (xs.getD i .any).cells.length) (hid : id ∉ ids) (hnd : ids.Nodup) (k' : Kd) (hj : kdJoin k (!ids.isEmpty) vi = some k')
    (hk : K { s with O := killAll (s.O.set id (.arr (xs.set i (setCells (xs.getD i .any) off v')) k')) ids }) :
    ∃ w' s' μ' ow', (execOp a.eval o).run P w = .ok .skip w' ∧ Rel cx s' a w' μ' ow' ∧ s'.n = s.n ∧ K s' := by
  have hsup := h.sup
  obtain ⟨bp, rp, _⟩ := hsup.evu p hgp
  obtain ⟨bx, rx, vx⟩ := hsup.evu x hgx
  rw [hp] at rp
  obtain ⟨l, hl, hi, ep⟩ := rp.ptr_inv
  obtain ⟨bl', t1, t2, t3, t4⟩ := takeV_rep hsup rx vx ht hnd
  obtain ⟨l', q1, q2, q3⟩ := h.blk id _ hO
  rw [hl] at q1
  obtain rfl := Option.some.inj q1
  have hi' : i < xs.length := by omega
  rcases q3 with ⟨_, q3⟩ | ⟨q3, q4, bl, q5, q6, q7⟩
  · subst q3; simp at hi'
  obtain ⟨hk1, hk2⟩ := kdJoin_ne_mix hj
  rw [mu_ne_mix hk1] at q5
  have hz := q5.each
  have hxl : (xs.getD i .any).cells.length = l.sz := hz _ (by simp [hi'])
  rw [hxl] at hoff
  obtain ⟨c, t, vs, g4, g5, g6, g7, g8⟩ := q5.row
  have hvl : vs.length = xs.length * l.sz := by rw [← g6.length, flatMap_len xs l.sz hz]
  have hnews : (a.eval x).cells.toList.length = P.cellsOf T := by rw [← t1.length, hlen]
  have hmul : (i + 1) * l.sz ≤ xs.length * l.sz := Nat.mul_le_mul_right _ hi'
  rw [Nat.add_mul, Nat.one_mul] at hmul
  have hcap : xs.length * l.sz ≤ l.cap * l.sz := Nat.mul_le_mul_right _ (by have := q5.le; omega)
  have hL : (xs.flatMap V.cells).length = xs.length * l.sz := flatMap_len xs l.sz hz
  -- the new cells
  have hset : (xs.set i (setCells (xs.getD i .any) off v')).flatMap V.cells = (xs.flatMap V.cells).take (i * l.sz + off) ++ v'.cells ++ (xs.flatMap V.cells).drop (i * l.sz + off + v'.cells.length) := by
    rw [flatMap_set xs l.sz hz i _ hi', setCells_cells (by rw [hxl, hlen]; exact hoff) (by omega), ← flatMap_elem xs l.sz hz i hi']
    exact seg_set (xs.flatMap V.cells) (i * l.sz) l.sz off v'.cells.length v'.cells rfl (by omega) (by omega)
  have e3 : xs.flatMap V.cells = (xs.flatMap V.cells).take (i * l.sz + off) ++ (((xs.flatMap V.cells).drop (i * l.sz + off)).take v'.cells.length ++ (xs.flatMap V.cells).drop (i * l.sz + off + v'.cells.length)) := by
    rw [show (xs.flatMap V.cells).drop (i * l.sz + off + v'.cells.length) = ((xs.flatMap V.cells).drop (i * l.sz + off)).drop v'.cells.length by rw [List.drop_drop], List.take_append_drop, List.take_append_drop]
  have g6' := g6
  rw [e3] at g6'
  obtain ⟨x1, x23, b1, b23, ev1, eb1, r1, r23⟩ := RepL.split _ _ g6'
  obtain ⟨x2, x3, b2, b3, ev2, eb2, r2, r3⟩ := RepL.split _ _ r23
  have hx1 : x1.length = i * l.sz + off := by rw [← r1.length, List.length_take]; omega
  have hx2 : x2.length = v'.cells.length := by rw [← r2.length, List.length_take, List.length_drop]; omega
  have ebl : bl = b1 ++ b2 ++ b3 := by rw [eb1, eb2, List.append_assoc]
  have etake : vs.take (i * l.sz + off) = x1 := by rw [ev1, ← hx1, List.take_left]
  have edrop : vs.drop (i * l.sz + off + v'.cells.length) = x3 := by rw [ev1, ev2, ← hx1, ← List.drop_drop, List.drop_left, ← hx2, List.drop_left]
  let ow' := moveOw ow ids id
  let news := (a.eval x).cells.toList
  have hnl : news.length = v'.cells.length := by show (a.eval x).cells.toList.length = _; omega
  have hblb : ∀ b ∈ b1 ++ bl' ++ b3, b ≠ l.b := by
    intro b hb e
    subst e
    have hnr : ∀ y, y = l.b → (VOK cx ow s.vw y → False) := fun y hy hv => by subst hy; exact hv.not_root q4
    have hold : ∀ y ∈ bl, y = l.b → False := by
      intro y hy e
      subst e
      cases k with
      | flat | thin => have : bl = [] := q6; rw [this] at hy; cases hy
      | deep => have := q6.2 _ hy; rw [q4] at this; cases this
      | shal => exact hnr _ rfl (q6 _ hy)
      | mix => exact absurd rfl hk1
    rcases List.mem_append.1 hb with hb | hb
    · rcases List.mem_append.1 hb with hb | hb
      · exact hold _ (by rw [ebl]; simp [hb]) rfl
      · cases vi with
        | false =>
          obtain ⟨j, hj1, r, e⟩ := (t4 rfl).2 _ hb
          rw [q4] at e
          simp only [Option.some.injEq, Prod.mk.injEq] at e
          exact hid (e.2 ▸ hj1)
        | true =>
          have hnil : ids = [] := by
            rcases kdJoin_cases hj with ⟨_, _, e, _⟩ | ⟨_, _, e, _⟩ | ⟨_, _, e, _⟩ | ⟨_, e, _⟩ | ⟨_, m1, _, _⟩ | ⟨_, m1, _⟩
            · cases e
            · cases e
            · cases e
            · cases e
            · exact nil_of_not m1
            · exact nil_of_not m1
          exact hnr _ rfl (t3.2 hnil _ hb)
    · exact hold _ (by rw [ebl]; simp [hb]) rfl
  have hvs' : vs.take (i * l.sz + off) ++ news ++ vs.drop (i * l.sz + off + news.length) = x1 ++ news ++ x3 := by rw [etake, hnl, edrop]
  have hx3 : x3.length = vs.length - (i * l.sz + off + v'.cells.length) := by rw [← edrop, List.length_drop]
  have hsl : ∀ y, y ∈ xs.set i (setCells (xs.getD i .any) off v') → y.cells.length = l.sz := by
    intro y hy
    rcases List.mem_or_eq_of_mem_set hy with q | q
    · exact hz y q
    · subst q
      rw [setCells_cells (by rw [hxl, hlen]; exact hoff) (by omega)]
      simp only [List.length_append, List.length_take, List.length_drop, hxl]
      omega
  have hcells := cells_put (μ' := M0) (l := l) (xs' := xs.set i (setCells (xs.getD i .any) off v')) (bl' := b1 ++ bl' ++ b3) (o := i * l.sz + off) (news := news) (vs := vs) (vs' := x1 ++ news ++ x3) c t g4 g5 q5.sz g7 g8
    (by rw [List.length_set]; have := q5.le; omega) (by rw [hnl]; omega) hsl t2 (by rw [hset]; exact (r1.append t1).append r3) (by rw [hvs', List.take_length]) (by omega) hblb
  have hlset : ({ l with n := (xs.set i (setCells (xs.getD i .any) off v')).length } : Loc) = l := by rw [List.length_set, ← q2]
  rw [hlset] at hcells
  have hrun : (Instr.storeAt T (a.eval p) (a.eval x)).run P w = .ok () (w.setRow l.b (c.toList.take (l.off + (i * l.sz + off)) ++ news ++ c.toList.drop (l.off + (i * l.sz + off) + news.length)).toArray) := by
    rw [ep]
    exact run_storeVar g4 hpos (by simpa using hnews) (by rw [← Array.length_toList, show (a.eval x).cells.toList.length = v'.cells.length from hnl]; omega) t2
  have hlid : id < s.O.length := by
    rcases Nat.lt_or_ge id s.O.length with q | q
    · exact q
    · rw [List.getElem?_eq_none q] at hO; cases hO
  refine ⟨_, { s with O := killAll (s.O.set id (.arr (xs.set i (setCells (xs.getD i .any) off v')) k')) ids }, μ, ow', run_op_u ho rfl hrun, ?_, rfl, hk⟩
  refine h.mut (O' := killAll (s.O.set id (.arr (xs.set i (setCells (xs.getD i .any) off v')) k')) ids) (fun j => j = id) (MLe.refl μ) ?_ ?_ ?_ rfl rfl rfl (fun x _ => frozen_setRow _ _ _ x) ?_ ?_ ?_ ?_ ?_
  · intro j hj
    rw [killAll_len, List.length_set] at hj
    exact h.dom j hj
  · simp
  · intro b hb hnt
    refine setRow_other w l.b b _ fun e => ?_
    subst e
    exact hnt id q4 rfl
  · exact fun b _ e => moveOw_none e
  · exact fun b j e => .inr (moveOw_false e)
  · intro j bk e
    by_cases hd : bk = .dead
    · subst hd; exact .inr trivial
    · obtain ⟨e1, e2⟩ := killAll_get ids _ j bk e hd
      by_cases hjid : j = id
      · subst hjid
        rw [List.getElem?_set_self hlid] at e1
        simp only [Option.some.injEq] at e1
        subst e1
        right
        refine ⟨l, hl, by rw [List.length_set]; exact q2, .inr ⟨q3, (moveOw_keep q4 hid).trans q4, _, by rw [mu_ne_mix hk2]; exact hcells, ?_, fun _ q => by have := congrArg List.length q; simp at this; subst this; simp at hi'⟩⟩
        exact kd_join hj (by rw [← ebl]; exact q6) hid t3.1 t3.2 t4
      · left
        rw [List.getElem?_set_ne (fun q => hjid q.symm)] at e1
        exact ⟨e1, hjid, fun b r eb => moveOw_keep eb e2⟩
  · intro b hb
    exact (h.owl b (moveOw_ne hb)).setRow
  · exact fun b hb => .inl (moveOw_ne hb)


theorem kindAll_mu {xs : List V} {vs : List Value} {bl : List Nat} {μ : Nat → Option Loc} (c1 : RepL w μ (xs.flatMap V.cells) vs bl) : RepL w ((kindAll xs).mu μ) (xs.flatMap V.cells) vs bl := by
  unfold kindAll
  by_cases q : xs.all V.noRef = true
  · rw [if_pos q]; split <;> exact noRef_all c1 q
  · rw [if_neg q]; exact c1

theorem kindAll_ok {xs : List V} {vs : List Value} {bl : List Nat} {μ : Nat → Option Loc} {id : Nat} {vw : Bool} (c1 : RepL w μ (xs.flatMap V.cells) vs bl) (hv : ∀ b ∈ bl, VOK cx ow vw b) : KdOK cx ow vw id bl (kindAll xs) := by
  unfold kindAll
  by_cases q : xs.all V.noRef = true
  · rw [if_pos q]
    by_cases q2 : xs.all V.noSl = true
    · rw [if_pos q2]; exact noSl_all c1 q2
    · rw [if_neg q2]; exact hv
  · rw [if_neg q]; exact hv

theorem store_box (h : Rel cx s a w μ ow) {K : St → Prop} (T : TypeId) (p x : Operand) (ho : o.op = .store T p x) (hgp : (s.ev p).gd = true) (hgx : (s.ev x).gd = true) (id off : Nat) (hp : (s.ev p).un = .ptr id 0 off)
    (y : V) (k : Kd) (hO : s.O[id]? = some (.box y k)) (hval : (settle s.O.length (s.ev x).un).1.isVal = true) (hlen : (settle s.O.length (s.ev x).un).1.cells.length = P.cellsOf T) (hpos : 0 < P.cellsOf T)
    (hoff : off + P.cellsOf T ≤ y.cells.length) (hdeep : k = .deep → (settle s.O.length (s.ev x).un).1.noSl = true ∧ (settle s.O.length (s.ev x).un).1.noRef = true)
    (hk : K { s with O := s.O.set id (.box (setCells y off (settle s.O.length (s.ev x).un).1) (if k = .deep then .deep else kindOf (setCells y off (settle s.O.length (s.ev x).un).1))) ++ (settle s.O.length (s.ev x).un).2 }) :
    ∃ w' s' μ' ow', (execOp a.eval o).run P w = .ok .skip w' ∧ Rel cx s' a w' μ' ow' ∧ s'.n = s.n ∧ K s' := by
  have hsup := h.sup
  obtain ⟨bp, rp, _⟩ := hsup.evu p hgp
  obtain ⟨bx, rx, vx⟩ := hsup.evu x hgx
  rw [hp] at rp
  obtain ⟨l0, hl, hi, ep⟩ := rp.ptr_inv
  generalize hv : (s.ev x).un = v at *
  obtain ⟨l, q1, q2, q3⟩ := h.blk id _ hO
  rw [hl] at q1
  obtain rfl := Option.some.inj q1
  rcases q3 with ⟨_, q3⟩ | ⟨q3, q4, bl, q5, q6, q7⟩
  · cases q3
  let nid := s.O.length
  let sx := (settle nid v).1
  let pre := (settle nid v).2
  let μ' : Nat → Option Loc := fun j => if nid ≤ j then (if j < nid + pre.length then some nilLoc else none) else μ j
  have hm : MLe μ μ' := by
    intro j l e
    have : ¬ nid ≤ j := fun hle => by rw [h.dom j hle] at e; cases e
    simp [μ', this, e]
  have rsx : Rep w μ' sx (a.eval x) bx := settle_rep hm rx fun j hj => by
    have h1 : nid ≤ nid + j := by omega
    have h2 : nid + j < nid + pre.length := by show _ < _ + (settle nid v).2.length; omega
    simp [μ', h1, h2]
  obtain ⟨t1, t2⟩ := rsx.cells hval
  have hyl : y.cells.length = l0.sz := q5.each _ (List.mem_cons_self ..)
  obtain ⟨c, t, vs, g4, g5, g6, g7, g8⟩ := q5.row
  have g6' : RepL w (k.mu μ) y.cells vs bl := by simpa using g6
  have hvl : vs.length = l0.sz := by rw [← g6'.length, hyl]
  have hnews : (a.eval x).cells.toList.length = P.cellsOf T := by rw [← t1.length]; exact hlen
  have hn1 : l0.n = 1 := q2
  have hcap : l0.sz ≤ l0.cap * l0.sz := Nat.le_mul_of_pos_left _ (by have := q5.le; omega)
  have hkle : RepL w μ' y.cells vs bl := g6'.keep ((k.mu_le μ).trans hm) fun _ _ => rfl
  have hsl : sx.cells.length = P.cellsOf T := hlen
  have hc' : (setCells y off sx).cells = y.cells.take off ++ sx.cells ++ y.cells.drop (off + sx.cells.length) := setCells_cells (by omega) (by omega)
  have e3 : y.cells = y.cells.take off ++ ((y.cells.drop off).take sx.cells.length ++ y.cells.drop (off + sx.cells.length)) := by
    rw [show y.cells.drop (off + sx.cells.length) = (y.cells.drop off).drop sx.cells.length by rw [List.drop_drop], List.take_append_drop, List.take_append_drop]
  -- the cells, split
  have split : ∀ {μ0 : Nat → Option Loc}, RepL w μ0 y.cells vs bl → ∃ b1 b2 b3, bl = b1 ++ b2 ++ b3 ∧ RepL w μ0 (y.cells.take off) (vs.take off) b1 ∧ RepL w μ0 (y.cells.drop (off + sx.cells.length)) (vs.drop (off + sx.cells.length)) b3 := by
    intro μ0 hr
    rw [e3] at hr
    obtain ⟨x1, x23, b1, b23, ev1, eb1, r1, r23⟩ := RepL.split _ _ hr
    obtain ⟨x2, x3, b2, b3, ev2, eb2, r2, r3⟩ := RepL.split _ _ r23
    have hx1 : x1.length = off := by rw [← r1.length, List.length_take]; omega
    have hx2 : x2.length = sx.cells.length := by rw [← r2.length, List.length_take, List.length_drop]; omega
    have etake : vs.take off = x1 := by rw [ev1, ← hx1, List.take_left]
    have edrop : vs.drop (off + sx.cells.length) = x3 := by rw [ev1, ev2, ← hx1, ← List.drop_drop, List.drop_left, ← hx2, List.drop_left]
    refine ⟨b1, b2, b3, by rw [eb1, eb2, List.append_assoc], by rw [etake]; exact r1, by rw [edrop]; exact r3⟩
  let news := (a.eval x).cells.toList
  have hnl : news.length = sx.cells.length := by show (a.eval x).cells.toList.length = _; omega
  have viewne : ∀ b, VOK cx ow s.vw b → b ≠ l0.b := fun b hb e => by subst e; exact hb.not_root q4
  have oldne : ∀ b ∈ bl, b ≠ l0.b := by
    intro b hb e
    cases k with
    | flat | thin => have : bl = [] := q6; rw [this] at hb; cases hb
    | deep => have := q6.2 _ hb; rw [e, q4] at this; cases this
    | shal => exact viewne _ (q6 _ hb) e
    | mix => exact viewne _ (q6 _ hb) e
  have hx' : (setCells y off sx).cells.length = l0.sz := by rw [hc']; simp only [List.length_append, List.length_take, List.length_drop]; omega
  have hlid : id < s.O.length := by
    rcases Nat.lt_or_ge id s.O.length with q | q
    · exact q
    · rw [List.getElem?_eq_none q] at hO; cases hO
  have hrun : (Instr.storeAt T (a.eval p) (a.eval x)).run P w = .ok () (w.setRow l0.b (c.toList.take (l0.off + off) ++ news ++ c.toList.drop (l0.off + off + news.length)).toArray) := by
    rw [ep, Nat.zero_mul, Nat.zero_add]
    exact run_storeVar (P := P) (off := l0.off + off) (T := T) (v := a.eval x) g4 hpos (by simpa using hnews) (by rw [← Array.length_toList, hnews]; omega) t2
  -- the new row, for the kind that it gets
  have row' : ∃ bl'', RepL w ((if k = .deep then Kd.deep else kindOf (setCells y off sx)).mu μ') (setCells y off sx).cells (vs.take off ++ news ++ vs.drop (off + news.length)) bl'' ∧ (∀ b ∈ bl'', b ≠ l0.b) ∧
      KdOK cx ow s.vw id bl'' (if k = .deep then Kd.deep else kindOf (setCells y off sx)) := by
    by_cases hd : k = .deep
    · subst hd
      obtain ⟨n1, n2⟩ := hdeep rfl
      have hb0 : bx = [] := noSl_nil rsx n1
      have t1' : RepL w M0 sx.cells news [] := by
        have := noRef_all (xs := [sx]) (vs := news) (bl := bx) (μ := μ') (w := w) (by simpa using t1) (by simpa using n2)
        rw [hb0] at this
        simpa using this
      obtain ⟨b1, b2, b3, eb, s1, s3⟩ := split (μ0 := M0) g6'
      refine ⟨b1 ++ [] ++ b3, ?_, ?_, ?_⟩
      · rw [hc', hnl]; exact (s1.append t1').append s3
      · intro b hb
        refine oldne b ?_
        rw [eb]
        simp only [List.append_nil, List.mem_append] at hb ⊢
        rcases hb with q | q
        · exact .inl (.inl q)
        · exact .inr q
      · rw [if_pos rfl]
        have hsub : List.Sublist (b1 ++ [] ++ b3) bl := by
          rw [eb, List.append_nil, List.append_assoc]
          exact (List.Sublist.refl b1).append (List.sublist_append_right b2 b3)
        exact ⟨hsub.nodup q6.1, fun b hb => q6.2 b (hsub.subset hb)⟩
    · rw [if_neg hd]
      obtain ⟨b1, b2, b3, eb, s1, s3⟩ := split hkle
      have hfull : RepL w μ' ([setCells y off sx].flatMap V.cells) (vs.take off ++ news ++ vs.drop (off + news.length)) (b1 ++ bx ++ b3) := by
        simp only [List.flatMap_cons, List.flatMap_nil, List.append_nil]
        rw [hc', hnl]
        exact (s1.append t1).append s3
      have hviews : ∀ b ∈ b1 ++ bx ++ b3, VOK cx ow s.vw b := by
        have hold : ∀ b ∈ bl, VOK cx ow s.vw b := by
          cases k with
          | flat | thin => have : bl = [] := q6; rw [this]; simp
          | deep => exact absurd rfl hd
          | shal => exact q6
          | mix => exact q6
        intro b hb
        rcases List.mem_append.1 hb with hb | hb
        · rcases List.mem_append.1 hb with hb | hb
          · exact hold b (by rw [eb]; simp [hb])
          · exact vx b hb
        · exact hold b (by rw [eb]; simp [hb])
      refine ⟨b1 ++ bx ++ b3, ?_, fun b hb => viewne b (hviews b hb), kindAll_ok hfull hviews⟩
      have := kindAll_mu hfull
      simpa [kindOf] using this
  obtain ⟨bl'', k1, k2, k3⟩ := row'
  have hcells := cells_put (l := l0) (xs' := [setCells y off sx]) (bl' := bl'') (o := off) (news := news) (vs := vs) (vs' := vs.take off ++ news ++ vs.drop (off + news.length)) c t g4 g5 q5.sz g7 g8
    (by have := q5.le; simp only [List.length_singleton]; omega) (by rw [hnl]; omega) (by intro z hz; simp only [List.mem_singleton] at hz; subst hz; exact hx') t2 (by simpa using k1) (by rw [List.take_length]) (by omega) k2
  have hlset : ({ l0 with n := [setCells y off sx].length } : Loc) = l0 := by rw [List.length_singleton, ← hn1]
  rw [hlset] at hcells
  refine ⟨_, { s with O := s.O.set id (.box (setCells y off sx) (if k = .deep then .deep else kindOf (setCells y off sx))) ++ pre }, μ', ow, run_op_u ho rfl hrun, ?_, rfl, hk⟩
  refine h.mut (O' := s.O.set id (.box (setCells y off sx) (if k = .deep then .deep else kindOf (setCells y off sx))) ++ pre) (fun j => j = id) hm ?_ ?_ ?_ rfl rfl rfl (fun x _ => frozen_setRow _ _ _ x) ?_ ?_ ?_ ?_ ?_
  · intro j hj
    rw [List.length_append, List.length_set] at hj
    have h1 : nid ≤ j := by show s.O.length ≤ j; omega
    have h2 : ¬ j < nid + pre.length := by show ¬ j < s.O.length + _; omega
    simp [μ', h1, h2]
  · simp
  · intro b hb hnt
    refine setRow_other w l0.b b _ fun e => ?_
    subst e
    exact hnt id q4 rfl
  · exact fun b _ e => e
  · exact fun b j e => .inr ⟨j, e⟩
  · intro j bk e
    by_cases hjl : j < s.O.length
    · rw [List.getElem?_append_left (by rw [List.length_set]; exact hjl)] at e
      by_cases hjid : j = id
      · subst hjid
        rw [List.getElem?_set_self hlid] at e
        simp only [Option.some.injEq] at e
        subst e
        right
        exact ⟨l0, hm _ _ hl, hn1, .inr ⟨q3, q4, bl'', hcells, k3, fun _ => by simp⟩⟩
      · left
        rw [List.getElem?_set_ne (fun q => hjid q.symm)] at e
        exact ⟨e, hjid, fun b r eb => rfl⟩
    · right
      rw [List.getElem?_append_right (by rw [List.length_set]; omega), List.length_set] at e
      have hlt : j - s.O.length < pre.length := by
        rcases Nat.lt_or_ge (j - s.O.length) pre.length with q | q
        · exact q
        · rw [List.getElem?_eq_none q] at e; cases e
      rw [settle_new e]
      refine blk_nil ?_
      have h1 : nid ≤ j := by show s.O.length ≤ j; omega
      have h2 : j < nid + pre.length := by show j < s.O.length + _; omega
      simp [μ', h1, h2]
  · intro b hb
    exact (h.owl b hb).setRow
  · exact fun b hb => .inl hb

theorem store_sound (h : Rel cx s a w μ ow) {K : St → Prop} (T : TypeId) (p x : Operand) (ho : o.op = .store T p x) (hgp : (s.ev p).gd = true) (hgx : (s.ev x).gd = true) (hk : aStore P s T K (s.ev p).un (s.ev x).un) :
    ∃ w' s' μ' ow', (execOp a.eval o).run P w = .ok .skip w' ∧ Rel cx s' a w' μ' ow' ∧ s'.n = s.n ∧ K s' := by
  unfold aStore at hk
  split at hk
  · rename_i id i off hp
    split at hk
    · rename_i y k hO
      obtain ⟨⟨h1, h2, h3, h4, h5, h6⟩, hk⟩ := hk
      subst h4
      exact store_box h T p x ho hgp hgx id off hp y k hO h1 h2 h3 h5 h6 hk
    · rename_i xs k hO
      split at hk
      · rename_i v' ids vi ht
        obtain ⟨⟨h1, h2, h3, h4, h5⟩, hk⟩ := hk
        split at hk
        · rename_i k' hj
          exact store_arr h T p x ho hgp hgx id i off hp xs k hO v' ids vi ht h1 h2 h3 h4 h5 k' hj hk
        · exact hk.elim
      · exact hk.elim
    · exact hk.elim
  · exact hk.elim

end
end Go.Vm
