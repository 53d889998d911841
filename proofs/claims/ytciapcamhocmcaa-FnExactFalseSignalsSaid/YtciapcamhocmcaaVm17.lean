/- The value machine, part 17: reckoning with it. -/
import Derived.Test.YtciapcamhocmcaaVm16
set_option linter.unusedSimpArgs false
set_option linter.unusedVariables false
namespace Go.Vm
open Go

theorem wrap64 {n : Int} (h : -9223372036854775808 ≤ n) (h2 : n ≤ 9223372036854775807) : IntKind.i64.wrap n = n := by
  rw [IntKind.wrap_i64]
  omega
/-- An element that is there. -/
theorem getD_map {α : Type} {f : α → V} {l : List α} {i : Nat} {x : α} (h : l[i]? = some x) : (l.map f).getD i .any = f x := by
  rw [List.getD_eq_getElem?_getD, List.getElem?_map, h]; rfl

theorem look_nil (t : Nat) : look t [] = .any := rfl
theorem look_cons (t k : Nat) (v : V) (l : List (Nat × V)) : look t ((k, v) :: l) = if t = k then v else look t l := by
  simp only [look]
  cases e : Nat.beq t k with
  | true => simp [Nat.eq_of_beq_eq_true e]
  | false =>
    have : ¬ t = k := fun q => by rw [q, Nat.beq_refl] at e; cases e
    simp [this]

/-- Only these slots are remembered, in this order. -/
def St.keep (ks : List Nat) (s : St) : St := { s with env := ks.map fun t => (t, s.get t) }
def keepE (env : List (Nat × V)) : List Nat → List (Nat × V)
  | [] => []
  | t :: ks => (t, look t env) :: keepE env ks
theorem keepE_eq (env : List (Nat × V)) (ks : List Nat) : keepE env ks = ks.map fun t => (t, look t env) := by
  induction ks with
  | nil => rfl
  | cons t ks ih => rw [keepE, ih]; rfl
theorem keep_mk (ks : List Nat) (env : List (Nat × V)) (O : List Blk) (vw : Bool) (n m : Nat) : St.keep ks ⟨env, O, vw, n, m⟩ = ⟨keepE env ks, O, vw, n, m⟩ := by
  rw [keepE_eq]; rfl
theorem keepE_nil (env : List (Nat × V)) : keepE env [] = [] := rfl
theorem keepE_cons (env : List (Nat × V)) (t : Nat) (ks : List Nat) : keepE env (t :: ks) = (t, look t env) :: keepE env ks := rfl

theorem look_map (f : Nat → V) : ∀ (ks : List Nat) (t : Nat), look t (ks.map fun t => (t, f t)) = f t ∨ look t (ks.map fun t => (t, f t)) = .any
  | [], _ => .inr rfl
  | k :: ks, t => by
    rw [List.map_cons, look_cons]
    by_cases e : t = k
    · rw [if_pos e, e]; exact .inl rfl
    · rw [if_neg e]; exact look_map f ks t

theorem weak_refl (m : Nat) (s : St) : Weak m s s := fun _ _ _ _ _ _ h => ⟨_, _, h⟩
theorem weak_trans {m : Nat} {s t u : St} (h : Weak m s t) (k : Weak m t u) : Weak m s u := fun cx a w μ ow hm hr =>
  let ⟨_, _, h1⟩ := h cx a w μ ow hm hr
  k cx a w _ _ hm h1
theorem weak_keep {m : Nat} (ks : List Nat) (s : St) : Weak m s (s.keep ks) := fun _ _ _ _ _ _ h =>
  ⟨_, _, h.forget (m := s.mask) fun t => look_map s.get ks t⟩
theorem weak_of {m : Nat} {s s' : St} (ks : List Nat) (e : s.keep ks = s') : Weak m s s' := e ▸ weak_keep ks s

theorem get_mk (env : List (Nat × V)) (O : List Blk) (vw : Bool) (n m t : Nat) : St.get ⟨env, O, vw, n, m⟩ t = look t env := rfl
theorem set_some (env : List (Nat × V)) (O : List Blk) (vw : Bool) (n m t : Nat) (v : V) : St.set ⟨env, O, vw, n, m⟩ (some t) v = ⟨(t, v) :: env, O, vw, n, m⟩ := rfl
theorem set_none (s : St) (v : V) : St.set s none v = s := rfl
theorem ev_tmp (s : St) (t : Nat) : s.ev (.tmp t) = s.get t := rfl
theorem ev_const (s : St) (v : Value) : s.ev (.const v) = V.ofValue v := rfl
theorem ev_func (s : St) (f : Nat) : s.ev (.func f) = .fn f [] := rfl
theorem dst_some (t n : Nat) : dstOK (some t) n ↔ t < n := Iff.rfl
theorem dst_none (n : Nat) : dstOK none n ↔ True := Iff.rfl
theorem row_mk (env : List (Nat × V)) (O : List Blk) (vw : Bool) (n m id : Nat) : St.row ⟨env, O, vw, n, m⟩ id = (O[id]?).bind Blk.row := rfl

theorem settle_int (n : Nat) (k : IntKind) (x : Int) : settle n (.int k x) = (.int k x, []) := rfl
theorem settle_bool (n : Nat) (x : Bool) : settle n (.bool x) = (.bool x, []) := rfl
theorem settle_str (n : Nat) (x : ByteArray) : settle n (.str x) = (.str x, []) := rfl
theorem settle_nsl (n : Nat) : settle n .nsl = (.ref n, [.arr [] .flat]) := rfl
theorem settle_sl (n : Nat) (x : List V) : settle n (.sl x) = (.sl x, []) := rfl
theorem settle_ref (n id : Nat) : settle n (.ref id) = (.ref id, []) := rfl
theorem settle_sub (n id a b : Nat) : settle n (.sub id a b) = (.sub id a b, []) := rfl
theorem settle_ptr (n id a b : Nat) : settle n (.ptr id a b) = (.ptr id a b, []) := rfl
theorem settle_pv (n : Nat) (xs : List V) (a b : Nat) : settle n (.pv xs a b) = (.pv xs a b, []) := rfl
theorem settle_tup (n : Nat) (xs : List V) : settle n (.tup xs) = (.tup xs, []) := rfl
theorem settle_fn (n f : Nat) (xs : List V) : settle n (.fn f xs) = (.fn f xs, []) := rfl
theorem settle_npt (n : Nat) : settle n .npt = (.npt, []) := rfl
theorem settle_agg (n : Nat) (xs : List V) : settle n (.agg xs) = (.agg (settleL n xs).1, (settleL n xs).2) := rfl
theorem settleL_nil (n : Nat) : settleL n [] = ([], []) := rfl
theorem settleL_nsl (n : Nat) (l : List V) : settleL n (.nsl :: l) = (.ref n :: (settleL (n + 1) l).1, .arr [] .flat :: (settleL (n + 1) l).2) := rfl
theorem settleL_int (n : Nat) (k : IntKind) (x : Int) (l : List V) : settleL n (.int k x :: l) = (.int k x :: (settleL n l).1, (settleL n l).2) := rfl
theorem settleL_bool (n : Nat) (x : Bool) (l : List V) : settleL n (.bool x :: l) = (.bool x :: (settleL n l).1, (settleL n l).2) := rfl
theorem settleL_str (n : Nat) (x : ByteArray) (l : List V) : settleL n (.str x :: l) = (.str x :: (settleL n l).1, (settleL n l).2) := rfl
theorem settleL_sl (n : Nat) (x : List V) (l : List V) : settleL n (.sl x :: l) = (.sl x :: (settleL n l).1, (settleL n l).2) := rfl
theorem settleL_ref (n x : Nat) (l : List V) : settleL n (.ref x :: l) = (.ref x :: (settleL n l).1, (settleL n l).2) := rfl

mutual
theorem ren_only {p : Nat → Bool} {ρ : Nat → Nat} (hp : ∀ id, p id = true → ρ id = id) : ∀ {v : V}, v.only p = true → v.ren ρ = v
  | .int _ _, _ | .bool _, _ | .str _, _ | .nsl, _ | .sl _, _ | .pv _ _ _, _ | .npt, _ | .nfn, _ | .any, _ => by simp [V.ren]
  | .ref id, h => by rw [V.only] at h; rw [V.ren, hp id h]
  | .sub id _ _, h => by rw [V.only] at h; rw [V.ren, hp id h]
  | .ptr id _ _, h => by rw [V.only] at h; rw [V.ren, hp id h]
  | .fn f cs, h => by rw [V.only] at h; rw [V.ren, ren_onlyL hp h]
  | .agg cs, h => by rw [V.only] at h; rw [V.ren, ren_onlyL hp h]
  | .tup cs, h => by rw [V.only] at h; rw [V.ren, ren_onlyL hp h]
  | .opt g v, h => by rw [V.only] at h; rw [V.ren, ren_only hp h]
theorem ren_onlyL {p : Nat → Bool} {ρ : Nat → Nat} (hp : ∀ id, p id = true → ρ id = id) : ∀ {vs : List V}, V.onlyL p vs = true → V.renL ρ vs = vs
  | [], _ => by rw [V.renL]
  | v :: vs, h => by rw [V.onlyL, Bool.and_eq_true] at h; rw [V.renL, ren_only hp h.1, ren_onlyL hp h.2]
end

theorem refs1_only {v : V} (h : v.only (fun _ => false) = true) : refs1 v = [] := by
  cases v <;> simp_all [refs1, V.only]
theorem refs1s_only : ∀ {l : List V}, V.onlyL (fun _ => false) l = true → l.flatMap refs1 = []
  | [], _ => rfl
  | v :: l, h => by rw [V.onlyL, Bool.and_eq_true] at h; rw [List.flatMap_cons, refs1_only h.1, refs1s_only h.2]; rfl
theorem refs2_only {v : V} (h : v.only (fun _ => false) = true) : refs2 v = [] := by
  cases v with
  | agg cs => rw [V.only] at h; exact refs1s_only h
  | _ => exact refs1_only h
theorem refs2s_only : ∀ {l : List V}, V.onlyL (fun _ => false) l = true → l.flatMap refs2 = []
  | [], _ => rfl
  | v :: l, h => by rw [V.onlyL, Bool.and_eq_true] at h; rw [List.flatMap_cons, refs2_only h.1, refs2s_only h.2]; rfl
theorem refsOf_only {v : V} (h : v.only (fun _ => false) = true) : refsOf v = [] := by
  cases v with
  | tup cs => rw [V.only] at h; exact refs2s_only h
  | _ => exact refs2_only h

mutual
theorem only_mono {p q : Nat → Bool} (hp : ∀ id, p id = true → q id = true) : ∀ {v : V}, v.only p = true → v.only q = true
  | .int _ _, _ | .bool _, _ | .str _, _ | .nsl, _ | .sl _, _ | .pv _ _ _, _ | .npt, _ | .nfn, _ | .any, _ => by simp [V.only]
  | .ref id, h => by rw [V.only] at h ⊢; exact hp id h
  | .sub id _ _, h => by rw [V.only] at h ⊢; exact hp id h
  | .ptr id _ _, h => by rw [V.only] at h ⊢; exact hp id h
  | .fn f cs, h => by rw [V.only] at h ⊢; exact onlyL_mono hp h
  | .agg cs, h => by rw [V.only] at h ⊢; exact onlyL_mono hp h
  | .tup cs, h => by rw [V.only] at h ⊢; exact onlyL_mono hp h
  | .opt g v, h => by rw [V.only] at h ⊢; exact only_mono hp h
theorem onlyL_mono {p q : Nat → Bool} (hp : ∀ id, p id = true → q id = true) : ∀ {vs : List V}, V.onlyL p vs = true → V.onlyL q vs = true
  | [], _ => by rw [V.onlyL]
  | v :: vs, h => by rw [V.onlyL, Bool.and_eq_true] at h ⊢; exact ⟨only_mono hp h.1, onlyL_mono hp h.2⟩
end

theorem look_ren (ρ : Nat → Nat) : ∀ (l : List (Nat × V)) (t : Nat), look t (l.map fun p => (p.1, p.2.ren ρ)) = (look t l).ren ρ
  | [], _ => by simp [look, V.ren]
  | (k, v) :: l, t => by
    rw [List.map_cons, look_cons, look_cons, look_ren ρ l t]
    split <;> rfl
theorem look_only {p : Nat → Bool} : ∀ {l : List (Nat × V)}, (∀ q ∈ l, q.2.only p = true) → ∀ t, (look t l).only p = true
  | [], _, t => by simp [look, V.only]
  | (k, v) :: l, h, t => by
    rw [look_cons]
    split
    · exact h (k, v) (List.mem_cons_self ..)
    · exact look_only (fun q hq => h q (List.mem_cons_of_mem _ hq)) t

/-- Only these blocks are remembered, in this order. -/
def St.comp (ids : List Nat) (s : St) : St := { s with env := s.env.map fun p => (p.1, p.2.ren fun id => (idx ids id).getD 0), O := ids.map fun id => s.O.getD id .dead }

theorem weak_comp {m : Nat} {s : St} (ids : List Nat) (hn : ids.Nodup) (hm : ∀ j, j < m → ids[j]? = some j) (he : ∀ p ∈ s.env, p.2.only (fun id => (idx ids id).isSome) = true)
    (hb : ∀ id ∈ ids, ∀ bk, s.O[id]? = some bk → bk.kindIs (fun k => k != .mix) = true) : Weak m s (s.comp ids) := by
  intro cx a w μ ow hmu h
  let ρ : Nat → Nat := fun id => (idx ids id).getD 0
  let μ' : Nat → Option Loc := fun j => (ids[j]?).bind μ
  let ow' : Ow := fun b => match ow b with
    | some (r, id) => (idx ids id).map fun j => (r, j)
    | none => none
  have o0 : ∀ b, ow b = none → ow' b = none := fun b e => by simp [ow', e]
  have o1 : ∀ b id, ow b = some (false, id) → ow' b = none ∨ ∃ id', ow' b = some (false, id') := fun b id e => by
    cases q : idx ids id with
    | none => exact .inl (by simp [ow', e, q])
    | some j => exact .inr ⟨j, by simp [ow', e, q]⟩
  have oin : ∀ b r id j, ow b = some (r, id) → idx ids id = some j → ow' b = some (r, j) := fun b r id j e q => by simp [ow', e, q]
  have one : ∀ b, ow' b ≠ none → ow b ≠ none := fun b hb e => hb (o0 b e)
  have hμ : ∀ id l, (idx ids id).isSome = true → μ id = some l → μ' (ρ id) = some l := by
    intro id l hs e
    obtain ⟨j, hj⟩ := Option.isSome_iff_exists.1 hs
    have := idx_spec hj
    simp [μ', ρ, hj, this, e]
  refine ⟨μ', ow', h.dfr, h.sz, fun t => ?_, fun j bk e => ?_, fun j hj => ?_, fun b hb => h.owl b (one b hb), fun b hb => h.own b (one b hb), h.frm, fun id l e => ?_⟩
  · obtain ⟨bl, r1, r2⟩ := h.env t
    show ∃ bl, Rep w μ' (look t (s.env.map _)) _ bl ∧ _
    rw [look_ren]
    let μ2 : Nat → Option Loc := fun id => if (idx ids id).isSome then μ id else none
    have r1' : Rep w μ2 (look t s.env) (a.tmps.getD t undef) bl := Rep.only (p := fun id => (idx ids id).isSome) (fun id l hp e => by simp only [μ2, hp, if_true]; exact e) r1 (look_only he t)
    refine ⟨bl, Rep.ren (ρ := ρ) (fun id l e => ?_) r1', fun b hb => (r2 b hb).mono2 (o0 b) (o1 b)⟩
    by_cases q : (idx ids id).isSome = true
    · exact hμ id l q (by simpa [μ2, q] using e)
    · simp [μ2, q] at e
  · have e' : (ids[j]?).map (fun id => s.O.getD id .dead) = some bk := by rw [← List.getElem?_map]; exact e
    rw [Option.map_eq_some_iff] at e'
    obtain ⟨id, hid, hbk⟩ := e'
    have hix : idx ids id = some j := idx_get hn hid
    cases hO : s.O[id]? with
    | none =>
      rw [List.getD_eq_getElem?_getD, hO] at hbk
      simp only [Option.getD_none] at hbk
      subst hbk
      trivial
    | some bk' =>
      rw [List.getD_eq_getElem?_getD, hO] at hbk
      simp only [Option.getD_some] at hbk
      subst hbk
      have hblk := h.blk id bk' hO
      have hbm := hb id (List.mem_of_getElem? hid) bk' hO
      have key : ∀ xs k, k ≠ .mix → RowOK cx w μ ow s.vw id xs k → RowOK cx w μ' ow' s.vw j xs k := by
        intro xs k hk ⟨l, q1, q2, q3⟩
        have q1' : μ' j = some l := by simp [μ', hid, q1]
        refine ⟨l, q1', q2, ?_⟩
        rcases q3 with q3 | ⟨q3, q4, bl2, q5, q6, q7⟩
        · exact .inl q3
        · refine .inr ⟨q3, oin _ _ _ _ q4 hix, bl2, by rw [mu_ne_mix hk]; rw [mu_ne_mix hk] at q5; exact q5, ?_, q7⟩
          cases k with
          | flat | thin => exact q6
          | deep => exact ⟨q6.1, fun b hb => oin _ _ _ _ (q6.2 b hb) hix⟩
          | shal => exact fun b hb => (q6 b hb).mono2 (o0 b) (o1 b)
          | mix => exact absurd rfl hk
      cases bk' with
      | dead => trivial
      | arr xs k => exact key xs k (by simpa [Blk.kindIs] using hbm) hblk
      | box x k => exact key [x] k (by simpa [Blk.kindIs] using hbm) hblk
  · have : ids[j]? = none := List.getElem?_eq_none (by simpa [St.comp] using hj)
    simp [μ', this]
  · have hlt : id < m := by
      rcases Nat.lt_or_ge id m with q | q
      · exact q
      · rw [hmu id q] at e; cases e
    have := h.mu id l e
    simp [μ', hm id hlt, this]

theorem weak_both {m : Nat} {s s' : St} (ks ids : List Nat) (hn : ids.Nodup) (hm : ∀ j, j < m → ids[j]? = some j) (he : ∀ p ∈ (s.keep ks).env, p.2.only (fun id => (idx ids id).isSome) = true)
    (hb : ∀ id ∈ ids, ∀ bk, s.O[id]? = some bk → bk.kindIs (fun k => k != .mix) = true) (e : (s.keep ks).comp ids = s') : Weak m s s' :=
  e ▸ weak_trans (weak_keep ks s) (weak_comp ids hn hm he hb)

section
variable {P : Program} {L : Lend} {m : Nat} {Q : AEx → St → Prop} {s : St}

/-- One statement behind another: what follows is kept out of sight. -/
theorem v_seq {x y : Code} (h : ∀ Q' : AEx → St → Prop, (∀ s s₁, Weak m s s₁ → awp P L m y Q s₁ → Q' .normal s) → (∀ i s, Q (.exit i) s → Q' (.exit i) s) → (∀ s, Q .ret s → Q' .ret s) → awp P L m x Q' s) :
    awp P L m (.seq x y) Q s :=
  h _ (fun _ s₁ hw h => ⟨s₁, hw, h⟩) (fun _ _ h => h) (fun _ h => h)

theorem v_region {id : Nat} {ops : Array Oper} (h : ∀ K : St → Prop, (∀ s, Q .normal s → K s) → aOps P L ops K ops.toList s) : awp P L m (.region id ops false) Q s :=
  h _ fun _ h => h

theorem v_block {id : Nat} {x : Code} (h : ∀ Q' : AEx → St → Prop, (∀ s, Q .normal s → Q' .normal s) → (∀ s, Q .normal s → Q' (.exit id) s) → (∀ i s, i ≠ id → Q (.exit i) s → Q' (.exit i) s) → (∀ s, Q .ret s → Q' .ret s) → awp P L m x Q' s) :
    awp P L m (.block id x) Q s :=
  h _ (fun _ h => h) (fun s h => by simpa using h) (fun i s hi h => by simpa [hi] using h) (fun _ h => h)

theorem v_cond {c : Operand} {x y : Code} (b : Bool) (hc : s.ev c = .bool b) (h1 : b = true → awp P L m x Q s) (h2 : b = false → awp P L m y Q s) : awp P L m (.cond c x y) Q s := by
  simp only [awp, hc]
  exact ⟨h1, h2⟩

theorem v_skip (h : Q .normal s) : awp P L m .skip Q s := h
theorem v_exit {i : Nat} (h : Q (.exit i) s) : awp P L m (.exit i) Q s := h
theorem v_ret (h : Q .ret s) : awp P L m .ret Q s := h

/-- A LOOP: an invariant, and a number that goes down. -/
theorem v_loop {x : Code} {α : Type} (I : α → St) (ok : α → Prop) (mu : α → Nat) (a : α) (h0 : Weak m s (I a)) (ha : ok a)
    (h : ∀ a, ok a → ∀ Q' : AEx → St → Prop, (∀ s b, Weak m s (I b) → ok b → mu b < mu a → Q' .normal s) → (∀ i s, Q (.exit i) s → Q' (.exit i) s) → (∀ s, Q .ret s → Q' .ret s) → awp P L m x Q' (I a)) :
    awp P L m (.loop x) Q s := by
  have key : ∀ n, ∀ a, ok a → mu a < n → ∀ s, Weak m s (I a) → loopN m (awp P L m x) Q n s := by
    intro n
    induction n with
    | zero => intro a _ hn; omega
    | succ n ih =>
      intro a ha hn s hw
      refine ⟨I a, hw, h a ha _ (fun s b hw hb hlt => ih b hb (by omega) s hw) (fun _ _ h => h) (fun _ h => h)⟩
  exact ⟨mu a + 1, key _ a ha (Nat.lt_succ_self _) s h0⟩

theorem v_op {rg : Array Oper} {K : St → Prop} {o : Oper} {rest : List Oper} (h : ∀ K' : St → Prop, (∀ s, aOps P L rg K rest s → K' s) → aStepM P L rg o s K') : aOps P L rg K (o :: rest) s :=
  .inl (h _ fun _ h => h)

/-- A guarded operation that is passed over. -/
theorem v_pass {rg : Array Oper} {K : St → Prop} {o : Oper} {rest : List Oper} (d : Nat) (j : Nat) (want : Bool) (hd : o.dst = some d) (hn : d < s.n) (hg : o.guard = some (j, want)) (hv : guardV s rg j want = some false) (h : aOps P L rg K rest (s.set (some d) (.opt false .any))) : aOps P L rg K (o :: rest) s :=
  .inr ⟨by rw [hd]; exact hn, j, want, hg, hv, by rw [hd]; exact h⟩

/-- A call that is lent nothing. -/
theorem aCall_new {f : FuncId} {args args' : List V} {r : V} {O' : List Blk} {K : V → St → Prop} (hc : Con P f args' [] r O') (ht : toArgs s [] args = some args')
    (hcl : (r.clean = true ∧ ∀ bk ∈ O', bk.kindIs (fun k => k != .shal && k != .mix) = true) ∨ (∀ x ∈ args, x.cold = true)) (hk : K (r.ren (rho [] s.O.length)) { s with O := s.O ++ O' }) : aCall P s f [] args K :=
  ⟨args', [], r, O', ht, rfl, List.nodup_nil, by simp, .inr (by simp), hc, hcl.imp id (fun h => ⟨rfl, h⟩), by unfold setBlks; exact hk⟩

/-- A guarded call that is lent nothing and gives a plain value. -/
theorem aCall_guard {f : FuncId} {args args' : List V} {r : V} {K : V → Prop} {G A : Prop} (hg : G → A) (hc : G → Con P f args' [] r []) (ht : toArgs s [] args = some args')
    (hr : r.only (fun _ => false) = true) (hcl : r.clean = true) (hk : K r) : ∃ r, (G → A ∧ aCall P s f [] args fun v s' => v = r ∧ s' = { s with O := s.O ++ [] }) ∧ K r :=
  ⟨r, fun g => ⟨hg g, aCall_new (hc g) ht (.inl ⟨hcl, by simp⟩) ⟨ren_only (by simp) hr, rfl⟩⟩, hk⟩

theorem v_split {rg : Array Oper} {K : St → Prop} {l : List Oper} (l1 l2 : List Oper) (hl : l = l1 ++ l2) (h : ∀ K' : St → Prop, (∀ s, aOps P L rg K l2 s → K' s) → aOps P L rg K' l1 s) : aOps P L rg K l s := by
  subst hl
  have key : ∀ (l1 : List Oper) (s : St), aOps P L rg (fun s => aOps P L rg K l2 s) l1 s = aOps P L rg K (l1 ++ l2) s := by
    intro l1
    induction l1 with
    | nil => intro s; rfl
    | cons o l1 ih =>
      intro s
      show aStep P L rg o s (aOps P L rg (fun s => aOps P L rg K l2 s) l1) = aStep P L rg o s (aOps P L rg K (l1 ++ l2))
      congr 1
      funext s
      exact ih s
  rw [← key]
  exact h _ fun _ h => h

end

/-- What is returned names no block of the call's own. -/
theorem ret_pure {s : St} {v r : V} (hv : v.only (fun _ => false) = true) (e : v = r) (h : s.vw = false ∨ v.clean = true) : RetOK 0 s v r [] := by
  subst e
  have hr := refsOf_only hv
  refine ⟨⟨only_mono (by simp) hv, by rw [hr]; exact List.nodup_nil, Nat.zero_le _⟩, (ren_only (by simp) hv).symm, by rw [hr]; simp, by simp, ?_⟩
  exact h.imp id fun q => ⟨q, by simp⟩

/-- A plain value is returned; blocks were lent. -/
theorem ret_lent {s : St} {m : Nat} {v r : V} {O' : List Blk} (hv : v.only (fun _ => false) = true) (hm : m ≤ s.O.length) (e : v = r) (hO : s.O.take m = O') (hk : ∀ bk ∈ O', bk.kindIs (fun k => k != .shal && k != .mix) = true) (h : s.vw = false ∨ v.clean = true) :
    RetOK m s v r O' := by
  subst e
  have hr := refsOf_only hv
  refine ⟨⟨only_mono (by simp) hv, by rw [hr]; exact List.nodup_nil, hm⟩, (ren_only (by simp) hv).symm, by rw [hr]; simp [hO], fun bk hb => ?_, h.imp id fun q => ⟨q, hk⟩⟩
  have := hk bk hb
  cases bk with
  | dead => simp [Blk.kindIs] at this ⊢
  | arr xs k => cases k <;> simp_all [Blk.kindIs]
  | box x k => cases k <;> simp_all [Blk.kindIs]

/-- A new slice is returned. -/
theorem ret_ref {s : St} {k : Nat} {xs : List V} {kd : Kd} (hO : s.O[k]? = some (.arr xs kd)) (hk : kd = .flat ∨ kd = .deep) : RetOK 0 s (.ref k) (.ref 0) [.arr xs kd] := by
  have hf : (refsOf (.ref k)).filter (fun id => Nat.ble 0 id) = [k] := by simp [refsOf, refs2, refs1]
  unfold RetOK
  simp only [hf]
  refine ⟨⟨by simp [V.only, idx], by simp, Nat.zero_le _⟩, by simp [V.ren, outNo, idx], by simp [hO], ?_, .inr ⟨by simp [V.clean, V.noSl], ?_⟩⟩ <;> rcases hk with rfl | rfl <;> simp [Blk.kindIs]

/-- A new slice is returned, and a plain value. -/
theorem ret_ref_tup {s : St} {k : Nat} {xs : List V} {kd : Kd} {v : V} (hv : v.only (fun _ => false) = true) (hc : v.noSl = true) (hO : s.O[k]? = some (.arr xs kd)) (hk : kd = .flat ∨ kd = .deep) :
    RetOK 0 s (.tup [.ref k, v]) (.tup [.ref 0, v]) [.arr xs kd] := by
  have hr : refs2 v = [] := refs2_only hv
  have hf : (refsOf (.tup [.ref k, v])).filter (fun id => Nat.ble 0 id) = [k] := by
    show List.filter _ (refs2 (.ref k) ++ (refs2 v ++ [])) = [k]
    rw [hr]; simp [refs2, refs1]
  unfold RetOK
  simp only [hf]
  refine ⟨⟨by simp [V.only, V.onlyL, idx]; exact only_mono (by simp) hv, by simp, Nat.zero_le _⟩, by simp [V.ren, V.renL, outNo, idx]; exact (ren_only (by simp) hv).symm, by simp [hO], ?_, .inr ⟨by show (V.noSl (.ref k) && (V.noSl v && true)) = true; rw [hc]; rfl, ?_⟩⟩ <;> rcases hk with rfl | rfl <;> simp [Blk.kindIs]

/-- A row that is being filled. -/
def fillTo {α : Type} (f : α → V) (z : V) (l : List α) (i : Nat) : List V := (l.take i).map f ++ List.replicate (l.length - i) z
theorem fill_len {α : Type} {f : α → V} {z : V} {l : List α} {i : Nat} (h : i ≤ l.length) : (fillTo f z l i).length = l.length := by simp [fillTo]; omega
theorem fill_get {α : Type} {f : α → V} {z : V} {l : List α} {i : Nat} (h : i < l.length) : (fillTo f z l i).getD i .any = z := by
  rw [List.getD_eq_getElem?_getD, fillTo, List.getElem?_append_right (by simp; omega), List.getElem?_replicate]
  rw [if_pos (by simp; omega)]; rfl
theorem fill_set {α : Type} {f : α → V} {z : V} {l : List α} {i : Nat} {x : α} (h : l[i]? = some x) : (fillTo f z l i).set i (f x) = fillTo f z l (i + 1) := by
  obtain ⟨hi, rfl⟩ := List.getElem?_eq_some_iff.1 h
  have e : l.length - i = (l.length - (i + 1)) + 1 := by omega
  rw [fillTo, fillTo, List.set_append_right _ _ (by simp; omega), e, List.replicate_succ]
  simp only [List.length_map, List.length_take, Nat.min_eq_left (Nat.le_of_lt hi), Nat.sub_self, List.set_cons_zero]
  rw [List.take_succ_eq_append_getElem hi, List.map_append, List.append_assoc]
  rfl
theorem fill_zero {α : Type} {f : α → V} {z : V} {l : List α} : fillTo f z l 0 = List.replicate l.length z := by simp [fillTo]
theorem fill_all {α : Type} {f : α → V} {z : V} {l : List α} {i n : Nat} (hf : ∀ a, (f a).cells.length = n) (hz : z.cells.length = n) : ∀ x ∈ fillTo f z l i, x.cells.length = n := by
  intro x hx
  rw [fillTo, List.mem_append] at hx
  rcases hx with h | h
  · obtain ⟨a, _, rfl⟩ := List.mem_map.1 h; exact hf a
  · rw [List.eq_of_mem_replicate h]; exact hz
theorem fill_end {α : Type} {f : α → V} {z : V} {l : List α} {i : Nat} (h : l.length ≤ i) : fillTo f z l i = l.map f := by
  rw [fillTo, List.take_of_length_le h, Nat.sub_eq_zero_of_le h]; simp

/-- The kind of a row that slices are moved into. -/
def fillK (i : Nat) : Kd := if i = 0 then .flat else .deep
theorem fillK_fd (i : Nat) : (fillK i != .shal && fillK i != .mix) = true := by unfold fillK; split <;> rfl
theorem fillK_zero : fillK 0 = .flat := rfl
theorem fillK_mix (i : Nat) : (fillK i != .mix) = true := by unfold fillK; split <;> rfl
theorem fillK_join (i : Nat) : kdJoin (fillK i) true false = some (fillK (i + 1)) := by unfold fillK; split <;> simp [kdJoin]
theorem fillK_join0 (i : Nat) : kdJoin (fillK i) false false = some (fillK i) := by unfold fillK; split <;> rfl
theorem join_ff : kdJoin .flat false false = some .flat := rfl
theorem join_ft : kdJoin .flat true false = some .deep := rfl
theorem join_fv : kdJoin .flat false true = some .shal := rfl
theorem join_d (b : Bool) : kdJoin .deep b false = some .deep := by cases b <;> rfl
theorem join_s (b : Bool) : kdJoin .shal false b = some .shal := by cases b <;> rfl
theorem fillK_or (i : Nat) : fillK i = .flat ∨ fillK i = .deep := by unfold fillK; split <;> simp

theorem v_con {P : Program} {f : FuncId} {fn : Func} {c : Code} {args : List V} {O : List Blk} {r : V} {O' : List Blk} (rs : List ResultVar) (L : Lend) (hf : P.funcs[f]? = some fn) (hname : (fn.name == "runtime.NumGoroutine") = false)
    (hb : fn.body = some c) (hts : fn.results = rs.toArray) (hn : args.length ≤ fn.ntmps)
    (h : ∀ Q : AEx → St → Prop, (∀ s, (resK P s rs fun vs vw => RetOK O.length { s with vw := vw } (pickRV vs) r O') → Q .normal s) → (∀ s, (resK P s rs fun vs vw => RetOK O.length { s with vw := vw } (pickRV vs) r O') → Q .ret s) →
      awp P L O.length c Q ⟨envFrom 0 args, O, false, fn.ntmps, 0⟩) : Con P f args O r O' :=
  con_of_awp rs L 0 hf hname hb hts hn (h _ (fun _ h => h) (fun _ h => h))

end Go.Vm
