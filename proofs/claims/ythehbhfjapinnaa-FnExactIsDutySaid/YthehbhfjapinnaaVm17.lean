/- The value machine, part 17: reckoning with it. -/
import Derived.Test.YthehbhfjapinnaaVm16
set_option linter.unusedSimpArgs false
set_option linter.unusedVariables false
namespace Go.Vm
open Go

theorem look_nil (t : Nat) : look t [] = .any := rfl
theorem look_cons (t k : Nat) (v : V) (l : List (Nat × V)) : look t ((k, v) :: l) = if t = k then v else look t l := by
  simp only [look]
  cases e : Nat.beq t k with
  | true => simp [Nat.eq_of_beq_eq_true e]
  | false =>
    have : ¬ t = k := fun q => by rw [q, Nat.beq_refl] at e; cases e
    simp [this]

/-- Only these slots are remembered, in this order. -/
def St.keep (ks : List Nat) (s : St) : St := { s with env := ks.map fun t => (t, s.get t) }
def keepE (env : List (Nat × V)) : List Nat → List (Nat × V)
  | [] => []
  | t :: ks => (t, look t env) :: keepE env ks
theorem keepE_eq (env : List (Nat × V)) (ks : List Nat) : keepE env ks = ks.map fun t => (t, look t env) := by
  induction ks with
  | nil => rfl
  | cons t ks ih => rw [keepE, ih]; rfl
theorem keep_mk (ks : List Nat) (env : List (Nat × V)) (O : List Blk) (vw : Bool) (n m : Nat) : St.keep ks ⟨env, O, vw, n, m⟩ = ⟨keepE env ks, O, vw, n, m⟩ := by
  rw [keepE_eq]; rfl
theorem keepE_nil (env : List (Nat × V)) : keepE env [] = [] := rfl
theorem keepE_cons (env : List (Nat × V)) (t : Nat) (ks : List Nat) : keepE env (t :: ks) = (t, look t env) :: keepE env ks := rfl

theorem look_map (f : Nat → V) : ∀ (ks : List Nat) (t : Nat), look t (ks.map fun t => (t, f t)) = f t ∨ look t (ks.map fun t => (t, f t)) = .any
  | [], _ => .inr rfl
  | k :: ks, t => by
    rw [List.map_cons, look_cons]
    by_cases e : t = k
    · rw [if_pos e, e]; exact .inl rfl
    · rw [if_neg e]; exact look_map f ks t

theorem weak_refl (m : Nat) (s : St) : Weak m s s := fun _ _ _ _ _ _ h => ⟨_, _, h⟩
theorem weak_trans {m : Nat} {s t u : St} (h : Weak m s t) (k : Weak m t u) : Weak m s u := fun cx a w μ ow hm hr =>
  let ⟨_, _, h1⟩ := h cx a w μ ow hm hr
  k cx a w _ _ hm h1
theorem weak_keep {m : Nat} (ks : List Nat) (s : St) : Weak m s (s.keep ks) := fun _ _ _ _ _ _ h =>
  ⟨_, _, h.forget (m := s.mask) fun t => look_map s.get ks t⟩
theorem weak_of {m : Nat} {s s' : St} (ks : List Nat) (e : s.keep ks = s') : Weak m s s' := e ▸ weak_keep ks s

theorem get_mk (env : List (Nat × V)) (O : List Blk) (vw : Bool) (n m t : Nat) : St.get ⟨env, O, vw, n, m⟩ t = look t env := rfl
theorem set_some (env : List (Nat × V)) (O : List Blk) (vw : Bool) (n m t : Nat) (v : V) : St.set ⟨env, O, vw, n, m⟩ (some t) v = ⟨(t, v) :: env, O, vw, n, m⟩ := rfl
theorem set_none (s : St) (v : V) : St.set s none v = s := rfl
theorem ev_tmp (s : St) (t : Nat) : s.ev (.tmp t) = s.get t := rfl
theorem ev_const (s : St) (v : Value) : s.ev (.const v) = V.ofValue v := rfl
theorem ev_func (s : St) (f : Nat) : s.ev (.func f) = .fn f [] := rfl
theorem dst_some (t n : Nat) : dstOK (some t) n ↔ t < n := Iff.rfl
theorem dst_none (n : Nat) : dstOK none n ↔ True := Iff.rfl
theorem row_mk (env : List (Nat × V)) (O : List Blk) (vw : Bool) (n m id : Nat) : St.row ⟨env, O, vw, n, m⟩ id = (O[id]?).bind Blk.row := rfl

theorem settle_int (n : Nat) (k : IntKind) (x : Int) : settle n (.int k x) = (.int k x, []) := rfl
theorem settle_bool (n : Nat) (x : Bool) : settle n (.bool x) = (.bool x, []) := rfl
theorem settle_str (n : Nat) (x : ByteArray) : settle n (.str x) = (.str x, []) := rfl
theorem settle_nsl (n : Nat) : settle n .nsl = (.ref n, [.arr [] .flat]) := rfl
theorem settle_sl (n : Nat) (x : List V) : settle n (.sl x) = (.sl x, []) := rfl
theorem settle_ref (n id : Nat) : settle n (.ref id) = (.ref id, []) := rfl
theorem settle_sub (n id a b : Nat) : settle n (.sub id a b) = (.sub id a b, []) := rfl
theorem settle_ptr (n id a b : Nat) : settle n (.ptr id a b) = (.ptr id a b, []) := rfl
theorem settle_pv (n : Nat) (xs : List V) (a b : Nat) : settle n (.pv xs a b) = (.pv xs a b, []) := rfl
theorem settle_tup (n : Nat) (xs : List V) : settle n (.tup xs) = (.tup xs, []) := rfl
theorem settle_fn (n f : Nat) (xs : List V) : settle n (.fn f xs) = (.fn f xs, []) := rfl
theorem settle_npt (n : Nat) : settle n .npt = (.npt, []) := rfl
theorem settle_agg (n : Nat) (xs : List V) : settle n (.agg xs) = (.agg (settleL n xs).1, (settleL n xs).2) := rfl
theorem settleL_nil (n : Nat) : settleL n [] = ([], []) := rfl
theorem settleL_nsl (n : Nat) (l : List V) : settleL n (.nsl :: l) = (.ref n :: (settleL (n + 1) l).1, .arr [] .flat :: (settleL (n + 1) l).2) := rfl
theorem settleL_int (n : Nat) (k : IntKind) (x : Int) (l : List V) : settleL n (.int k x :: l) = (.int k x :: (settleL n l).1, (settleL n l).2) := rfl
theorem settleL_bool (n : Nat) (x : Bool) (l : List V) : settleL n (.bool x :: l) = (.bool x :: (settleL n l).1, (settleL n l).2) := rfl
theorem settleL_str (n : Nat) (x : ByteArray) (l : List V) : settleL n (.str x :: l) = (.str x :: (settleL n l).1, (settleL n l).2) := rfl
theorem settleL_sl (n : Nat) (x : List V) (l : List V) : settleL n (.sl x :: l) = (.sl x :: (settleL n l).1, (settleL n l).2) := rfl
theorem settleL_ref (n x : Nat) (l : List V) : settleL n (.ref x :: l) = (.ref x :: (settleL n l).1, (settleL n l).2) := rfl

mutual
theorem ren_only {p : Nat → Bool} {ρ : Nat → Nat} (hp : ∀ id, p id = true → ρ id = id) : ∀ {v : V}, v.only p = true → v.ren ρ = v
  | .int _ _, _ | .bool _, _ | .str _, _ | .nsl, _ | .sl _, _ | .pv _ _ _, _ | .npt, _ | .nfn, _ | .any, _ => by simp [V.ren]
  | .ref id, h => by rw [V.only] at h; rw [V.ren, hp id h]
  | .sub id _ _, h => by rw [V.only] at h; rw [V.ren, hp id h]
  | .ptr id _ _, h => by rw [V.only] at h; rw [V.ren, hp id h]
  | .fn f cs, h => by rw [V.only] at h; rw [V.ren, ren_onlyL hp h]
  | .agg cs, h => by rw [V.only] at h; rw [V.ren, ren_onlyL hp h]
  | .tup cs, h => by rw [V.only] at h; rw [V.ren, ren_onlyL hp h]
  | .opt g v, h => by rw [V.only] at h; rw [V.ren, ren_only hp h]
theorem ren_onlyL {p : Nat → Bool} {ρ : Nat → Nat} (hp : ∀ id, p id = true → ρ id = id) : ∀ {vs : List V}, V.onlyL p vs = true → V.renL ρ vs = vs
  | [], _ => by rw [V.renL]
  | v :: vs, h => by rw [V.onlyL, Bool.and_eq_true] at h; rw [V.renL, ren_only hp h.1, ren_onlyL hp h.2]
end

theorem refs1_only {v : V} (h : v.only (fun _ => false) = true) : refs1 v = [] := by
  cases v <;> simp_all [refs1, V.only]
theorem refs1s_only : ∀ {l : List V}, V.onlyL (fun _ => false) l = true → l.flatMap refs1 = []
  | [], _ => rfl
  | v :: l, h => by rw [V.onlyL, Bool.and_eq_true] at h; rw [List.flatMap_cons, refs1_only h.1, refs1s_only h.2]; rfl
theorem refs2_only {v : V} (h : v.only (fun _ => false) = true) : refs2 v = [] := by
  cases v with
  | agg cs => rw [V.only] at h; exact refs1s_only h
  | _ => exact refs1_only h
theorem refs2s_only : ∀ {l : List V}, V.onlyL (fun _ => false) l = true → l.flatMap refs2 = []
  | [], _ => rfl
  | v :: l, h => by rw [V.onlyL, Bool.and_eq_true] at h; rw [List.flatMap_cons, refs2_only h.1, refs2s_only h.2]; rfl
theorem refsOf_only {v : V} (h : v.only (fun _ => false) = true) : refsOf v = [] := by
  cases v with
  | tup cs => rw [V.only] at h; exact refs2s_only h
  | _ => exact refs2_only h

mutual
theorem only_mono {p q : Nat → Bool} (hp : ∀ id, p id = true → q id = true) : ∀ {v : V}, v.only p = true → v.only q = true
  | .int _ _, _ | .bool _, _ | .str _, _ | .nsl, _ | .sl _, _ | .pv _ _ _, _ | .npt, _ | .nfn, _ | .any, _ => by simp [V.only]
  | .ref id, h => by rw [V.only] at h ⊢; exact hp id h
  | .sub id _ _, h => by rw [V.only] at h ⊢; exact hp id h
  | .ptr id _ _, h => by rw [V.only] at h ⊢; exact hp id h
  | .fn f cs, h => by rw [V.only] at h ⊢; exact onlyL_mono hp h
  | .agg cs, h => by rw [V.only] at h ⊢; exact onlyL_mono hp h
  | .tup cs, h => by rw [V.only] at h ⊢; exact onlyL_mono hp h
  | .opt g v, h => by rw [V.only] at h ⊢; exact only_mono hp h
theorem onlyL_mono {p q : Nat → Bool} (hp : ∀ id, p id = true → q id = true) : ∀ {vs : List V}, V.onlyL p vs = true → V.onlyL q vs = true
  | [], _ => by rw [V.onlyL]
  | v :: vs, h => by rw [V.onlyL, Bool.and_eq_true] at h ⊢; exact ⟨only_mono hp h.1, onlyL_mono hp h.2⟩
end

section
variable {P : Program} {L : Lend} {m : Nat} {Q : AEx → St → Prop} {s : St}

/-- One statement behind another: what follows is kept out of sight. -/
theorem v_seq {x y : Code} (h : ∀ Q' : AEx → St → Prop, (∀ s s₁, Weak m s s₁ → awp P L m y Q s₁ → Q' .normal s) → (∀ i s, Q (.exit i) s → Q' (.exit i) s) → (∀ s, Q .ret s → Q' .ret s) → awp P L m x Q' s) :
    awp P L m (.seq x y) Q s :=
  h _ (fun _ s₁ hw h => ⟨s₁, hw, h⟩) (fun _ _ h => h) (fun _ h => h)

theorem v_region {id : Nat} {ops : Array Oper} (h : ∀ K : St → Prop, (∀ s, Q .normal s → K s) → aOps P L ops K ops.toList s) : awp P L m (.region id ops false) Q s :=
  h _ fun _ h => h

theorem v_block {id : Nat} {x : Code} (h : ∀ Q' : AEx → St → Prop, (∀ s, Q .normal s → Q' .normal s) → (∀ s, Q .normal s → Q' (.exit id) s) → (∀ i s, i ≠ id → Q (.exit i) s → Q' (.exit i) s) → (∀ s, Q .ret s → Q' .ret s) → awp P L m x Q' s) :
    awp P L m (.block id x) Q s :=
  h _ (fun _ h => h) (fun s h => by simpa using h) (fun i s hi h => by simpa [hi] using h) (fun _ h => h)

theorem v_cond {c : Operand} {x y : Code} (b : Bool) (hc : s.ev c = .bool b) (h1 : b = true → awp P L m x Q s) (h2 : b = false → awp P L m y Q s) : awp P L m (.cond c x y) Q s := by
  simp only [awp, hc]
  exact ⟨h1, h2⟩

theorem v_skip (h : Q .normal s) : awp P L m .skip Q s := h
theorem v_exit {i : Nat} (h : Q (.exit i) s) : awp P L m (.exit i) Q s := h
theorem v_ret (h : Q .ret s) : awp P L m .ret Q s := h

/-- A LOOP: an invariant, and a number that goes down. -/
theorem v_loop {x : Code} {α : Type} (I : α → St) (ok : α → Prop) (mu : α → Nat) (a : α) (h0 : Weak m s (I a)) (ha : ok a)
    (h : ∀ a, ok a → ∀ Q' : AEx → St → Prop, (∀ s b, Weak m s (I b) → ok b → mu b < mu a → Q' .normal s) → (∀ i s, Q (.exit i) s → Q' (.exit i) s) → (∀ s, Q .ret s → Q' .ret s) → awp P L m x Q' (I a)) :
    awp P L m (.loop x) Q s := by
  have key : ∀ n, ∀ a, ok a → mu a < n → ∀ s, Weak m s (I a) → loopN m (awp P L m x) Q n s := by
    intro n
    induction n with
    | zero => intro a _ hn; omega
    | succ n ih =>
      intro a ha hn s hw
      refine ⟨I a, hw, h a ha _ (fun s b hw hb hlt => ih b hb (by omega) s hw) (fun _ _ h => h) (fun _ h => h)⟩
  exact ⟨mu a + 1, key _ a ha (Nat.lt_succ_self _) s h0⟩

theorem v_op {rg : Array Oper} {K : St → Prop} {o : Oper} {rest : List Oper} (h : ∀ K' : St → Prop, (∀ s, aOps P L rg K rest s → K' s) → aStep P L rg o s K') : aOps P L rg K (o :: rest) s :=
  h _ fun _ h => h

/-- A call that is lent nothing. -/
theorem aCall_new {f : FuncId} {args args' : List V} {r : V} {O' : List Blk} {K : V → St → Prop} (hc : Con P f args' [] r O') (ht : toArgs s [] args = some args')
    (hcl : (r.clean = true ∧ ∀ bk ∈ O', bk.kindIs (fun k => k == .flat || k == .deep) = true) ∨ (∀ x ∈ args, x.cold = true)) (hk : K (r.ren (rho [] s.O.length)) { s with O := s.O ++ O' }) : aCall P s f [] args K :=
  ⟨args', [], r, O', ht, rfl, List.nodup_nil, by simp, .inr (by simp), hc, hcl.imp id (fun h => ⟨rfl, h⟩), by unfold setBlks; exact hk⟩

/-- A guarded call that is lent nothing and gives a plain value. -/
theorem aCall_guard {f : FuncId} {args args' : List V} {r : V} {K : V → Prop} {G : Bool} {A : Prop} (hg : G = true → A) (hc : G = true → Con P f args' [] r []) (ht : toArgs s [] args = some args')
    (hr : r.only (fun _ => false) = true) (hcl : r.clean = true) (hk : K r) : ∃ r, (G = true → A ∧ aCall P s f [] args fun v s' => v = r ∧ s' = { s with O := s.O ++ [] }) ∧ K r :=
  ⟨r, fun g => ⟨hg g, aCall_new (hc g) ht (.inl ⟨hcl, by simp⟩) ⟨ren_only (by simp) hr, rfl⟩⟩, hk⟩

theorem v_split {rg : Array Oper} {K : St → Prop} {l : List Oper} (l1 l2 : List Oper) (hl : l = l1 ++ l2) (h : ∀ K' : St → Prop, (∀ s, aOps P L rg K l2 s → K' s) → aOps P L rg K' l1 s) : aOps P L rg K l s := by
  subst hl
  have key : ∀ (l1 : List Oper) (s : St), aOps P L rg (fun s => aOps P L rg K l2 s) l1 s = aOps P L rg K (l1 ++ l2) s := by
    intro l1
    induction l1 with
    | nil => intro s; rfl
    | cons o l1 ih =>
      intro s
      show aStep P L rg o s (aOps P L rg (fun s => aOps P L rg K l2 s) l1) = aStep P L rg o s (aOps P L rg K (l1 ++ l2))
      congr 1
      funext s
      exact ih s
  rw [← key]
  exact h _ fun _ h => h

end

/-- What is returned names no block of the call's own. -/
theorem ret_pure {s : St} {v r : V} (hv : v.only (fun _ => false) = true) (e : v = r) (h : s.vw = false ∨ v.clean = true) : RetOK 0 s v r [] := by
  subst e
  have hr := refsOf_only hv
  refine ⟨⟨only_mono (by simp) hv, by rw [hr]; exact List.nodup_nil, Nat.zero_le _⟩, (ren_only (by simp) hv).symm, by rw [hr]; simp, by simp, ?_⟩
  exact h.imp id fun q => ⟨q, by simp⟩

theorem v_con {P : Program} {f : FuncId} {fn : Func} {c : Code} {args : List V} {O : List Blk} {r : V} {O' : List Blk} (rs : List ResultVar) (L : Lend) (hf : P.funcs[f]? = some fn) (hname : (fn.name == "runtime.NumGoroutine") = false)
    (hb : fn.body = some c) (hts : fn.results = rs.toArray) (hn : args.length ≤ fn.ntmps)
    (h : ∀ Q : AEx → St → Prop, (∀ s, (resK P s rs fun vs vw => RetOK O.length { s with vw := vw } (pickRV vs) r O') → Q .normal s) → (∀ s, (resK P s rs fun vs vw => RetOK O.length { s with vw := vw } (pickRV vs) r O') → Q .ret s) →
      awp P L O.length c Q ⟨envFrom 0 args, O, false, fn.ntmps, 0⟩) : Con P f args O r O' :=
  con_of_awp rs L 0 hf hname hb hts hn (h _ (fun _ h => h) (fun _ h => h))

end Go.Vm
