/- The value machine, part 14: operations, regions, code. -/
import Derived.Test.YtciapcamhocmcaaVm25
import Derived.Orders
set_option linter.unusedSimpArgs false
set_option linter.unusedVariables false
namespace Go.Vm
open Go

section
variable {P : Program} {cx : Cx} {s : St} {nid : Nat} {a : Act} {w : World} {μ : Nat → Option Loc} {ow : Ow} {o : Oper} {K : KV}

theorem getD_one {α : Type} {xs : Array α} {d : α} (h : xs.size = 1) : xs = #[xs.getD 0 d] := by
  obtain ⟨l⟩ := xs
  cases l with
  | nil => simp at h
  | cons x l =>
    cases l with
    | nil => simp
    | cons y l => simp at h

/-- THE QUIET OPERATIONS DO WHAT PART 3 SAYS. -/
theorem aop_sound (h : Sup cx s a w μ ow) (hk : aop P s nid true o.op K) : QV P cx s nid w μ ow o a K := by
  generalize ho : o.op = op at hk
  cases op <;> simp only [aop] at hk
  case move x => exact move_sound h x ho hk
  case assign x => exact assign_sound h x ho hk
  case pick c x y =>
    split at hk
    · rename_i t hc
      exact pick_sound h c x y t ho hc (hk.1 trivial) hk.2
    · exact hk.elim
  case alloc T =>
    split at hk
    · rename_i z hz
      exact alloc_sound h T ho z hz hk.1 hk.2.1 hk.2.2
    · exact hk.elim
  case box T x => exact box_sound h T x ho (hk.1 trivial) (hk.2.1 trivial) hk.2.2
  case build T ps =>
    split at hk
    · rename_i fs z hu hz
      split at hk
      · rename_i cs hf
        exact build_sound h T ps fs z cs ho hu hz hf hk.1 hk.2.1 (hk.2.2.1 trivial) hk.2.2.2
      · exact hk.elim
    · exact hk.elim
  case buildSlice T n ps =>
    split at hk
    · rename_i e xs hu hx
      exact buildSlice_sound h T e n ps xs ho hu hx (hk.1.1 trivial) hk.1.2 hk.2.1 hk.2.2.1 hk.2.2.2.1 hk.2.2.2.2
    · exact hk.elim
  case load T p => exact load_sound h T p ho (hk.1 trivial) hk.2
  case nilCheck x => exact nil_sound h x ho (hk.1 trivial) hk.2
  case binOp op xt x y yt =>
    obtain ⟨h1, hk⟩ := hk
    cases hn : isNil y with
    | true => rw [hn, cond_true] at hk; exact nilcmp_sound h op xt yt x y ho (h1 trivial).1 hn hk
    | false => rw [hn, cond_false] at hk; exact bin_sound h op xt yt x y ho (h1 trivial).1 (h1 trivial).2 hk
  case unOp op t x => exact un_sound h op t x ho (hk.1 trivial) hk.2
  case convert src dst x => exact convert_sound h src dst x ho (hk.1 trivial) hk.2.1 hk.2.2
  case makeFunc fn first cap =>
    cases fn <;> simp only at hk <;> try exact hk.elim
    exact makeFunc_sound h _ first cap ho hk.1 hk.2
  case makeSlice t l c =>
    split at hk
    · rename_i e k n k' m hu hl hc
      split at hk
      · rename_i z hz
        obtain ⟨rfl, hg, h1, h2, h3, h4, h5, hk⟩ := hk
        obtain ⟨g1, g2, g3, g4, g5⟩ := hg trivial
        exact makeSlice_sound h t e l c ho hu k k' n hl hc g1 g2 z hz g3 g4 g5 h1 h2 h3 h4 h5 hk
      · exact hk.elim
    · exact hk.elim
  case slice t x lo hi mx =>
    obtain ⟨h1, h2, hk⟩ := hk
    cases mx with
    | some y => simp at h1
    | none => exact slice_sound h t x lo hi ho (h2 trivial).1 (h2 trivial).2.1 (h2 trivial).2.2 hk
  case fieldAddr t x f => exact fieldAddr_sound h t x f ho (hk.1 trivial) hk.2
  case field t x f => exact field_sound h t x f ho (hk.1 trivial) hk.2
  case indexAddr t x i => exact indexAddr_sound h t x i ho (hk.1 trivial) hk.2
  case index t x i => exact index_sound h t x i ho (hk.1 trivial) hk.2.1 hk.2.2
  case extract x i => exact extract_sound h x i ho (hk.1 trivial) hk.2
  case call c =>
    obtain ⟨callee, args, tys⟩ := c
    cases callee <;> try exact hk.elim
    rename_i b
    cases b <;> try exact hk.elim
    case len =>
      obtain ⟨h1, h2, h3, h4, hk⟩ := hk
      have e1 := getD_one (d := default) h1
      obtain ⟨tl⟩ := tys
      cases tl with
      | nil => simp at h2
      | cons t tl =>
        cases tl with
        | cons y l => simp at h2
        | nil => exact len_sound h (args.getD 0 default) t _ ho rfl e1 rfl h3 (h4 trivial) hk
    case max => exact minmax_sound true h _ ho rfl (hk.1 trivial) hk.2
    case min => exact minmax_sound false h _ ho rfl (hk.1 trivial) hk.2
  all_goals exact hk.elim

end

/-- Which arguments a function is lent (of all others it only reads). -/
abbrev Lend := List (Nat × List Nat)
def lendOf (L : Lend) (f : Nat) : List Nat := match L with
  | [] => []
  | (g, ps) :: l => bif Nat.beq g f then ps else lendOf l f

def argId : V → Option Nat
  | .ref id => some id
  | .ptr id _ _ => some id
  | _ => none

def lentIds (ps : List Nat) (args : List V) : List Nat := ps.filterMap fun p => argId (args.getD p .any)

/-- An operation that is carried out. -/
def aExec (P : Program) (L : Lend) (s : St) (o : Oper) (K : V → St → Prop) : Prop :=
  match o.op with
  | .store T p x => o.dst = none ∧ ((s.ev p).gd = true ∧ (s.ev x).gd = true) ∧ aStore P s T (fun s' => K .any s') (s.ev p).un (s.ev x).un
  | .call { callee := .builtin .append, args, argTypes } =>
    (args.size = 2 ∧ argTypes.size = 2 ∧ argTypes.getD 0 0 = argTypes.getD 1 0 ∧ (s.ev (args.getD 0 default)).gd = true ∧ (s.ev (args.getD 1 default)).gd = true) ∧
    aAppend P s (argTypes.getD 0 0) K (s.ev (args.getD 0 default)).un (s.ev (args.getD 1 default)).un
  | .call { callee := .builtin .clear, args, argTypes } =>
    (o.dst = none ∧ args.size = 1 ∧ argTypes.size = 1 ∧ (s.ev (args.getD 0 default)).gd = true) ∧ aClear P s (argTypes.getD 0 0) (fun s' => K .any s') (s.ev (args.getD 0 default)).un
  | .call { callee := .value f, args, .. } => match (s.ev f).un with
    | .fn g caps => ((s.ev f).gd = true ∧ ∀ x ∈ args.toList, (s.ev x).gd = true) ∧
        (let vs := args.toList.map (fun x => (s.ev x).un) ++ caps; aCall P s g (lentIds (lendOf L g) vs) vs K)
    | _ => False
  | op => aop P s s.O.length true op fun v new vw => K v { s with O := s.O ++ new, vw := vw }

def St.set (s : St) (d : Option Nat) (v : V) : St := { s with env := match d with | some t => (t, v) :: s.env | none => s.env }

def dstOK (d : Option Nat) (n : Nat) : Prop := match d with | some t => t < n | none => True

def scalarT (P : Program) (t : TypeId) : Bool := match P.underlying t with
  | some .bool | some (.int _) | some .string => true
  | _ => false

/-- An operation that may be passed over gives a value that is there if its guard holds. -/
def optable : Op → Bool
  | .assign _ | .alloc _ | .box _ _ | .buildSlice _ _ _ | .makeSlice _ _ _ | .store _ _ _ => false
  | .call { callee := .builtin .len, .. } | .call { callee := .builtin .max, .. } | .call { callee := .builtin .min, .. } => true
  | .call _ => false
  | _ => true

def guardV (s : St) (rg : Array Oper) (j : Nat) (want : Bool) : Option Bool :=
  match (rg[j]?).bind (·.dst) with
  | some d => match s.get d with
    | .bool b => some (bif want then b else !b)
    | .opt g (.bool b) => some (g && (bif want then b else !b))
    | _ => none
  | none => none

def aStepM (P : Program) (L : Lend) (rg : Array Oper) (o : Oper) (s : St) (K : St → Prop) : Prop :=
  dstOK o.dst s.n ∧ match o.guard with
  | none => aExec P L s o fun v s' => K (s'.set o.dst v)
  | some (j, want) => match guardV s rg j want with
    | none => False
    | some G =>
      bif optable o.op then aop P s s.O.length G o.op fun v new vw => new = [] ∧ vw = s.vw ∧ K (s.set o.dst (v.wrap G))
      else match o.op with
        | .call { callee := .value _, .. } =>
          bif scalarT P o.type then ∃ r, (G = true → aExec P L s o fun v s' => v = r ∧ s' = { s with O := s.O ++ [] }) ∧ K (s.set o.dst (.opt G r))
          else (G = true → aExec P L s o fun v s' => K (s'.set o.dst v)) ∧ (G = false → K (s.set o.dst (.opt false .any)))
        | _ => (G = true → aExec P L s o fun v s' => K (s'.set o.dst v)) ∧ (G = false → K (s.set o.dst (.opt false .any)))

def aStep (P : Program) (L : Lend) (rg : Array Oper) (o : Oper) (s : St) (K : St → Prop) : Prop :=
  aStepM P L rg o s K ∨ (dstOK o.dst s.n ∧ ∃ j want, o.guard = some (j, want) ∧ guardV s rg j want = some false ∧ K (s.set o.dst (.opt false .any)))

def aOps (P : Program) (L : Lend) (rg : Array Oper) (K : St → Prop) : List Oper → St → Prop
  | [], s => K s
  | o :: rest, s => aStep P L rg o s (aOps P L rg K rest)

/-- A region that draws its order: whatever comes next. -/
def aAny (P : Program) (L : Lend) (rg : Array Oper) (K : St → Prop) : Nat → Array Bool → St → Prop
  | 0, listed, s => Region.ready .any rg listed = [] ∧ K s
  | fuel + 1, listed, s => (Region.ready .any rg listed = [] → K s) ∧ ∀ i ∈ Region.ready .any rg listed, ∀ o, rg[i]? = some o → aStep P L rg o s (aAny P L rg K fuel (listed.setIfInBounds i true))

/-- Slots that nobody reads again are forgotten. -/
def St.trim (s : St) : St := { s with env := s.env.filter fun p => Nat.testBit s.mask p.1 }

inductive AEx where
  | normal
  | exit (id : Nat)
  | ret

/-- Another view of the same moment: less is told, or blocks are told otherwise. -/
def Weak (m : Nat) (s s' : St) : Prop := ∀ (cx : Cx) (a : Act) (w : World) (μ : Nat → Option Loc) (ow : Ow), (∀ id, m ≤ id → cx.mu0 id = none) → Rel cx s a w μ ow → ∃ μ' ow', Rel cx s' a w μ' ow'

def loopN (m : Nat) (step : (AEx → St → Prop) → St → Prop) (Q : AEx → St → Prop) : Nat → St → Prop
  | 0, _ => False
  | n + 1, s => ∃ s₁, Weak m s s₁ ∧ step (fun e s' => match e with | .normal => loopN m step Q n s' | e => Q e s') s₁

def awp (P : Program) (L : Lend) (m : Nat) : Code → (AEx → St → Prop) → St → Prop
  | .skip, Q, s => Q .normal s
  | .region _ ops false, Q, s => aOps P L ops (fun s' => Q .normal s') ops.toList s
  | .region _ ops true, Q, s => P.follows .mixedOrders = true ∧ aAny P L ops (fun s' => ∃ s₁, Weak m s' s₁ ∧ Q .normal s₁) ops.size (Array.replicate ops.size false) s
  | .seq x y, Q, s => awp P L m x (fun e s' => match e with | .normal => ∃ s₁, Weak m s' s₁ ∧ awp P L m y Q s₁ | e => Q e s') s
  | .cond c x y, Q, s => match s.ev c with
    | .bool b => (b = true → awp P L m x Q s) ∧ (b = false → awp P L m y Q s)
    | _ => False
  | .block id x, Q, s => awp P L m x (fun e s' => match e with | .exit i => if i = id then Q .normal s' else Q (.exit i) s' | e => Q e s') s
  | .loop x, Q, s => ∃ n, loopN m (awp P L m x) Q n s
  | .exit id, Q, s => Q (.exit id) s
  | .ret, Q, s => Q .ret s
  | _, _, _ => False

section
variable {P : Program} {L : Lend} {cx : Cx} {s : St} {a : Act} {w : World} {μ : Nat → Option Loc} {ow : Ow} {o : Oper}

/-- A slot gets a value. -/
theorem Rel.set (h : Rel cx s a w μ ow) {d : Option Nat} {v : V} {x : Value} (hd : dstOK d s.n) (hr : ∃ bl, Rep w μ v x bl ∧ ∀ b ∈ bl, VOK cx ow s.vw b) : Rel cx (s.set d v) (a.put d x) w μ ow := by
  obtain ⟨bl, r1, r2⟩ := hr
  refine ⟨by cases d <;> exact h.dfr, by cases d <;> simp [Act.put, St.set, h.sz], fun t => ?_, h.blk, h.dom, h.owl, h.own, h.frm, h.mu⟩
  cases d with
  | none => exact h.env t
  | some d =>
    have hget : (s.set (some d) v).get t = if t = d then v else s.get t := by
      by_cases e : t = d
      · subst e; simp [St.get, St.set, look]
      · have : Nat.beq t d = false := by
          cases h : Nat.beq t d with
          | false => rfl
          | true => exact absurd (Nat.eq_of_beq_eq_true h) e
        simp [St.get, St.set, look, this, e]
    have hslot : (a.put (some d) x).tmps.getD t undef = if t = d then x else a.tmps.getD t undef := by
      show (a.tmps.setIfInBounds d x).getD t undef = _
      exact getD_setIfInBounds _ _ _ _ (by rw [h.sz]; exact hd)
    rw [hget, hslot]
    by_cases e : t = d
    · rw [if_pos e, if_pos e]; exact ⟨bl, r1, r2⟩
    · rw [if_neg e, if_neg e]; exact h.env t

theorem St.put_eq (s : St) (d : Option Nat) (v : V) (new : List Blk) (vw : Bool) : s.put d v new vw = ({ s with O := s.O ++ new, vw := vw } : St).set d v := by cases d <;> rfl

theorem upon_enter {f : FuncId} {args : Array Value} {next : Act → World → Prop} {Q : Exit → Act → World → Prop} {w' : World} (h : Calls P f args w' fun e w'' => ∃ v, e = .returned v ∧ next (a.put o.dst v) w'') :
    o.upon P a next Q (.ok (.enter f args) w') := by
  rw [Oper.upon_enter]
  refine h.mono fun e w'' ⟨v, he, hn⟩ => ?_
  subst he
  exact hn

theorem run_callFunc {f : FuncId} {args : Array Value} (h : ∃ fn, P.funcs[f]? = some fn ∧ (fn.name == "runtime.NumGoroutine") = false ∧ fn.body.isNone = false) : (callFunc f args).run P w = .ok (.enter f args) w := by
  obtain ⟨fn, h1, h2, h3⟩ := h
  simp only [callFunc, Sem.run_bind, run_program, Result.andThen_ok, h1, h2, h3, Bool.false_eq_true, if_false, Sem.run_pure]

theorem RepL.ofList (h : Sup cx s a w μ ow) : ∀ l : List Operand, (∀ x ∈ l, (s.ev x).gd = true) → ∃ bl, RepL w μ (l.map fun x => (s.ev x).un) (l.map a.eval) bl ∧ ∀ b ∈ bl, VOK cx ow s.vw b
  | [], _ => ⟨[], .nil, by simp⟩
  | x :: l, hg => by
    obtain ⟨bl, h1, h2⟩ := RepL.ofList h l fun y hy => hg y (List.mem_cons_of_mem _ hy)
    obtain ⟨bx, r1, r2⟩ := h.evu x (hg x (List.mem_cons_self ..))
    exact ⟨bx ++ bl, .cons _ _ _ _ _ _ r1 h1, fun b hb => (List.mem_append.1 hb).elim (r2 b) (h2 b)⟩

/-- AN OPERATION THAT IS CARRIED OUT. -/
theorem aExec_sound (h : Rel cx s a w μ ow) (hd : dstOK o.dst s.n) {K : V → St → Prop} (hk : aExec P L s o K) {next : Act → World → Prop} {Q : Exit → Act → World → Prop}
    (hnext : ∀ v val s' w' μ' ow', Rel cx (s'.set o.dst val) (a.put o.dst v) w' μ' ow' → s'.n = s.n → K val s' → next (a.put o.dst v) w') : o.wp P a w next Q := by
  have hsup := h.sup
  have quiet : aop P s s.O.length true o.op (fun v new vw => K v { s with O := s.O ++ new, vw := vw }) → o.wp P a w next Q := by
    intro q
    obtain ⟨v, w', val, new, vw', hrun, g, hk'⟩ := aop_sound hsup q
    unfold Oper.wp
    rw [hrun, Oper.upon_value]
    obtain ⟨μ', ow', hrel⟩ := h.put (d := o.dst) (fun t e => by rw [e] at hd; exact hd) g
    rw [St.put_eq] at hrel
    exact hnext v val _ w' μ' ow' hrel rfl hk'
  unfold aExec at hk
  split at hk
  · rename_i T p x ho
    obtain ⟨hdst, ⟨g1, g2⟩, hk⟩ := hk
    obtain ⟨w', s', μ', ow', hrun, hrel, hn, hk'⟩ := store_sound h T p x ho g1 g2 hk
    unfold Oper.wp
    rw [hrun, Oper.upon_skip]
    refine hnext undef .any s' w' μ' ow' ?_ hn hk'
    rw [hdst]
    exact hrel
  · rename_i args tys ho
    obtain ⟨⟨s1, s2, s3, g1, g2⟩, hk⟩ := hk
    have e1 : args = #[args.getD 0 default, args.getD 1 default] := by
      obtain ⟨l⟩ := args
      match l, s1 with
      | [x, y], _ => simp
    have e2 : tys = #[tys.getD 0 0, tys.getD 0 0] := by
      obtain ⟨l⟩ := tys
      match l, s2, s3 with
      | [x, y], _, s3 => simp at s3 ⊢; exact s3.symm
    obtain ⟨v, w', val, s', μ', ow', hrun, hrel, hn, hrep, hk'⟩ := append_sound h (tys.getD 0 0) (args.getD 0 default) (args.getD 1 default) _ ho rfl e1 e2 g1 g2 hk
    unfold Oper.wp
    rw [hrun, Oper.upon_value]
    exact hnext v val s' w' μ' ow' (hrel.set (by rw [hn]; exact hd) hrep) hn hk'
  · rename_i args tys ho
    obtain ⟨⟨hdst, s1, s2, g1⟩, hk⟩ := hk
    have e1 := getD_one (d := default) s1
    have e2 := getD_one (d := 0) s2
    obtain ⟨w', s', μ', ow', hrun, hrel, hn, hk'⟩ := clear_sound h (tys.getD 0 0) (args.getD 0 default) _ ho rfl e1 e2 g1 hk
    unfold Oper.wp
    rw [hrun, Oper.upon_value]
    refine hnext (.tuple #[]) .any s' w' μ' ow' ?_ hn hk'
    rw [hdst]
    exact hrel
  · rename_i f args tys ho
    split at hk
    · rename_i g caps hf
      obtain ⟨⟨gf, ga⟩, hk⟩ := hk
      obtain ⟨bf, rf, vf⟩ := hsup.evu f gf
      rw [hf] at rf
      obtain ⟨bl, rl, vl⟩ := RepL.ofList hsup args.toList ga
      generalize haf : a.eval f = af at rf
      cases rf with
      | fn _ _ cvs _ hcl =>
        have hall := rl.append hcl
        have hbl : ∀ b ∈ bl ++ bf, VOK cx ow s.vw b := fun b hb => (List.mem_append.1 hb).elim (vl b) (vf b)
        have hcon : ∃ fn, P.funcs[g]? = some fn ∧ (fn.name == "runtime.NumGoroutine") = false ∧ fn.body.isNone = false := by
          obtain ⟨_, _, _, _, _, _, _, _, _, hc, _⟩ := hk
          exact hc.1
        have hcalls := call_state h g _ _ (args.map a.eval ++ cvs.toArray) (by have := hall.length; simp at this ⊢; omega) (by
          intro i v hv
          obtain ⟨x, b, k1, k2, k3⟩ := hall.get i v hv
          refine ⟨b, ?_, fun y hy => hbl y (k3 y hy)⟩
          have : (args.map a.eval ++ cvs.toArray).getD i undef = x := by
            rw [Array.getD_eq_getD_getElem?]
            have e3 : (args.map a.eval ++ cvs.toArray)[i]? = some x := by
              rw [← Array.getElem?_toList]
              simpa using k1
            rw [e3]; rfl
          rw [this]; exact k2) hk
        have hrun : (execOp a.eval o).run P w = .ok (.enter g (args.map a.eval ++ cvs.toArray)) w := by
          unfold execOp
          rw [ho]
          simp only [Sem.run_bind, resolve, haf, Deferred.ofValue, Sem.run_pure, Result.andThen_ok, invoke, Array.empty_append, run_callFunc hcon]
        unfold Oper.wp
        rw [hrun]
        refine upon_enter (hcalls.mono ?_)
        rintro e w' ⟨v, rfl, val, s', μ2, ow2, hrel, hn, hrep, hk'⟩
        exact ⟨v, rfl, hnext v val s' w' μ2 ow2 (hrel.set (by rw [hn]; exact hd) hrep) hn hk'⟩
    · exact hk.elim
  · exact quiet hk

end
end Go.Vm
