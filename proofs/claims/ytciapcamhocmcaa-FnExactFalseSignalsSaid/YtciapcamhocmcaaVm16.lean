/- The value machine, part 16: a function's contract out of its code. -/
import Derived.Test.YtciapcamhocmcaaVm15
set_option linter.unusedSimpArgs false
set_option linter.unusedVariables false
namespace Go.Vm
open Go

def envFrom (k : Nat) : List V → List (Nat × V)
  | [] => []
  | v :: vs => (k, v) :: envFrom (k + 1) vs

/-- The results: those that lie in a cell are loaded. -/
def resK (P : Program) (s : St) : List ResultVar → (List V → Bool → Prop) → Prop
  | [], K => K [] s.vw
  | .tmp t :: l, K => resK P s l fun vs vw => K (s.get t :: vs) vw
  | .cell t T :: l, K => resK P s l fun vs vw => (s.get t).gd = true ∧ aLoad P s T true (fun v _ vw' => K (v :: vs) (vw || vw')) (s.get t).un

def pickRV : List V → V
  | [v] => v
  | vs => .tup vs

def refs1 : V → List Nat
  | .ref id => [id]
  | _ => []
def refs2 : V → List Nat
  | .agg cs => cs.flatMap refs1
  | v => refs1 v
def refsOf : V → List Nat
  | .tup vs => vs.flatMap refs2
  | v => refs2 v

mutual
/-- Only such owned blocks are named. -/
def V.only (p : Nat → Bool) : V → Bool
  | .ref id => p id
  | .sub id _ _ => p id
  | .ptr id _ _ => p id
  | .fn _ cs => V.onlyL p cs
  | .agg cs => V.onlyL p cs
  | .tup cs => V.onlyL p cs
  | .opt _ v => V.only p v
  | .int _ _ => true
  | .bool _ => true
  | .str _ => true
  | .nsl => true
  | .sl _ => true
  | .pv _ _ _ => true
  | .npt => true
  | .nfn => true
  | .any => true
def V.onlyL (p : Nat → Bool) : List V → Bool
  | [] => true
  | v :: vs => V.only p v && V.onlyL p vs
end

/-- The number that a block has in the contract: those that were lent keep theirs. -/
def outNo (m : Nat) (nw : List Nat) (id : Nat) : Nat := if id < m then id else m + (idx nw id).getD 0

def RetOK (m : Nat) (s : St) (v : V) (r : V) (O' : List Blk) : Prop :=
  let nw := (refsOf v).filter fun id => Nat.ble m id
  (v.only (fun id => Nat.blt id m || (idx nw id).isSome) = true ∧ nw.Nodup ∧ m ≤ s.O.length) ∧
    r = v.ren (outNo m nw) ∧ O' = s.O.take m ++ nw.map (fun id => s.O.getD id .dead) ∧ (∀ bk ∈ O', bk.kindIs (fun k => k != .mix) = true) ∧
    (s.vw = false ∨ (v.clean = true ∧ ∀ bk ∈ O', bk.kindIs (fun k => k != .shal && k != .mix) = true))

section
variable {P : Program} {L : Lend} {cx : Cx} {s : St} {a : Act} {w : World} {μ : Nat → Option Loc} {ow : Ow}

mutual
theorem Rep.only {p : Nat → Bool} {μ' : Nat → Option Loc} (hp : ∀ id l, p id = true → μ id = some l → μ' id = some l) : ∀ {v : V} {x : Value} {bl : List Nat}, Rep w μ v x bl → v.only p = true → Rep w μ' v x bl
  | _, _, _, .int k n, _ => .int k n
  | _, _, _, .bool b, _ => .bool b
  | _, _, _, .str s, _ => .str s
  | _, _, _, .nsl a, _ => .nsl a
  | _, _, _, .sl0 a c, _ => .sl0 a c
  | _, _, _, .sl xs b off c sz vs bl h0 hc hs hz hl h1 hr, _ => .sl xs b off c sz vs bl h0 hc hs hz hl h1 hr
  | _, _, _, .ref id l v h hd, ho => .ref id l v (hp _ _ (by rw [V.only] at ho; exact ho) h) hd
  | _, _, _, .sub id lo n l h hr hn, ho => .sub id lo n l (hp _ _ (by rw [V.only] at ho; exact ho) h) hr hn
  | _, _, _, .sub0 id lo l a h hn, ho => .sub0 id lo l a (hp _ _ (by rw [V.only] at ho; exact ho) h) hn
  | _, _, _, .ptr id i off l h hi, ho => .ptr id i off l (hp _ _ (by rw [V.only] at ho; exact ho) h) hi
  | _, _, _, .pv xs i off b o sz vs bl hi hs hz hl h1 hr, _ => .pv xs i off b o sz vs bl hi hs hz hl h1 hr
  | _, _, _, .npt, _ => .npt
  | _, _, _, .fn f cs vs bl hl, ho => .fn f cs vs bl (RepL.only hp hl (by rw [V.only] at ho; exact ho))
  | _, _, _, .nfn, _ => .nfn
  | _, _, _, .agg cs vs bl hl h1, ho => .agg cs vs bl (RepL.only hp hl (by rw [V.only] at ho; exact ho)) h1
  | _, _, _, .tup cs vs bl hl, ho => .tup cs vs bl (RepL.only hp hl (by rw [V.only] at ho; exact ho))
  | _, _, _, .optT v x bl h, ho => .optT v x bl (Rep.only hp h (by rw [V.only] at ho; exact ho))
  | _, _, _, .optF v, _ => .optF v
  | _, _, _, .any x, _ => .any x
theorem RepL.only {p : Nat → Bool} {μ' : Nat → Option Loc} (hp : ∀ id l, p id = true → μ id = some l → μ' id = some l) : ∀ {vs : List V} {xs : List Value} {bl : List Nat}, RepL w μ vs xs bl → V.onlyL p vs = true → RepL w μ' vs xs bl
  | _, _, _, .nil, _ => .nil
  | _, _, _, .cons v x bl vs xs bl' h ht, ho => by
    rw [V.onlyL, Bool.and_eq_true] at ho
    exact .cons v x bl vs xs bl' (Rep.only hp h ho.1) (RepL.only hp ht ho.2)
end

theorem look_envFrom : ∀ (l : List V) (k t : Nat), k ≤ t → look t (envFrom k l) = l.getD (t - k) .any
  | [], k, t, _ => by simp [envFrom, look]
  | v :: vs, k, t, h => by
    simp only [envFrom, look]
    cases e : Nat.beq t k with
    | true =>
      have := Nat.eq_of_beq_eq_true e
      subst this
      simp
    | false =>
      have hne : t ≠ k := fun q => by rw [q, Nat.beq_refl] at e; cases e
      rw [cond_false, look_envFrom vs (k + 1) t (by omega)]
      obtain ⟨d, hd⟩ : ∃ d, t - k = d + 1 := ⟨t - k - 1, by omega⟩
      rw [hd, show t - (k + 1) = d by omega]
      simp

def pickRes : List Value → Value
  | [x] => x
  | xs => .tuple xs.toArray

theorem load_val (h : Sup cx s a w μ ow) (T : TypeId) (p : Operand) {K : KV} (hg : (s.ev p).gd = true) (hk : aLoad P s T true K (s.ev p).un) :
    ∃ v val vw' ad, a.eval p = .pointer (some ad) ∧ (loadVar T ad).run P w = .ok v w ∧ (∃ bl, Rep w μ val v bl ∧ ∀ b ∈ bl, VOK cx ow vw' b) ∧ (s.vw = true → vw' = true) ∧ K val [] vw' := by
  obtain ⟨bx, rx, hb⟩ := h.evu p hg
  have hrun : ∀ {ad v}, (Instr.loadAt T (.pointer (some ad))).run P w = .ok v w → (loadVar T ad).run P w = .ok v w := by
    intro ad v e
    rw [← e]
    rfl
  generalize (s.ev p).un = vx at *
  unfold aLoad at hk
  split at hk
  · rename_i id i off
    obtain ⟨l, hl, hi, e⟩ := rx.ptr_inv
    cases hrow : s.row id with
    | none => rw [hrow] at hk; exact hk.elim
    | some xk =>
      obtain ⟨xs, k⟩ := xk
      rw [hrow] at hk
      obtain ⟨hT, hk⟩ := hk
      obtain ⟨l', h1, h2, h3⟩ := h.row hrow
      rw [hl] at h1
      cases h1
      rcases h3 with ⟨_, h3⟩ | ⟨_, h4, bl, h5, h6, h7⟩
      · subst h3; simp at h2; omega
      · obtain ⟨vs, c1, c2, c3⟩ := h5.rowOf
        obtain ⟨v, b', r1, r2, r3⟩ := load_row (P := P) (T := T) (off := off) (i := i) (by omega) h5.each c1 c2 c3 (hT rfl)
        refine ⟨v, _, _, _, e, hrun r1, ⟨b', r2.keep (k.mu_le μ) fun _ _ => rfl, ?_⟩, (fun hv => by simp [hv]), hk⟩
        intro y hy
        have hyb := r3 y hy
        cases k with
        | flat | thin => have : bl = [] := h6; subst this; simp at hyb
        | deep =>
          have hn : (part P T (xs.getD i .any) off).noSl = false := by
            cases hq : (part P T (xs.getD i .any) off).noSl with
            | false => rfl
            | true => have := noSl_nil r2 hq; subst this; simp at hy
          have hown := h6.2 y hyb
          refine ⟨.inr ⟨by rw [hn]; simp, id, hown⟩, ?_⟩
          exact .inr (h.own y (by rw [hown]; simp))
        | shal => exact (h6 y hyb).mono rfl (fun hv => by simp [hv])
        | mix => exact (h6 y hyb).mono rfl (fun hv => by simp [hv])
  · rename_i xs i off
    obtain ⟨hT, hk⟩ := hk
    obtain ⟨b, o', sz, vs, bl', hi, hs, hz, hl, h1, hr, rfl, e⟩ := rx.pv_inv
    obtain ⟨v, b', r1, r2, r3⟩ := load_row (P := P) (T := T) (off := off) hi hz hl h1 hr (hT rfl)
    exact ⟨v, _, _, _, e, hrun r1, ⟨b', r2.keep (MLe.zero μ) fun _ _ => rfl, fun y hy => hb y (List.mem_cons_of_mem _ (r3 y hy))⟩, id, hk⟩
  · exact hk.elim

theorem Rel.up (h : Rel cx s a w μ ow) {vw : Bool} (hv : s.vw = true → vw = true) : Rel cx { s with vw := vw } a w μ ow := by
  refine ⟨h.dfr, h.sz, fun t => ?_, fun id bk e => ?_, h.dom, h.owl, h.own, h.frm, h.mu⟩
  · obtain ⟨bl, r1, r2⟩ := h.env t
    exact ⟨bl, r1, fun b hb => (r2 b hb).mono rfl hv⟩
  · have := h.blk id bk e
    have key : ∀ xs k, RowOK cx w μ ow s.vw id xs k → RowOK cx w μ ow vw id xs k := by
      rintro xs k ⟨l, h1, h2, h3⟩
      refine ⟨l, h1, h2, h3.imp (fun q => q) ?_⟩
      rintro ⟨q1, q2, bl, q3, q4, q5⟩
      exact ⟨q1, q2, bl, q3, q4.mono (fun _ _ => rfl) hv, q5⟩
    cases bk with
    | dead => trivial
    | arr xs k => exact key xs k this
    | box x k => exact key [x] k this

theorem resF (rs : List ResultVar) (tmps : Array Value) (F : ResultVar → Sem Value) (hF : ∀ t, F (.tmp t) = pure (tmps.getD t undef)) (hC : ∀ t T, F (.cell t T) = (do loadVar T (← asAddr (tmps.getD t undef)))) :
    ∀ {a : Act}, a.tmps = tmps → Rel cx s a w μ ow → ∀ {K : List V → Bool → Prop}, resK P s rs K → ∃ xs vs vw bl, (rs.mapM F).run P w = .ok xs w ∧ RepL w μ vs xs bl ∧ (∀ b ∈ bl, VOK cx ow vw b) ∧ (s.vw = true → vw = true) ∧ K vs vw := by
  intro a ha h
  induction rs with
  | nil => intro K hk; exact ⟨[], [], s.vw, [], by simp, .nil, by simp, id, hk⟩
  | cons r rs ih =>
    intro K hk
    cases r with
    | tmp t =>
      obtain ⟨xs, vs, vw, bl, h1, h2, h3, h4, h5⟩ := ih hk
      obtain ⟨bt, r1, r2⟩ := h.env t
      rw [ha] at r1
      refine ⟨_, _, vw, bt ++ bl, ?_, .cons _ _ _ _ _ _ r1 h2, fun b hb => (List.mem_append.1 hb).elim (fun q => (r2 b q).mono rfl h4) (h3 b), h4, h5⟩
      simp only [List.mapM_cons, Sem.run_bind, hF, Sem.run_pure, Result.andThen_ok, h1]
    | cell t T =>
      obtain ⟨xs, vs, vw, bl, h1, h2, h3, h4, hg, h5⟩ := ih hk
      obtain ⟨v, val, vw', ad, e1, e2, ⟨bt, r1, r2⟩, e3, e4⟩ := load_val h.sup T (.tmp t) hg h5
      have e1' : tmps.getD t undef = .pointer (some ad) := by rw [← e1, ← ha]; rfl
      refine ⟨_, _, vw || vw', bt ++ bl, ?_, .cons _ _ _ _ _ _ r1 h2, fun b hb => (List.mem_append.1 hb).elim (fun q => (r2 b q).mono rfl (by intro z; simp [z])) (fun q => (h3 b q).mono rfl (by intro z; simp [z])), fun q => by simp [e3 q], e4⟩
      have e5 : (do loadVar T (← asAddr (tmps.getD t undef)) : Sem Value).run P w = .ok v w := by rw [e1', ← e2]; rfl
      simp only [List.mapM_cons, Sem.run_bind, hC] at e5 ⊢
      rw [e5]
      simp only [Sem.run_pure, Result.andThen_ok, h1]

def resF1 (tmps : Array Value) : ResultVar → Sem Value
  | .tmp t => pure (tmps.getD t undef)
  | .cell t T => do loadVar T (← asAddr (tmps.getD t undef))

theorem run_results {fn : Func} (rs : List ResultVar) (hts : fn.results = rs.toArray) (h : Rel cx s a w μ ow) {K : List V → Bool → Prop} (hk : resK P s rs K) :
    ∃ xs vs vw bl, (results fn a.tmps).run P w = .ok (pickRes xs) w ∧ RepL w μ vs xs bl ∧ (∀ b ∈ bl, VOK cx ow vw b) ∧ (s.vw = true → vw = true) ∧ K vs vw := by
  have key : ∀ (F : ResultVar → Sem Value), (∀ t, F (.tmp t) = pure (a.tmps.getD t undef)) → (∀ t T, F (.cell t T) = (do loadVar T (← asAddr (a.tmps.getD t undef)))) →
      ∃ xs vs vw bl, (Functor.map List.toArray (List.mapM F rs)).run P w = .ok xs.toArray w ∧ RepL w μ vs xs bl ∧ (∀ b ∈ bl, VOK cx ow vw b) ∧ (s.vw = true → vw = true) ∧ K vs vw := by
    intro F hF hC
    obtain ⟨xs, vs, vw, bl, h1, h2⟩ := resF rs a.tmps F hF hC rfl h hk
    refine ⟨xs, vs, vw, bl, ?_, h2⟩
    rw [map_eq_pure_bind, Sem.run_bind, h1]
    rfl
  unfold results
  rw [hts]
  simp only [Sem.run_bind, List.mapM_toArray]
  obtain ⟨xs, vs, vw, bl, h1, h2⟩ := key (resF1 a.tmps) (fun _ => rfl) (fun _ _ => rfl)
  refine ⟨xs, vs, vw, bl, ?_, h2⟩
  have e : ∀ G, G = resF1 a.tmps → (Functor.map List.toArray (List.mapM G rs)).run P w = .ok xs.toArray w := by rintro _ rfl; exact h1
  rw [e _ (by funext r; cases r <;> rfl)]
  simp only [Result.andThen_ok, Sem.run_pure]
  match xs with
  | [] => simp [pickRes]
  | [t] => simp [pickRes]
  | t :: u :: l => simp [pickRes]

theorem pick_rep {vs : List V} {xs : List Value} {bl : List Nat} (h : RepL w μ vs xs bl) : ∃ bl', Rep w μ (pickRV vs) (pickRes xs) bl' ∧ ∀ b ∈ bl', b ∈ bl := by
  match vs, xs, h with
  | [], _, .nil => exact ⟨[], .tup _ _ _ .nil, by simp⟩
  | [v], _, .cons _ _ bx _ _ _ h1 .nil => exact ⟨bx, h1, fun b hb => by simp [hb]⟩
  | v :: u :: l, _, .cons _ _ bx _ _ _ h1 (.cons _ _ by' _ _ bz h2 h3) => exact ⟨_, .tup _ _ _ (.cons _ _ _ _ _ _ h1 (.cons _ _ _ _ _ _ h2 h3)), fun b hb => hb⟩

theorem con_of_awp {f : FuncId} {fn : Func} {c : Code} {args : List V} {O : List Blk} {r : V} {O' : List Blk} (rs : List ResultVar) (L : Lend) (mask : Nat) (hf : P.funcs[f]? = some fn) (hname : (fn.name == "runtime.NumGoroutine") = false)
    (hb : fn.body = some c) (hts : fn.results = rs.toArray) (hn : args.length ≤ fn.ntmps)
    (h : awp P L O.length c (fun e s => match e with | .exit _ => False | _ => resK P s rs fun vs vw => RetOK O.length { s with vw := vw } (pickRV vs) r O') ⟨envFrom 0 args, O, false, fn.ntmps, mask⟩) : Con P f args O r O' := by
  refine ⟨⟨fn, hf, hname, by rw [hb]; rfl⟩, fun w vals μ ow vis hi => ?_⟩
  refine calls_of_wp hf hb ?_
  let cx : Cx := ⟨w, fun b => ow b ≠ none, vis, μ⟩
  have hrel : Rel cx ⟨envFrom 0 args, O, false, fn.ntmps, mask⟩ { tmps := vals ++ Array.replicate (fn.ntmps - vals.size) undef, defers := [] } w μ ow := by
    refine ⟨rfl, ?_, fun t => ?_, hi.blk, hi.dom, hi.owl, fun b hb => .inl hb, ⟨Nat.le_refl _, fun _ _ _ => rfl, rfl, rfl, rfl, fun _ _ => rfl⟩, MLe.refl _⟩
    · have := hi.sz
      simp only [Array.size_append, Array.size_replicate]
      omega
    · show ∃ bl, Rep w μ (look t (envFrom 0 args)) _ bl ∧ _
      rw [look_envFrom args 0 t (Nat.zero_le _), Nat.sub_zero]
      cases e : args[t]? with
      | none =>
        rw [List.getD_eq_getElem?_getD, e]
        exact ⟨[], .any _, by simp⟩
      | some v =>
        rw [List.getD_eq_getElem?_getD, e]
        obtain ⟨bl, r1, r2⟩ := hi.arg t v e
        have ht : t < vals.size := by
          rw [hi.sz]
          rcases Nat.lt_or_ge t args.length with q | q
          · exact q
          · rw [List.getElem?_eq_none q] at e; cases e
        have hslot : (vals ++ Array.replicate (fn.ntmps - vals.size) undef).getD t undef = vals.getD t undef := by
          rw [Array.getD_eq_getD_getElem?, Array.getD_eq_getD_getElem?, Array.getElem?_append_left ht]
        exact ⟨bl, by rw [hslot]; exact r1, fun b hb => ⟨.inl (r2 b hb).1, .inl (r2 b hb).2⟩⟩
  have hpost : ∀ (s' : St) (a' : Act) (w' : World) (μ' : Nat → Option Loc) (ow' : Ow), Rel cx s' a' w' μ' ow' → (resK P s' rs fun vs vw => RetOK O.length { s' with vw := vw } (pickRV vs) r O') →
      a'.defers = [] ∧ ∃ v, (results fn a'.tmps).run P w' = .ok v w' ∧ ∃ v2 μ2 ow2, Ending.returned v = .returned v2 ∧ Out w O μ ow vis r O' v2 w' μ2 ow2 := by
    intro s₀ a' w' μ' ow' hr₀ hok₀
    obtain ⟨xs, vs, vw, bl₀, hrun, hrl, hvk₀, hvw, hok⟩ := run_results rs hts hr₀ hok₀
    obtain ⟨bl, rep, hin₀⟩ := pick_rep hrl
    have views : ∀ b ∈ bl, VOK cx ow' vw b := fun b hb => hvk₀ b (hin₀ b hb)
    have hr := hr₀.up hvw
    refine ⟨hr₀.dfr, _, hrun, ?_⟩
    generalize hse : ({ s₀ with vw := vw } : St) = s' at hr hok
    have hvwe : vw = s'.vw := by rw [← hse]
    rw [hvwe] at views
    generalize pickRV vs = rv at rep hok
    obtain ⟨⟨honly, hnd, hm⟩, hre, hOe, hmix, hview⟩ := hok
    let m := O.length
    let nw := (refsOf rv).filter fun id => Nat.ble m id
    have hnwge : ∀ id ∈ nw, m ≤ id := fun id hid => Nat.le_of_ble_eq_true (List.mem_filter.1 hid).2
    let μr : Nat → Option Loc := fun j => if j < m then μ' j else (nw[j - m]?).bind μ'
    let owr : Ow := fun b => match ow' b with
      | some (r, id) => if id < m then some (r, id) else (idx nw id).map fun j => (r, m + j)
      | none => none
    have owr_none : ∀ b, ow' b = none → owr b = none := fun b e => by simp [owr, e]
    have owr_ne : ∀ b, owr b ≠ none → ow' b ≠ none := fun b hb e => hb (owr_none b e)
    have howr : ∀ b r id, ow' b = some (r, id) → id < m ∨ id ∈ nw → owr b = some (r, outNo m nw id) := by
      intro b r id e hid
      by_cases hlt : id < m
      · simp [owr, e, hlt, outNo]
      · have hmem : id ∈ nw := hid.resolve_left hlt
        obtain ⟨j, hj⟩ := Option.isSome_iff_exists.1 (idx_mem hmem)
        simp [owr, e, hlt, outNo, hj]
    have hμr : ∀ id l, (Nat.blt id m || (idx nw id).isSome) = true → μ' id = some l → μr (outNo m nw id) = some l := by
      intro id l hp e
      by_cases hlt : id < m
      · simp [μr, outNo, hlt, e]
      · have hs : (idx nw id).isSome = true := by
          have : Nat.blt id m = false := by
            cases q : Nat.blt id m with
            | false => rfl
            | true => exact absurd (Nat.le_of_ble_eq_true q) (by omega)
          rw [this] at hp; simpa using hp
        obtain ⟨j, hj⟩ := Option.isSome_iff_exists.1 hs
        have := idx_spec hj
        have e1 : ¬ m + j < m := by omega
        have e2 : m + j - m = j := by omega
        simp [μr, outNo, hlt, hj, e1, e2, this, e]
    refine ⟨_, μr, owr, rfl, ?_⟩
    have hlenO : O'.length = m + nw.length := by
      rw [hOe, List.length_append, List.length_take, List.length_map, Nat.min_eq_left hm]
    refine ⟨⟨bl, ?_, fun b hb => ?_⟩, fun j bk e => ?_, hmix, fun id l e => ?_, by omega, fun j hj => ?_, fun b hb => hr.owl b (owr_ne b hb), fun b hb => hr.own b (owr_ne b hb), hr.frm⟩
    · rw [hre]
      let μ1 : Nat → Option Loc := fun id => if (Nat.blt id m || (idx nw id).isSome) = true then μ' id else none
      have r1 : Rep w' μ1 rv _ bl := rep.only (p := fun id => Nat.blt id m || (idx nw id).isSome) (fun id l hp e => by simp only [μ1]; rw [if_pos hp]; exact e) honly
      refine r1.ren fun id l e => ?_
      simp only [μ1] at e
      split at e
      · rename_i hp
        exact hμr id l hp e
      · cases e
    · rcases hview with hv | hv
      · have := views b hb
        rw [hv] at this
        rcases this.1 with q | ⟨q, _⟩
        · exact ⟨owr_none b q, this.2⟩
        · cases q
      · rw [clean_nil rep hv.1] at hb; cases hb
    · -- a block that is handed back
      have src : ∃ id, s'.O[id]? = some bk ∧ (id < m ∨ id ∈ nw) ∧ outNo m nw id = j ∨ bk = .dead := by
        rw [hOe] at e
        by_cases hj : j < m
        · rw [List.getElem?_append_left (by rw [List.length_take]; omega), List.getElem?_take_of_lt hj] at e
          exact ⟨j, .inl ⟨e, .inl hj, by simp [outNo, hj]⟩⟩
        · have hlt : (s'.O.take O.length).length = m := by rw [List.length_take, Nat.min_eq_left hm]
          rw [List.getElem?_append_right (by omega), hlt, List.getElem?_map] at e
          cases q : nw[j - m]? with
          | none => rw [q] at e; cases e
          | some id =>
            rw [q] at e
            simp only [Option.map_some, Option.some.injEq] at e
            have hmem := List.mem_of_getElem? q
            have hge := hnwge id hmem
            cases q2 : s'.O[id]? with
            | none => rw [List.getD_eq_getElem?_getD, q2] at e; exact ⟨0, .inr e.symm⟩
            | some bk2 =>
              rw [List.getD_eq_getElem?_getD, q2] at e
              simp only [Option.getD_some] at e
              subst e
              refine ⟨id, .inl ⟨q2, .inr hmem, ?_⟩⟩
              have hix := idx_get hnd q
              simp only [outNo, if_neg (Nat.not_lt.2 hge), nw, m] at hix ⊢
              rw [hix]
              show O.length + (j - O.length) = j
              have : m = O.length := rfl
              omega
      obtain ⟨id, src⟩ := src
      rcases src with ⟨e1, hin, hno⟩ | hdead
      · have hblk := hr.blk id bk e1
        have hp : (Nat.blt id m || (idx nw id).isSome) = true := by
          rcases hin with q | q
          · have : Nat.blt id m = true := Nat.ble_eq_true_of_le q
            rw [this]; rfl
          · rw [idx_mem q]; simp
        have hbm := hmix bk (List.mem_of_getElem? e)
        have key : ∀ xs k, k ≠ .mix → (s'.vw = true → k ≠ .shal ∧ k ≠ .mix) → RowOK cx w' μ' ow' s'.vw id xs k → RowOK cx w' μr owr false j xs k := by
          intro xs k hk hvk ⟨l, q1, q2, q3⟩
          have q1' := hμr id l hp q1
          rw [hno] at q1'
          refine ⟨l, q1', q2, ?_⟩
          rcases q3 with q3 | ⟨q3, q4, bl2, q5, q6, q7⟩
          · exact .inl q3
          · refine .inr ⟨q3, by rw [howr _ _ _ q4 hin, hno], bl2, by rw [mu_ne_mix hk]; rw [mu_ne_mix hk] at q5; exact q5, ?_, q7⟩
            cases k with
            | flat | thin => exact q6
            | deep => exact ⟨q6.1, fun b hb => by rw [howr _ _ _ (q6.2 b hb) hin, hno]⟩
            | shal =>
              intro b hb
              have hvw : s'.vw = false := by
                cases z : s'.vw with
                | false => rfl
                | true => exact absurd rfl (hvk z).1
              have hvok := q6 b hb
              rw [hvw] at hvok
              rcases hvok.1 with z | ⟨z, _⟩
              · exact ⟨.inl (owr_none b z), hvok.2⟩
              · cases z
            | mix => exact absurd rfl hk
        have hvk : ∀ k, bk.row = some (bk.row.map (·.1) |>.getD [], k) → s'.vw = true → k ≠ .shal ∧ k ≠ .mix := by
          intro k hk hvw
          rcases hview with q | q
          · rw [hvw] at q; cases q
          · have := q.2 bk (List.mem_of_getElem? e)
            cases bk with
            | dead => cases hk
            | arr xs k' => simp [Blk.kindIs, Blk.row] at this hk; rw [← hk]; exact this
            | box x k' => simp [Blk.kindIs, Blk.row] at this hk; rw [← hk]; exact this
        cases bk with
        | dead => trivial
        | arr xs k => exact key xs k (by simpa [Blk.kindIs] using hbm) (hvk k rfl) hblk
        | box x k => exact key [x] k (by simpa [Blk.kindIs] using hbm) (hvk k rfl) hblk
      · subst hdead; trivial
    · have hlt : id < m := by
        rcases Nat.lt_or_ge id m with q | q
        · exact q
        · rw [hi.dom id q] at e; cases e
      have := hr.mu id l e
      simp [μr, hlt, this]
    · have h1 : ¬ j < m := by omega
      have h2 : nw[j - m]? = none := List.getElem?_eq_none (by omega)
      simp [μr, h1, h2]
  refine awp_sound hi.dom c hrel h fun e s' a' w' μ' ow' hr hq => ?_
  cases e with
  | exit id => exact hq.elim
  | normal =>
    obtain ⟨h1, v, h2, v2, μ2, ow2, h3, h4⟩ := hpost s' a' w' μ' ow' hr hq
    exact ⟨h1, v, h2, v2, μ2, ow2, h3, h4⟩
  | ret =>
    obtain ⟨h1, v, h2, v2, μ2, ow2, h3, h4⟩ := hpost s' a' w' μ' ow' hr hq
    exact ⟨h1, v, h2, v2, μ2, ow2, h3, h4⟩

end
end Go.Vm
