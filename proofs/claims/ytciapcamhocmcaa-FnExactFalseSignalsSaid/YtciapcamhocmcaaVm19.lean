/- The value machine, part 19: a law is closed. -/
import Derived.Test.YtciapcamhocmcaaVm18
set_option linter.unusedSimpArgs false
set_option linter.unusedVariables false
namespace Go.Vm
open Go Go.ChangeShapes Go.WideShapes Go.ChangeAt Go.RowKit

/-- A law's end, where memory that is new may be made fast. -/
theorem post_of_old {H : Type} {enc : TypeId × Value → H} {P : Program} {f : Func} {s : ChangeSpec} {apart fresh handsOn again : Bool} {W W' : World} {args : Array Value} {v : Value} {ds gs : List (DataW H)} {before pa pv : List MemPlace}
    (hW : DataW.Whole enc P f.params.toList s.vars apart W args.toList ds gs before)
    (hres : ∀ (b : Nat) (sp : Nat → Bool) (hd : Bool), DataW.TrodAll enc P W' b sp hd f.resultTypes.toList (v.resultList f.resultTypes.size) (s.fn H (ds ++ gs)).results [])
    (hargs : ∀ sp : Nat → Bool, (∀ p ∈ before, sp p.block = true) → DataW.TrodAll enc P W' 0 sp true f.params.toList args.toList (s.fn H (ds ++ gs)).args pa)
    (hvars : ∀ sp : Nat → Bool, (∀ p ∈ before, sp p.block = true) → DataW.TrodVars enc P W' sp s.vars (s.fn H (ds ++ gs)).vars pv)
    (hps : before = pa ++ pv) (hk : W.keptBut W' (· ∈ before)) (hfz : ∀ a, a.block < W.heap.size → W'.frozen? a = W.frozen? a)
    (hok : ∀ (j : Nat) (t : TypeId) (r : Value), f.resultTypes[j]? = some t → (v.resultList f.resultTypes.size)[j]? = some r → Value.okWide P W' .any 0 t r) :
    s.post enc P f apart fresh handsOn again W args v W' := by
  have hlt : ∀ p ∈ before, p.block < W.heap.size := fun p hp => by simpa using hW.lt p hp
  have hold : ∀ p ∈ before, (fun b => decide (b < W.heap.size)) p.block = true := fun p hp => by simpa using hlt p hp
  refine ⟨ds, gs, before, [], pa, pv, hW, hres _ _ _, hargs _ hold, hvars _ hold, World.keptBut_mono (fun p hp => ⟨hp, .inr (by rw [hps, List.mem_append] at hp; exact hp)⟩) hk, fun _ => ?_⟩
  obtain ⟨_, _, _, _, _, hz, hn⟩ := hW
  refine ⟨hok, _, _, ([] ++ pa) ++ pv, ⟨[] ++ pa, pv, trodAll_append (hargs _ (fun _ _ => rfl)) (hres _ _ _), hvars _ (fun _ _ => rfl), rfl, ?_, ?_⟩, fun p hp _ => by rw [hps]; simpa using hp⟩
  · intro b off hp
    have hb : MemPlace.cell b off ∈ before := by rw [hps]; simpa using hp
    rw [hfz _ (hlt _ hb)]
    exact hz b off hb
  · intro ha
    have := hn ha
    rw [hps] at this
    simpa using this

def argSh (P : Program) (n : Nat) (t : TypeId) : Option (Bool × List Sh) := (shC P n t).map fun cs => (Program.isAggT P t, cs)
def argHas (s : Bool × List Sh) (v : V) : Prop := if s.1 then ∃ l, v = .agg l ∧ Sh.hasL s.2 l else Sh.hasL s.2 [v]
def argsHave : List (Bool × List Sh) → List V → Prop
  | [], [] => True
  | s :: ss, v :: vs => argHas s v ∧ argsHave ss vs
  | _, _ => False

theorem args_cons {s : Bool × List Sh} {ss : List (Bool × List Sh)} : ∀ {vs : List V}, argsHave (s :: ss) vs → ∃ v vs', vs = v :: vs' ∧ argHas s v ∧ argsHave ss vs'
  | v :: vs, h => ⟨v, vs, rfl, h⟩
theorem args_nil : ∀ {vs : List V}, argsHave [] vs → vs = []
  | [], _ => rfl
theorem hasL_cons {s : Sh} {ss : List Sh} : ∀ {vs : List V}, Sh.hasL (s :: ss) vs → ∃ v vs', vs = v :: vs' ∧ s.has v ∧ Sh.hasL ss vs'
  | v :: vs, h => by rw [Sh.hasL] at h; exact ⟨v, vs, rfl, h⟩
  | [], h => by simp [Sh.hasL] at h
theorem hasL_nil : ∀ {vs : List V}, Sh.hasL [] vs → vs = []
  | [], _ => rfl
  | v :: vs, h => by simp [Sh.hasL] at h
theorem arg_agg {cs : List Sh} {v : V} (h : argHas (true, cs) v) : ∃ l, v = .agg l ∧ Sh.hasL cs l := by simpa [argHas] using h
theorem arg_one {s : Sh} {v : V} (h : argHas (false, [s]) v) : s.has v := by
  simp only [argHas, Bool.false_eq_true, if_false, Sh.hasL] at h
  exact h.1
theorem list_of {α : Type} {f : α → V} {Q : α → Prop} : ∀ {xs : List V}, (∀ x ∈ xs, ∃ a, x = f a ∧ Q a) → ∃ l : List α, xs = l.map f ∧ ∀ a ∈ l, Q a
  | [], _ => ⟨[], rfl, by simp⟩
  | x :: xs, h => by
    obtain ⟨a, rfl, ha⟩ := h x (List.mem_cons_self ..)
    obtain ⟨l, rfl, hl⟩ := list_of fun y hy => h y (List.mem_cons_of_mem _ hy)
    exact ⟨a :: l, rfl, by simpa using ⟨ha, hl⟩⟩
theorem has_int {k : IntKind} {v : V} (h : (Sh.int k).has v) : ∃ n, v = .int k n ∧ (Lit.int k n).wf = true := by rw [Sh.has] at h; exact h
theorem has_bool {v : V} (h : Sh.bool.has v) : ∃ b, v = .bool b := by rw [Sh.has] at h; exact h
theorem has_boolT {v : V} (h : Sh.bool.has v) : ∃ b, v = .bool b ∧ True := (has_bool h).imp fun _ e => ⟨e, trivial⟩
theorem has_str {v : V} (h : Sh.str.has v) : ∃ s, v = .str s ∧ s.size ≤ maxLen := by rw [Sh.has] at h; exact h
/-- A slice of plain things. -/
theorem has_sl {s : Sh} {v : V} {α : Type} {f : α → V} {Q : α → Prop} (h : (Sh.sl false [s]).has v) (hf : ∀ {x}, s.has x → ∃ a, x = f a ∧ Q a) : ∃ l : List α, v = .sl (l.map f) ∧ l.length ≤ maxLen ∧ ∀ a ∈ l, Q a := by
  rw [Sh.has] at h
  obtain ⟨xs, rfl, hl, hx⟩ := h
  obtain ⟨l, rfl, hq⟩ := list_of (f := f) (Q := Q) fun x hx' => hf (by
    have := hx x hx'
    simp only [Bool.false_eq_true, if_false, Sh.hasL] at this
    exact this.1)
  exact ⟨l, rfl, by simpa using hl, hq⟩
/-- A slice of structs. -/
theorem has_slA {cs : List Sh} {v : V} {α : Type} {f : α → V} {Q : α → Prop} (h : (Sh.sl true cs).has v) (hf : ∀ {l}, Sh.hasL cs l → ∃ a, V.agg l = f a ∧ Q a) : ∃ l : List α, v = .sl (l.map f) ∧ l.length ≤ maxLen ∧ ∀ a ∈ l, Q a := by
  rw [Sh.has] at h
  obtain ⟨xs, rfl, hl, hx⟩ := h
  obtain ⟨l, rfl, hq⟩ := list_of (f := f) (Q := Q) fun x hx' => by
    have := hx x hx'
    simp only [if_true] at this
    obtain ⟨l, rfl, h⟩ := this
    exact hf h
  exact ⟨l, rfl, by simpa using hl, hq⟩

section
variable {H : Type} {enc : TypeId × Value → H} {P : Program} {w : World} {spare : Nat → Bool} {held : Bool} {base : Nat}

theorem seen_arg (hspare : ∀ b, spare b = true) {n : Nat} {t : TypeId} {v : Value} {d : DataW H} {ps : List MemPlace} {s : Bool × List Sh} (hs : argSh P n t = some s) (hok : Value.okWide P w .any base t v) (h : DataW.Trod enc P w 0 spare held t v d ps) :
    ∃ V, argHas s V ∧ ∃ bl, Rep w M0 V v bl ∧ ∀ b ∈ bl, b < w.heap.size := by
  obtain ⟨fuel, h⟩ := h
  unfold argSh at hs
  rw [Option.map_eq_some_iff] at hs
  obtain ⟨cs, hsc, rfl⟩ := hs
  obtain ⟨l, ⟨bl, r1, r2⟩, hh, ho⟩ := seen hspare fuel t _ _ n cs hsc h
  cases hg : Program.isAggT P t with
  | true =>
    have : ∃ a, v = .agg a := by
      unfold Program.isAggT at hg
      cases n with
      | zero => simp [shC] at hsc
      | succ n =>
        unfold shC at hsc
        split at hsc
        · rename_i e; rw [e] at hg; simp at hg
        · rename_i e; rw [e] at hg; simp at hg
        · rename_i e; rw [e] at hg; simp at hg
        · rename_i e; rw [e] at hg; simp at hg
        · rename_i e; obtain ⟨a, h1, _⟩ := okWide_struct e hok; exact ⟨a, h1⟩
        · cases hsc
    obtain ⟨a, rfl⟩ := this
    refine ⟨.agg l, by simp only [argHas, if_true]; exact ⟨l, rfl, hh⟩, bl, ?_, r2⟩
    exact .agg l a.toList bl r1 ho
  | false =>
    have hv : v.cells = #[v] := by
      unfold Program.isAggT at hg
      cases n with
      | zero => simp [shC] at hsc
      | succ n =>
        unfold shC at hsc
        split at hsc
        · rename_i e; obtain ⟨b, rfl⟩ := okWide_bool e hok; rfl
        · rename_i e; obtain ⟨b, rfl⟩ := okWide_int e hok; rfl
        · rename_i e; obtain ⟨b, rfl⟩ := okWide_string e hok; rfl
        · rename_i e; obtain ⟨a, b, c, rfl⟩ := okWide_slice e hok; rfl
        · rename_i e; rw [e] at hg; simp at hg
        · cases hsc
    rw [hv] at r1
    obtain ⟨s, rfl⟩ := shC_one hsc hg
    obtain ⟨u, rfl, hu⟩ := hasL_one hh
    cases r1 with
    | cons _ _ b0 _ _ b1 q1 q2 =>
      refine ⟨u, by simp only [argHas, Bool.false_eq_true, if_false]; exact hh, b0, q1, fun b hb => r2 b (by simp [hb])⟩

theorem seen_args (hspare : ∀ b, spare b = true) {n : Nat} {base : Nat} : ∀ {ts : List TypeId} {vs : List Value} {ds : List (DataW H)} {ps : List MemPlace} {ss : List (Bool × List Sh)}, DataW.TrodAll enc P w 0 spare held ts vs ds ps → ts.map (argSh P n) = ss.map some →
    (∀ (j : Nat) t v, ts[j]? = some t → vs[j]? = some v → Value.okWide P w .any base t v) →
    ds.length = ts.length ∧ ∃ Vs : List V, argsHave ss Vs ∧ Vs.length = vs.length ∧ ∀ (i : Nat) (V : V), Vs[i]? = some V → ∃ v bl, vs[i]? = some v ∧ Rep w M0 V v bl ∧ ∀ b ∈ bl, b < w.heap.size
  | [], vs, ds, ps, ss, h, hs, _ => by
    obtain ⟨rfl, rfl, rfl⟩ := trodAll_nil h
    cases ss with
    | nil => exact ⟨rfl, [], trivial, rfl, by simp⟩
    | cons a b => simp at hs
  | t :: ts, vs, ds, ps, ss, h, hs, hok => by
    obtain ⟨v, vs', d, ds', p, q, rfl, rfl, rfl, h1, h2⟩ := trodAll_cons h
    cases ss with
    | nil => simp at hs
    | cons s ss =>
      rw [List.map_cons, List.map_cons, List.cons.injEq] at hs
      obtain ⟨hl, Vs, k1, k2, k3⟩ := seen_args hspare h2 hs.2 fun j t v e1 e2 => hok (j + 1) t v (by simpa using e1) (by simpa using e2)
      obtain ⟨V, g1, bl, g2, g3⟩ := seen_arg hspare hs.1 (hok 0 t v rfl rfl) h1
      refine ⟨by simp [hl], V :: Vs, ⟨g1, k1⟩, by simp [k2], ?_⟩
      intro i V' hi
      cases i with
      | zero => simp at hi; subst hi; exact ⟨v, bl, rfl, g2, g3⟩
      | succ i => simpa using k3 i V' (by simpa using hi)

theorem trodAll_below (hl : laidOutB P = true) {W W' : World} {sp : Nat → Bool} (hb : Below W.heap.size W W') : ∀ {ts : List TypeId} {vs : List Value} {ds : List (DataW H)} {ps : List MemPlace}, (∀ t ∈ ts, P.readableRec t = true ∧ t < P.types.size) →
    DataW.TrodAll enc P W 0 (fun _ => true) true ts vs ds ps → (∀ x ∈ ps, x.block < W.heap.size) → (∀ x ∈ ps, sp x.block = true) → DataW.TrodAll enc P W' 0 sp true ts vs ds ps
  | [], vs, ds, ps, _, h, _, _ => by
    obtain ⟨rfl, rfl, rfl⟩ := trodAll_nil h
    exact trodAll_mk0
  | t :: ts, vs, ds, ps, hr, h, hlt, hs => by
    obtain ⟨v, vs', d, ds', p, q, rfl, rfl, rfl, h1, h2⟩ := trodAll_cons h
    have h0 := hr t (List.mem_cons_self ..)
    exact trodAll_cons_mk (WideElems.Trod_stays hl h0.1 h0.2 h1 (fun x hx => hb.same (hlt x (List.mem_append_left _ hx))) (fun x hx => hs x (List.mem_append_left _ hx)))
      (trodAll_below hl hb (fun t ht => hr t (List.mem_cons_of_mem _ ht)) h2 (fun x hx => hlt x (List.mem_append_right _ hx)) fun x hx => hs x (List.mem_append_right _ hx))

/-- THE CONTRACT THAT THE ROW WANTS, out of the value machine's. -/
theorem law_contract {f : FuncId} {fn : Func} {s : ChangeSpec} {apart fresh handsOn again : Bool} {bt : TypeId} (n : Nat) (ss : List (Bool × List Sh)) (hlaid : laidOutB P = true) (hrec : ∀ t ∈ fn.params.toList, P.readableRec t = true ∧ t < P.types.size)
    (hss : fn.params.toList.map (argSh P n) = ss.map some) (hres : fn.resultTypes = #[bt]) (hbt : P.underlying bt = some .bool) (hvars : s.vars = [])
    (hfn : ∀ ds : List (DataW H), ds.length = fn.params.toList.length → s.fn H ds = { results := [.lit (.bool true)], args := ds })
    (hcon : ∀ vs, argsHave ss vs → Con P f vs [] (.bool true) [])
    {W : World} {base : Nat} {args : Array Value} {ds gs : List (DataW H)} {before : List MemPlace}
    (hval : ∀ (j : Nat) t v, fn.params[j]? = some t → args[j]? = some v → Value.okWide P W .any base t v)
    (hW : DataW.Whole enc P fn.params.toList s.vars apart W args.toList ds gs before) :
    Calls P f args W fun e W' => ∃ v, e = .returned v ∧ s.post enc P fn apart fresh handsOn again W args v W' := by
  have hW' := hW
  obtain ⟨p, q, hA, hV, hpq, hfz, hnd⟩ := hW
  rw [hvars] at hV
  obtain ⟨rfl, rfl⟩ := trodVars_none hV
  obtain ⟨hdl, Vs, k1, k2, k3⟩ := seen_args (fun _ => rfl) (n := n) (base := base) hA hss fun j t v e1 e2 => hval j t v (by simpa using e1) (by simpa using e2)
  have hsp := hfn ds hdl
  rw [List.append_nil] at hpq
  refine ((hcon Vs k1).2 W args M0 (fun _ => none) (fun b => b < W.heap.size) ?_).mono ?_
  · refine ⟨by simpa using k2.symm, fun i V hi => ?_, by simp, fun _ _ => rfl, by simp⟩
    obtain ⟨v, bl, g1, g2, g3⟩ := k3 i V hi
    refine ⟨bl, ?_, fun b hb => ⟨rfl, g3 b hb⟩⟩
    have : args.getD i undef = v := by
      rw [Array.getD_eq_getD_getElem?, ← Array.getElem?_toList, g1]; rfl
    rw [this]; exact g2
  · rintro e W' ⟨v, μ', ow', rfl, hout⟩
    obtain ⟨bl, rr, _⟩ := hout.rep
    obtain rfl := rr.bool_inv
    have hfr := hout.frm
    have hbelow : Below W.heap.size W W' := ⟨hfr.os, hfr.tape, hfr.output, hfr.size, fun k hk => hfr.old k hk (by simp)⟩
    have hlt : ∀ x ∈ before, x.block < W.heap.size := fun x hx => by simpa using hW'.lt x hx
    refine ⟨_, rfl, post_of_old (pa := before) (pv := []) hW' ?_ ?_ ?_ (by simp) ?_ hfr.ice ?_⟩
    · intro b sp hd
      rw [List.append_nil, hsp, hres]
      exact trodAll_cons_mk (shut_bool hbt _) trodAll_mk0
    · intro sp hs
      rw [List.append_nil, hsp]
      exact trodAll_below hlaid hbelow hrec (by rw [hpq]; exact hA) hlt hs
    · intro sp _
      rw [List.append_nil, hsp, hvars]
      exact rfl
    · refine ⟨hfr.os, hfr.output, fun i hi => ?_⟩
      rw [hfr.old i hi (by simp)]
      cases W.heap[i]? with
      | none => rfl
      | some o => cases o <;> simp
    · exact ok_one hres rfl (okWide_bool_mk hbt _)

end
end Go.Vm
