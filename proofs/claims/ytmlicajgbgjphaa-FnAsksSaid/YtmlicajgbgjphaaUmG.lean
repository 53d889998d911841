/- The value machine, part 7. -/
import Derived.Sort.Grow
import Derived.Lib.LaidTab
import Derived.Lib.Join
import Derived.Below
import Derived.Deep.Draws
import Derived.Test.YtmlicajgbgjphaaUmF
set_option linter.unusedSimpArgs false
set_option linter.unusedVariables false
set_option linter.defProp false
namespace Go.Vm
open Go
section
variable {α : Type} {f : α → V}
end
end Go.Vm
namespace Go.Vm
open Go
end Go.Vm
namespace Go.Vm
open Go
end Go.Vm
namespace Go.Vm
open Go
theorem fillK_thin (i : Nat) : (fillK i ≠ .thin) = True := by unfold fillK; split <;> simp
theorem Con.thin {P : Program} {f : FuncId} {args : List V} {r : V} {xs : List V} (h : Con P f args [] r [.arr xs .flat]) : Con P f args [] r [.arr xs .thin] := by
  refine ⟨h.1, fun w vals μ ow vis hi => (h.2 w vals μ ow vis hi).mono ?_⟩
  rintro e w' ⟨v, μ', ow', he, hout⟩
  refine ⟨v, μ', ow', he, hout.rep, fun id bk hb => ?_, ?_, hout.same, hout.len, hout.dom, hout.owl, hout.own, hout.frm⟩
  · cases id with
    | zero =>
      simp only [List.getElem?_cons_zero, Option.some.injEq] at hb
      subst hb
      obtain ⟨l, q1, q2, q3⟩ := hout.blk 0 (.arr xs .flat) rfl
      refine ⟨l, q1, q2, ?_⟩
      rcases q3 with q3 | ⟨q3, q4, bl, q5, q6, q7⟩
      · exact .inl q3
      · exact .inr ⟨q3, q4, bl, q5, q6, fun q => absurd rfl q⟩
    | succ n => simp at hb
  · intro bk hb
    rw [List.mem_singleton] at hb
    subst hb
    rfl
theorem join_t : kdJoin .thin false false = some .thin := rfl
theorem thin_mix : (Kd.thin != Kd.mix) = true := rfl
theorem shal_mix : (Kd.shal != Kd.mix) = true := rfl
structure Caps (caps : List V) : Prop where
  cc : ∀ s ls, toCells s ls caps = some caps
  ca : ∀ s, toArgs s [] caps = some caps
  cn : ∀ p, V.onlyL p caps = true
  cr : ∀ ρ, V.renL ρ caps = caps
theorem Caps.nil : Caps [] := ⟨fun _ _ => rfl, fun _ => rfl, fun _ => by simp [V.onlyL], fun _ => rfl⟩
theorem Caps.pv {caps : List V} (xs : List V) (h : Caps caps) : Caps (.pv xs 0 0 :: caps) :=
  ⟨fun s ls => by simp [toCells, toCell, h.cc], fun s => by simp [toArgs, toArg, toCell, h.ca], fun p => by simp [V.onlyL, V.only, h.cn], fun ρ => by simp [V.renL, V.ren, h.cr]⟩
theorem rho_one (id n : Nat) : rho [id] n 0 = id := rfl
theorem beq_dec (m n : Nat) : Nat.beq m n = decide (m = n) := by
  cases h : Nat.beq m n with
  | true => rw [decide_eq_true (Nat.eq_of_beq_eq_true h)]
  | false => rw [decide_eq_false fun e => by rw [e, Nat.beq_refl] at h; cases h]
end Go.Vm
namespace Go.Vm
open Go
section
variable {α : Type} {f : α → V}
end
end Go.Vm
namespace Go.Vm
open Go
section
variable {τ α : Type} {pre : τ → List V} {sl : τ → List α} {f : α → V} {n : Nat}
end
end Go.Vm
namespace Go.Vm
open Go
def zE := (And.intro (@get_mk) (And.intro (@look_cons) (And.intro (@look_nil) (And.intro (@set_none) (And.intro (@ev_tmp) (And.intro (@ev_const) (And.intro (@ev_func) (And.intro (@dst_some) (And.intro (@dst_none) (And.intro (@List.append_nil.{0}) (And.intro (@List.nil_append.{0}) (And.intro (@List.cons_append.{0}) (And.intro (@true_and) (And.intro (@and_true) (And.intro (@and_self) (And.intro (@imp_self) (And.intro (@Bool.false_eq_true) (And.intro (@false_implies) (And.intro (@cond_true.{1}) (And.intro (@cond_false.{1}) (And.intro (@decide_eq_true_eq) (And.intro (@eq_self_iff_true.{1}) (And.intro (@exists_eq_left'.{1}) (And.intro (@Option.some.injEq.{0}) (And.intro (@not_false_eq_true) (And.intro (@not_true_eq_false) (@ne_eq.{1})))))))))))))))))))))))))))
def zS := (And.intro (@settle_int) (And.intro (@settle_bool) (And.intro (@settle_str) (And.intro (@settle_nsl) (And.intro (@settle_sl) (And.intro (@settle_ref) (And.intro (@settle_sub) (And.intro (@settle_ptr) (And.intro (@settle_pv) (And.intro (@settle_tup) (And.intro (@settle_fn) (And.intro (@settle_npt) (And.intro (@settle_agg) (And.intro (@settleL_nil) (And.intro (@settleL_nsl) (And.intro (@settleL_int) (And.intro (@settleL_bool) (And.intro (@settleL_str) (And.intro (@settleL_sl) (And.intro (@settleL_ref) (And.intro (@List.length_nil.{0}) (And.intro (@List.length_cons.{0}) (And.intro (@List.length_append.{0}) (And.intro (@Nat.zero_add) (And.intro (@Nat.add_zero) (@List.cons_append.{0}))))))))))))))))))))))))))
def zN := (And.intro (@Nat.zero_lt_one) (And.intro (@Nat.lt_add_one) (And.intro (@Nat.zero_add) (And.intro (@Nat.add_zero) (And.intro (@Nat.le_refl) (@Nat.zero_lt_succ))))))
def zL := (And.intro (@List.getElem?_toArray.{0}) (And.intro (@List.getElem?_cons_succ.{0}) (And.intro (@List.getElem?_cons_zero.{0}) (And.intro (@List.getD_cons_zero.{0}) (And.intro (@List.getD_cons_succ.{0}) (And.intro (@List.length_cons.{0}) (And.intro (@List.length_nil.{0}) (And.intro (@List.drop_zero.{0}) (And.intro (@List.drop_succ_cons.{0}) (And.intro (@List.headD_cons.{0}) (And.intro (@List.take_succ_cons.{0}) (And.intro (@List.take_zero.{0}) (And.intro (@List.take_nil.{0}) (And.intro (@List.drop_nil.{0}) (And.intro (@List.map_cons.{0,0}) (And.intro (@List.map_nil.{0,0}) (And.intro (@Option.bind_some.{0,0}) (And.intro (@Option.isSome_some.{0}) (@Option.map_some.{0,0})))))))))))))))))))
def zO := (And.intro (@Bool.or_false) (And.intro (@Bool.false_or) (And.intro (@Bool.or_true) (And.intro (@Bool.true_or) (And.intro (@Bool.not_true) (And.intro (@Bool.not_false) (And.intro (@Bool.and_false) (And.intro (@Bool.and_true) (And.intro (@Bool.false_and) (And.intro (@Bool.true_and) (And.intro (@decide_true) (And.intro (@decide_false) (And.intro (@Bool.or_self) (@Bool.and_self))))))))))))))
def zJ := (And.intro (@join_ff) (And.intro (@join_ft) (And.intro (@join_fv) (And.intro (@join_d) (And.intro (@join_s) (And.intro (@fillK_join0) (And.intro (@List.isEmpty_nil.{0}) (And.intro (@List.isEmpty_cons.{0}) (And.intro (@fillK_join) (And.intro (@List.not_mem_nil.{0}) (And.intro (@List.nodup_nil.{0}) (And.intro (@List.mem_singleton.{0}) (And.intro (@List.nodup_cons.{0}) (And.intro (@beq_self_eq_true.{0}) (And.intro (@Bool.cond_true.{1}) (And.intro (@Bool.cond_false.{1}) (And.intro (@List.all_cons.{0}) (And.intro (@List.all_nil.{0}) (And.intro (@List.set_cons_zero.{0}) (@List.set_cons_succ.{0}))))))))))))))))))))
def zP := (And.intro (@Bool.cond_true_right) (And.intro (@Bool.cond_true_left) (And.intro (@Bool.cond_false_right) (@Bool.cond_false_left))))
def zG := (And.intro (@List.getElem?_toArray.{0}) (And.intro (@List.getElem?_cons_succ.{0}) (And.intro (@List.getElem?_cons_zero.{0}) (@Option.bind_some.{0,0}))))
def zV := (And.intro (@get_mk) (And.intro (@look_cons) (And.intro (@cond_true.{1}) (And.intro (@cond_false.{1}) (And.intro (@Bool.and_false) (And.intro (@Bool.false_and) (And.intro (@Bool.not_true) (And.intro (@Bool.not_false) (And.intro (@List.getElem?_toArray.{0}) (And.intro (@List.getElem?_cons_succ.{0}) (And.intro (@List.getElem?_cons_zero.{0}) (@Option.bind_some.{0,0}))))))))))))
def zC := (And.intro (@decide_eq_true_eq) (And.intro (@decide_eq_false_iff_not) (And.intro (@Bool.and_eq_true) (And.intro (@Bool.or_eq_true) (And.intro (@Bool.not_eq_true') (And.intro (@Bool.not_eq_false') (And.intro (@Bool.and_eq_false_imp) (And.intro (@Bool.or_eq_false_iff) (And.intro (@Int.not_lt) (And.intro (@Int.not_le) (And.intro (@Bool.true_eq_false) (And.intro (@Bool.false_eq_true) (And.intro (@imp_false) (@Classical.not_imp))))))))))))))
def zM := (And.intro (@List.map_cons.{0,0}) (And.intro (@List.map_nil.{0,0}) (And.intro (@List.append_nil.{0}) (And.intro (@List.flatMap_nil.{0,0}) (And.intro (@List.mem_cons.{0}) (And.intro (@List.not_mem_nil.{0}) (And.intro (@or_false) (And.intro (@forall_eq_or_imp.{1}) (And.intro (@forall_eq.{1}) (@false_implies))))))))))
def zW := (And.intro (@get_mk) (And.intro (@look_cons) (And.intro (@look_nil) (And.intro (@set_none) (And.intro (@ev_tmp) (And.intro (@ev_const) (@ev_func)))))))
def zY := (And.intro (@List.append_nil.{0}) (And.intro (@List.cons_append.{0}) (And.intro (@List.nil_append.{0}) (And.intro (@List.length_nil.{0}) (And.intro (@List.length_cons.{0}) (And.intro (@Nat.zero_add) (And.intro (@Nat.not_lt_zero) (And.intro (@if_false.{1}) (@Nat.sub_zero)))))))))
theorem rng0 : List.range 0 = [] := rfl
theorem rng1 : List.range 1 = [0] := rfl
theorem rng2 : List.range 2 = [0, 1] := rfl
theorem rng3 : List.range 3 = [0, 1, 2] := rfl
theorem rng4 : List.range 4 = [0, 1, 2, 3] := rfl
theorem rng5 : List.range 5 = [0, 1, 2, 3, 4] := rfl
theorem rng6 : List.range 6 = [0, 1, 2, 3, 4, 5] := rfl
theorem rng7 : List.range 7 = [0, 1, 2, 3, 4, 5, 6] := rfl
theorem rng8 : List.range 8 = [0, 1, 2, 3, 4, 5, 6, 7] := rfl
theorem rng9 : List.range 9 = [0, 1, 2, 3, 4, 5, 6, 7, 8] := rfl
theorem rng10 : List.range 10 = [0, 1, 2, 3, 4, 5, 6, 7, 8, 9] := rfl
theorem rng11 : List.range 11 = [0, 1, 2, 3, 4, 5, 6, 7, 8, 9, 10] := rfl
theorem rng12 : List.range 12 = [0, 1, 2, 3, 4, 5, 6, 7, 8, 9, 10, 11] := rfl
theorem flat_mix : (Kd.flat != Kd.mix) = true := rfl
theorem deep_mix : (Kd.deep != Kd.mix) = true := rfl
end Go.Vm
namespace Go.Vm
open Go
theorem RepL.len {w : World} {μ : Nat → Option Loc} : ∀ {xs : List V} {vs : List Value} {bl : List Nat}, RepL w μ xs vs bl → vs.length = xs.length
  | _, _, _, .nil => rfl
  | _, _, _, .cons v x bl vs xs bl' h ht => by rw [List.length_cons, List.length_cons, RepL.len ht]
def newIds (m : Nat) (v : V) : List Nat := (refsOf v).filter fun id => Nat.ble m id
theorem ret_all {m : Nat} {s : St} {v r : V} {O' : List Blk} (h2 : v.only (fun id => Nat.blt id m || (idx (newIds m v) id).isSome) = true) (h3 : (newIds m v).Nodup) (hm : m ≤ s.O.length)
    (h4 : v.ren (outNo m (newIds m v)) = r) (h5 : s.O.take m ++ (newIds m v).map (fun id => s.O.getD id .dead) = O') (h6 : ∀ bk ∈ O', bk.kindIs (fun k => k != .shal && k != .mix) = true) (h7 : v.clean = true) : RetOK m s v r O' := by
  subst h4 h5
  unfold RetOK
  refine ⟨⟨h2, h3, hm⟩, rfl, rfl, fun bk hb => ?_, .inr ⟨h7, h6⟩⟩
  have := h6 bk hb
  cases bk with
  | dead => simp [Blk.kindIs] at this ⊢
  | arr xs k => cases k <;> simp_all [Blk.kindIs]
  | box x k => cases k <;> simp_all [Blk.kindIs]
theorem ret_viewX {m : Nat} {s : St} {v : V} {R : V → List Blk → Prop} (hR : R (v.ren (outNo m (newIds m v))) (s.O.take m ++ (newIds m v).map (fun id => s.O.getD id .dead))) (hw : s.vw = false := by rfl)
    (h2 : v.only (fun id => Nat.blt id m || (idx (newIds m v) id).isSome) = true := by rfl) (h3 : (newIds m v).Nodup := by first | decide | simp [newIds, refsOf, refs2, refs1]) (hm : m ≤ s.O.length := by simp)
    (h6 : ∀ bk ∈ s.O.take m ++ (newIds m v).map (fun id => s.O.getD id .dead), bk.kindIs (fun k => k != .mix) = true := by simp [newIds, refsOf, refs2, refs1, Blk.kindIs, fillK_mix]) : ∃ r O', R r O' ∧ RetOK m s v r O' :=
  ⟨_, _, hR, by
    unfold RetOK
    exact ⟨⟨h2, h3, hm⟩, rfl, rfl, h6, .inl hw⟩⟩
theorem rho_s (id n j : Nat) : rho [id] n (j + 1) = n + j := by simp [rho]
theorem aCall_guard0 {P : Program} {s : St} {f : FuncId} {args args' : List V} {r : V} {K : V → Prop} {G : Prop} (hc : G → Con P f args' [] r []) (ht : toArgs s [] args = some args')
    (hr : r.only (fun _ => false) = true) (hcl : r.clean = true) (hk : K r) : ∃ r, (G → aCall P s f [] args fun v s' => v = r ∧ s' = { s with O := s.O ++ [] }) ∧ K r :=
  ⟨r, fun g => aCall_new (hc g) ht (.inl ⟨hcl, by simp⟩) ⟨ren_only (by simp) hr, rfl⟩, hk⟩
theorem v_join {P : Program} {L : Lend} {m : Nat} {Q : AEx → St → Prop} {s : St} {x y : Code} {A : Type} (S : A → St) (ok : A → Prop)
    (h1 : ∀ Q' : AEx → St → Prop, (∀ p s, ok p → Weak m s (S p) → Q' .normal s) → (∀ i s, Q (.exit i) s → Q' (.exit i) s) → (∀ s, Q .ret s → Q' .ret s) → awp P L m x Q' s)
    (h2 : ∀ p, ok p → awp P L m y Q (S p)) : awp P L m (.seq x y) Q s :=
  v_seq fun Q' hn he hr => h1 Q' (fun p s hok hw => hn s (S p) hw (h2 p hok)) he hr
theorem v_seqR {P : Program} {L : Lend} {m : Nat} {Q : AEx → St → Prop} {s : St} {id : Nat} {ops : Array Oper} {y : Code} (ks : List Nat)
    (h : ∀ K : St → Prop, (∀ s, awp P L m y Q (s.keep ks) → K s) → aOps P L ops K ops.toList s) : awp P L m (.seq (.region id ops false) y) Q s :=
  v_seq fun _ hn _ _ => v_region fun K k => h K fun s q => k s (hn s (s.keep ks) (weak_keep ks s) q)
theorem aCall_newX {P : Program} {s : St} {f : FuncId} {args args' : List V} {R : V → List Blk → Prop} {K : V → St → Prop} (hc : ConX P f args' [] R) (ht : toArgs s [] args = some args')
    (h : ∀ r O', R r O' → ((r.clean = true ∧ ∀ bk ∈ O', bk.kindIs (fun k => k != .shal && k != .mix) = true) ∨ (∀ x ∈ args, x.coldIn [] = true)) ∧ K (r.ren (rho [] s.O.length)) { s with O := s.O ++ O' }) : aCall P s f [] args K :=
  ⟨args', [], R, ht, rfl, List.nodup_nil, by simp, .inr (by simp), hc, fun r O' hR => ⟨(h r O' hR).1, by unfold setBlks; exact (h r O' hR).2⟩⟩
theorem aCall_lentX {P : Program} {s : St} {f : FuncId} {args args' : List V} {bk : Blk} {R : V → List Blk → Prop} {K : V → St → Prop} (id : Nat) (hc : ConX P f args' [bk] R) (ht : toArgs s [id] args = some args')
    (hO : s.O[id]? = some bk) (hbk : bk.kindIs (fun k => k != .mix) = true ∧ bk ≠ .dead) (hv : s.vw = false ∨ bk.kindIs (fun k => k == .flat) = true)
    (h : ∀ r O', R r O' → ∃ bk' O1, O' = bk' :: O1 ∧ ((r.clean = true ∧ ∀ b ∈ O', b.kindIs (fun k => k != .shal && k != .mix) = true) ∨ (∀ x ∈ args, x.coldIn [id] = true)) ∧ K (r.ren (rho [id] s.O.length)) { s with O := s.O.set id bk' ++ O1 }) : aCall P s f [id] args K :=
  ⟨args', [bk], R, ht, by simp [hO], by simp, by simpa using hbk, hv.imp (fun h => h) (fun h => by simpa using h), hc, fun r O' hR => by
    obtain ⟨bk', O1, e, h1, h2⟩ := h r O' hR
    subst e
    exact ⟨h1, by simpa [setBlks] using h2⟩⟩
theorem aCall_lent2X {P : Program} {s : St} {f : FuncId} {args args' : List V} {bk bk2 : Blk} {R : V → List Blk → Prop} {K : V → St → Prop} (i j : Nat) (hc : ConX P f args' [bk, bk2] R) (ht : toArgs s [i, j] args = some args')
    (hO : s.O[i]? = some bk) (hO2 : s.O[j]? = some bk2) (hn : i ≠ j) (hbk : (bk.kindIs (fun k => k != .mix) = true ∧ bk ≠ .dead) ∧ (bk2.kindIs (fun k => k != .mix) = true ∧ bk2 ≠ .dead)) (hv : s.vw = false)
    (h : ∀ r O', R r O' → ∃ b1 b2 O1, O' = b1 :: b2 :: O1 ∧ ((r.clean = true ∧ ∀ b ∈ O', b.kindIs (fun k => k != .shal && k != .mix) = true) ∨ (∀ x ∈ args, x.coldIn [i, j] = true)) ∧ K (r.ren (rho [i, j] s.O.length)) { s with O := (s.O.set i b1).set j b2 ++ O1 }) : aCall P s f [i, j] args K :=
  ⟨args', [bk, bk2], R, ht, by simp [hO, hO2], by simp [hn], by
    intro b hb
    rcases List.mem_cons.1 hb with rfl | hb
    · exact hbk.1
    · rw [List.mem_singleton] at hb; subst hb; exact hbk.2, .inl hv, hc, fun r O' hR => by
    obtain ⟨b1, b2, O1, e, h1, h2⟩ := h r O' hR
    subst e
    exact ⟨h1, by simpa [setBlks] using h2⟩⟩
theorem rho2_s (i j n m : Nat) : rho [i, j] n (m + 2) = n + m := by
  rw [rho, if_neg (by simp)]; simp
theorem rho2_0 (i j n : Nat) : rho [i, j] n 0 = i := rfl
theorem rho2_1 (i j n : Nat) : rho [i, j] n 1 = j := rfl
end Go.Vm
namespace Go.Vm
open Go Go.RowKit
theorem tabs_none {P : Program} (h : P.globalNamed "internal/strconv.uint64pow10" = none) {w : World} : ∀ p ∈ tabsOf P, ∃ t fr, w.heap[p.1]? = some (.cells p.2 t fr) := by
  intro p hp
  unfold tabsOf at hp
  rw [h] at hp
  cases hp
end Go.Vm
namespace Go.Vm
open Go
structure Tys (p : Prop) : Prop where
  h : p
structure Fc (p : Prop) : Prop where
  h : p
structure Ho (p : Prop) : Prop where
  h : p
theorem andA {A B : Prop} (b : B) (a : A := by first | omega | (intros; omega) | (intros; simp_all; done) | (intros; simp_all; omega)) : A ∧ B := ⟨a, b⟩
theorem andC {A B : Prop} (b : B) (a : A := by first | rfl | (intros; simp_all; done)) : A ∧ B := ⟨a, b⟩
theorem v_passB {P : Program} {L : Lend} {s : St} {rg : Array Oper} {K : St → Prop} {o : Oper} {rest : List Oper} {d j : Nat} {want : Bool} (hd : o.dst = some d) (hn : Nat.blt d s.n = true) (hg : o.guard = some (j, want)) (hv : guardV s rg j want = some false) (h : aOps P L rg K rest (s.set (some d) (.opt false .any))) : aOps P L rg K (o :: rest) s :=
  v_pass d j want hd (by rwa [Nat.blt_eq] at hn) hg hv h
theorem zAlloc {A B : Prop} (b : Ho B) (e : Ho B → A := by
  intro b
  refine v_op ?_
  intro K k
  simp only [zE, zS, zO, zN, aStepM, optable, set_some, Nat.reduceEqDiff, reduceIte, Nat.reduceLT, implies_true, forall_const, reduceCtorEq, V.ofValue, V.ofScalar, V.un, V.gd, aExec, aop, Nat.reduceAdd, Value.oneCell', V.isVal, V.cells, kindOf, kindAll, V.noSl, V.noRef, List.all_cons, List.all_nil, List.map_cons, List.map_nil, gt_iff_lt, Nat.reduceLeDiff, Nat.reduceMul, contentL, ‹Tys _›.h, ‹Fc _›.h]
  repeat (refine andA ?_)
  refine k _ ?_
  clear k K
  exact b.h) : A := e b
theorem zAppend {A B : Prop} (b : Ho B) (e : Ho B → A := by
  intro b
  refine v_op ?_
  intro K k
  simp only [zE, zL, zO, zN, aStepM, optable, set_some, Nat.reduceEqDiff, reduceIte, Nat.reduceLT, implies_true, forall_const, reduceCtorEq, V.ofValue, V.ofScalar, V.un, V.gd, aExec, aop, fillK_thin, beq_self_eq_true, List.nodup_cons, List.mem_singleton, forall_eq', List.size_toArray, List.getD_eq_getElem?_getD, Array.getD_eq_getD_getElem?, Option.getD_some, aAppend, destOf, srcOf, takeElems, takeV, takeCell, takeCells, row_mk, Blk.row, killAll, V.isSub, V.noSl, Value.cells, Option.toList, List.forall_mem_map, List.length_map, List.all_cons, List.all_nil, List.isEmpty_nil, List.isEmpty_cons, List.not_mem_nil, List.nodup_nil, join_ff, join_ft, join_fv, join_d, join_s, fillK_join0, fillK_join, List.mem_cons, or_false, forall_eq_or_imp, forall_eq, List.set_cons_zero, List.set_cons_succ, List.length_append, Go.Vm.V.cells, Nat.reduceAdd, Nat.reduceLeDiff, Nat.reduceMul, contentL, Value.oneCell', ‹Tys _›.h, ‹Fc _›.h]
  repeat (refine andA ?_)
  refine k _ ?_
  clear k K
  exact b.h) : A := e b
theorem zAssign {A B : Prop} (b : Ho B) (e : Ho B → A := by
  intro b
  refine v_op ?_
  intro K k
  simp only [zE, zS, aStepM, optable, set_some, Nat.reduceEqDiff, reduceIte, Nat.reduceLT, implies_true, forall_const, reduceCtorEq, V.ofValue, V.ofScalar, V.un, V.gd, aExec, aop, Nat.reduceAdd, contentL, Value.oneCell', List.all_cons, List.all_nil, Bool.and_self, ‹Tys _›.h, ‹Fc _›.h]
  repeat (refine andA ?_)
  refine k _ ?_
  clear k K
  exact b.h) : A := e b
theorem zBinOp {A B : Prop} (b : Ho B) (e : Ho B → A := by
  intro b
  refine v_op ?_
  intro K k
  simp only [zE, aStepM, optable, set_some, Nat.reduceEqDiff, reduceIte, Nat.reduceLT, implies_true, forall_const, reduceCtorEq, V.ofValue, V.ofScalar, V.un, V.gd, aExec, aop, aBin, isNil, or_true, true_or, or_false, false_or, EK.fitsL, EK.fits, cellsEq, cellEq, contentL, Value.oneCell', List.all_cons, List.all_nil, Bool.and_self, ‹Tys _›.h, ‹Fc _›.h]
  repeat (refine andA ?_)
  refine k _ ?_
  clear k K
  exact b.h) : A := e b
theorem zBinOpW {A B : Prop} (b : Ho B) (e : Ho B → A := by
  intro b
  refine v_op ?_
  intro K k
  simp only [zE, aStepM, optable, set_some, Nat.reduceEqDiff, reduceIte, Nat.reduceLT, implies_true, forall_const, reduceCtorEq, V.ofValue, V.ofScalar, V.un, V.gd, aExec, aop, aBin, isNil, or_true, true_or, or_false, false_or, EK.fitsL, EK.fits, cellsEq, cellEq, contentL, Value.oneCell', List.all_cons, List.all_nil, Bool.and_self, ‹Tys _›.h, ‹Fc _›.h]
  try simp (disch := omega) only [wrap64]
  repeat (refine andA ?_)
  refine k _ ?_
  clear k K
  exact b.h) : A := e b
theorem zgBinOp {A B : Prop} (b : Ho B) (e : Ho B → A := by
  intro b
  first
  | refine v_passB rfl rfl rfl ?_ ?_
    · first | rfl | (simp only [zV, guardV, Nat.reduceEqDiff, reduceIte]; done)
    simp only [zW, set_some, Nat.reduceEqDiff, reduceIte]
  | skip
    refine v_op ?_
    intro K k
    simp only [zE, zG, aStepM, optable, set_some, Nat.reduceEqDiff, reduceIte, Nat.reduceLT, implies_true, forall_const, reduceCtorEq, V.ofValue, V.ofScalar, V.un, V.gd, guardV, V.wrap, aExec, aop, aBin, isNil, or_true, true_or, or_false, false_or, EK.fitsL, EK.fits, cellsEq, cellEq, contentL, Value.oneCell', List.all_cons, List.all_nil, Bool.and_self, ‹Tys _›.h, ‹Fc _›.h]
    repeat (refine andA ?_)
    refine k _ ?_
    clear k K
  exact b.h) : A := e b
theorem zgBinOpW {A B : Prop} (b : Ho B) (e : Ho B → A := by
  intro b
  first
  | refine v_passB rfl rfl rfl ?_ ?_
    · first | rfl | (simp only [zV, guardV, Nat.reduceEqDiff, reduceIte]; done)
    simp only [zW, set_some, Nat.reduceEqDiff, reduceIte]
  | skip
    refine v_op ?_
    intro K k
    simp only [zE, zG, aStepM, optable, set_some, Nat.reduceEqDiff, reduceIte, Nat.reduceLT, implies_true, forall_const, reduceCtorEq, V.ofValue, V.ofScalar, V.un, V.gd, guardV, V.wrap, aExec, aop, aBin, isNil, or_true, true_or, or_false, false_or, EK.fitsL, EK.fits, cellsEq, cellEq, contentL, Value.oneCell', List.all_cons, List.all_nil, Bool.and_self, ‹Tys _›.h, ‹Fc _›.h]
    try simp (disch := omega) only [wrap64]
    repeat (refine andA ?_)
    refine k _ ?_
    clear k K
  exact b.h) : A := e b
theorem zBox {A B : Prop} (b : Ho B) (e : Ho B → A := by
  intro b
  refine v_op ?_
  intro K k
  simp only [zE, zS, zO, zN, aStepM, optable, set_some, Nat.reduceEqDiff, reduceIte, Nat.reduceLT, implies_true, forall_const, reduceCtorEq, V.ofValue, V.ofScalar, V.un, V.gd, aExec, aop, Nat.reduceAdd, V.isVal, V.cells, kindOf, kindAll, V.noSl, V.noRef, List.all_cons, List.all_nil, List.length_map, gt_iff_lt, Nat.reduceLeDiff, Nat.reduceMul, contentL, Value.oneCell', ‹Tys _›.h, ‹Fc _›.h]
  repeat (refine andA ?_)
  refine k _ ?_
  clear k K
  exact b.h) : A := e b
theorem zBuild {A B : Prop} (b : Ho B) (e : Ho B → A := by
  intro b
  refine v_op ?_
  intro K k
  simp only [zE, zL, zO, zN, aStepM, optable, set_some, Nat.reduceEqDiff, reduceIte, Nat.reduceLT, implies_true, forall_const, reduceCtorEq, V.ofValue, V.ofScalar, V.un, V.gd, aExec, aop, fillV, if_true, Nat.zero_mul, Nat.one_mul, Nat.mul_one, V.isVal, V.cells, List.mem_cons, List.not_mem_nil, or_false, forall_eq_or_imp, forall_eq, Nat.reduceAdd, Nat.reduceLeDiff, Nat.reduceMul, contentL, Value.oneCell', List.all_cons, List.all_nil, ‹Tys _›.h, ‹Fc _›.h]
  repeat (refine andA ?_)
  refine k _ ?_
  clear k K
  exact b.h) : A := e b
theorem zBuildSlice {A B : Prop} (b : Ho B) (e : Ho B → A := by
  intro b
  refine v_op ?_
  intro K k
  simp only [zE, zO, zN, aStepM, optable, set_some, Nat.reduceEqDiff, reduceIte, Nat.reduceLT, implies_true, forall_const, reduceCtorEq, V.ofValue, V.ofScalar, V.un, V.gd, aExec, aop, litElems, rng0, rng1, rng2, rng3, rng4, rng5, rng6, rng7, rng8, rng9, rng10, rng11, rng12, List.map_cons, List.map_nil, List.all_cons, List.all_nil, V.isVal, V.cells, content, kindAll, V.noRef, V.noSl, List.mem_cons, List.not_mem_nil, or_false, forall_eq_or_imp, forall_eq, if_true, Option.isSome_some, List.length_cons, List.length_nil, Nat.reduceAdd, Nat.reduceLeDiff, Nat.reduceMul, contentL, Value.oneCell', ‹Tys _›.h, ‹Fc _›.h]
  repeat (refine andA ?_)
  refine k _ ?_
  clear k K
  exact b.h) : A := e b
theorem zgBuildSlice {A B : Prop} (b : Ho B) (e : Ho B → A := by
  intro b
  first
  | refine v_passB rfl rfl rfl ?_ ?_
    · first | rfl | (simp only [zV, guardV, Nat.reduceEqDiff, reduceIte]; done)
    simp only [zW, set_some, Nat.reduceEqDiff, reduceIte]
  | skip
    refine v_op ?_
    intro K k
    simp only [zE, zO, zV, zN, aStepM, optable, set_some, Nat.reduceEqDiff, reduceIte, Nat.reduceLT, implies_true, forall_const, reduceCtorEq, V.ofValue, V.ofScalar, V.un, V.gd, guardV, V.wrap, aExec, aop, litElems, rng0, rng1, rng2, rng3, rng4, rng5, rng6, rng7, rng8, rng9, rng10, rng11, rng12, List.map_cons, List.map_nil, List.all_cons, List.all_nil, V.isVal, V.cells, content, kindAll, V.noRef, V.noSl, List.mem_cons, List.not_mem_nil, or_false, forall_eq_or_imp, forall_eq, if_true, Option.isSome_some, List.length_cons, List.length_nil, Nat.reduceAdd, Nat.reduceLeDiff, Nat.reduceMul, contentL, Value.oneCell', ‹Tys _›.h, ‹Fc _›.h]
    repeat (refine andA ?_)
    refine k _ ?_
    clear k K
  exact b.h) : A := e b
theorem zConvert {A B : Prop} (b : Ho B) (e : Ho B → A := by
  intro b
  refine v_op ?_
  intro K k
  simp only [zE, zL, zN, aStepM, optable, set_some, Nat.reduceEqDiff, reduceIte, Nat.reduceLT, implies_true, forall_const, reduceCtorEq, V.ofValue, V.ofScalar, V.un, V.gd, aExec, aop, unByte, row_mk, Blk.row, TypeDesc.slice.injEq, Nat.reduceAdd, Nat.reduceLeDiff, Nat.reduceMul, contentL, Value.oneCell', List.all_cons, List.all_nil, Bool.and_self, ‹Tys _›.h, ‹Fc _›.h]
  repeat (refine andA ?_)
  refine k _ ?_
  clear k K
  exact b.h) : A := e b
theorem zExtract {A B : Prop} (b : Ho B) (e : Ho B → A := by
  intro b
  refine v_op ?_
  intro K k
  simp only [zE, zL, zN, aStepM, optable, set_some, Nat.reduceEqDiff, reduceIte, Nat.reduceLT, implies_true, forall_const, reduceCtorEq, V.ofValue, V.ofScalar, V.un, V.gd, aExec, aop, aExtract, Nat.reduceAdd, Nat.reduceLeDiff, Nat.reduceMul, contentL, Value.oneCell', List.all_cons, List.all_nil, Bool.and_self, ‹Tys _›.h, ‹Fc _›.h]
  repeat (refine andA ?_)
  refine k _ ?_
  clear k K
  exact b.h) : A := e b
theorem zFieldAddr {A B : Prop} (b : Ho B) (e : Ho B → A := by
  intro b
  refine v_op ?_
  intro K k
  simp only [zE, zL, zN, aStepM, optable, set_some, Nat.reduceEqDiff, reduceIte, Nat.reduceLT, implies_true, forall_const, reduceCtorEq, V.ofValue, V.ofScalar, V.un, V.gd, aExec, aop, aFieldAddr, Nat.reduceAdd, Nat.reduceLeDiff, Nat.reduceMul, contentL, Value.oneCell', List.all_cons, List.all_nil, Bool.and_self, ‹Tys _›.h, ‹Fc _›.h]
  repeat (refine andA ?_)
  refine k _ ?_
  clear k K
  exact b.h) : A := e b
theorem zgFieldAddr {A B : Prop} (b : Ho B) (e : Ho B → A := by
  intro b
  first
  | refine v_passB rfl rfl rfl ?_ ?_
    · first | rfl | (simp only [zV, guardV, Nat.reduceEqDiff, reduceIte]; done)
    simp only [zW, set_some, Nat.reduceEqDiff, reduceIte]
  | skip
    refine v_op ?_
    intro K k
    simp only [zE, zL, zN, aStepM, optable, set_some, Nat.reduceEqDiff, reduceIte, Nat.reduceLT, implies_true, forall_const, reduceCtorEq, V.ofValue, V.ofScalar, V.un, V.gd, guardV, V.wrap, aExec, aop, aFieldAddr, Nat.reduceAdd, Nat.reduceLeDiff, Nat.reduceMul, contentL, Value.oneCell', List.all_cons, List.all_nil, Bool.and_self, ‹Tys _›.h, ‹Fc _›.h]
    repeat (refine andA ?_)
    refine k _ ?_
    clear k K
  exact b.h) : A := e b
theorem zIndexAddr {A B : Prop} (b : Ho B) (e : Ho B → A := by
  intro b
  refine v_op ?_
  intro K k
  simp only [zE, zL, zN, aStepM, optable, set_some, Nat.reduceEqDiff, reduceIte, Nat.reduceLT, implies_true, forall_const, reduceCtorEq, V.ofValue, V.ofScalar, V.un, V.gd, aExec, aop, List.mem_cons, List.not_mem_nil, or_false, forall_eq_or_imp, forall_eq, aIndexAddr, row_mk, Blk.row, Go.Vm.V.cells, List.forall_mem_map, List.length_map, Int.toNat_natCast, Int.reduceToNat, TypeDesc.slice.injEq, Nat.reduceAdd, Nat.reduceLeDiff, Nat.reduceMul, contentL, Value.oneCell', List.all_cons, List.all_nil, Bool.and_self, ‹Tys _›.h, ‹Fc _›.h]
  repeat (refine andA ?_)
  refine k _ ?_
  clear k K
  exact b.h) : A := e b
theorem zgIndexAddr {A B : Prop} (b : Ho B) (e : Ho B → A := by
  intro b
  first
  | refine v_passB rfl rfl rfl ?_ ?_
    · first | rfl | (simp only [zV, guardV, Nat.reduceEqDiff, reduceIte]; done)
    simp only [zW, set_some, Nat.reduceEqDiff, reduceIte]
  | skip
    refine v_op ?_
    intro K k
    simp only [zE, zL, zN, aStepM, optable, set_some, Nat.reduceEqDiff, reduceIte, Nat.reduceLT, implies_true, forall_const, reduceCtorEq, V.ofValue, V.ofScalar, V.un, V.gd, guardV, V.wrap, aExec, aop, List.mem_cons, List.not_mem_nil, or_false, forall_eq_or_imp, forall_eq, aIndexAddr, row_mk, Blk.row, Go.Vm.V.cells, List.forall_mem_map, List.length_map, Int.toNat_natCast, Int.reduceToNat, TypeDesc.slice.injEq, Nat.reduceAdd, Nat.reduceLeDiff, Nat.reduceMul, contentL, Value.oneCell', List.all_cons, List.all_nil, Bool.and_self, ‹Tys _›.h, ‹Fc _›.h]
    repeat (refine andA ?_)
    refine k _ ?_
    clear k K
  exact b.h) : A := e b
theorem zLen {A B : Prop} (b : Ho B) (e : Ho B → A := by
  intro b
  refine v_op ?_
  intro K k
  simp only [zE, zL, zN, aStepM, optable, set_some, Nat.reduceEqDiff, reduceIte, Nat.reduceLT, implies_true, forall_const, reduceCtorEq, V.ofValue, V.ofScalar, V.un, V.gd, aExec, aop, List.length_map, aLen, lenOK, row_mk, Blk.row, List.size_toArray, List.getD_eq_getElem?_getD, Array.getD_eq_getD_getElem?, Option.getD_some, Nat.reduceAdd, Nat.reduceLeDiff, Nat.reduceMul, contentL, Value.oneCell', List.all_cons, List.all_nil, Bool.and_self, ‹Tys _›.h, ‹Fc _›.h]
  repeat (refine andA ?_)
  refine k _ ?_
  clear k K
  exact b.h) : A := e b
theorem zgLen {A B : Prop} (b : Ho B) (e : Ho B → A := by
  intro b
  first
  | refine v_passB rfl rfl rfl ?_ ?_
    · first | rfl | (simp only [zV, guardV, Nat.reduceEqDiff, reduceIte]; done)
    simp only [zW, set_some, Nat.reduceEqDiff, reduceIte]
  | skip
    refine v_op ?_
    intro K k
    simp only [zE, zL, zN, aStepM, optable, set_some, Nat.reduceEqDiff, reduceIte, Nat.reduceLT, implies_true, forall_const, reduceCtorEq, V.ofValue, V.ofScalar, V.un, V.gd, guardV, V.wrap, aExec, aop, List.length_map, aLen, lenOK, row_mk, Blk.row, List.size_toArray, List.getD_eq_getElem?_getD, Array.getD_eq_getD_getElem?, Option.getD_some, Nat.reduceAdd, Nat.reduceLeDiff, Nat.reduceMul, contentL, Value.oneCell', List.all_cons, List.all_nil, Bool.and_self, ‹Tys _›.h, ‹Fc _›.h]
    repeat (refine andA ?_)
    refine k _ ?_
    clear k K
  exact b.h) : A := e b
theorem zLoad {A B : Prop} (b : Ho B) (e : Ho B → A := by
  intro b
  refine v_op ?_
  intro K k
  simp only [zE, zL, zO, zN, aStepM, optable, set_some, Nat.reduceEqDiff, reduceIte, Nat.reduceLT, implies_true, forall_const, reduceCtorEq, V.ofValue, V.ofScalar, V.un, V.gd, aExec, aop, aLoad, row_mk, Blk.row, PartOK, Go.Vm.part, V.cells, V.noSl, V.noRef, Nat.reduceAdd, Nat.reduceLeDiff, Nat.reduceMul, contentL, Value.oneCell', List.all_cons, List.all_nil, ‹Tys _›.h, ‹Fc _›.h]
  repeat (refine andA ?_)
  refine k _ ?_
  clear k K
  exact b.h) : A := e b
theorem zgLoad {A B : Prop} (b : Ho B) (e : Ho B → A := by
  intro b
  first
  | refine v_passB rfl rfl rfl ?_ ?_
    · first | rfl | (simp only [zV, guardV, Nat.reduceEqDiff, reduceIte]; done)
    simp only [zW, set_some, Nat.reduceEqDiff, reduceIte]
  | skip
    refine v_op ?_
    intro K k
    simp only [zE, zL, zO, zN, aStepM, optable, set_some, Nat.reduceEqDiff, reduceIte, Nat.reduceLT, implies_true, forall_const, reduceCtorEq, V.ofValue, V.ofScalar, V.un, V.gd, guardV, V.wrap, aExec, aop, aLoad, row_mk, Blk.row, PartOK, Go.Vm.part, V.cells, V.noSl, V.noRef, Nat.reduceAdd, Nat.reduceLeDiff, Nat.reduceMul, contentL, Value.oneCell', List.all_cons, List.all_nil, ‹Tys _›.h, ‹Fc _›.h]
    repeat (refine andA ?_)
    refine k _ ?_
    clear k K
  exact b.h) : A := e b
theorem zMax {A B : Prop} (b : Ho B) (e : Ho B → A := by
  intro b
  refine v_op ?_
  intro K k
  simp only [zE, aStepM, optable, set_some, Nat.reduceEqDiff, reduceIte, Nat.reduceLT, implies_true, forall_const, reduceCtorEq, V.ofValue, V.ofScalar, V.un, V.gd, aExec, aop, aMinMax, List.mem_cons, List.not_mem_nil, or_false, forall_eq_or_imp, forall_eq, List.map_cons, List.map_nil, if_true, if_false, contentL, Value.oneCell', List.all_cons, List.all_nil, Bool.and_self, ‹Tys _›.h, ‹Fc _›.h]
  repeat (refine andA ?_)
  refine k _ ?_
  clear k K
  exact b.h) : A := e b
theorem zMove {A B : Prop} (b : Ho B) (e : Ho B → A := by
  intro b
  refine v_op ?_
  intro K k
  simp only [zE, aStepM, optable, set_some, Nat.reduceEqDiff, reduceIte, Nat.reduceLT, implies_true, forall_const, reduceCtorEq, V.ofValue, V.ofScalar, V.un, V.gd, aExec, aop, contentL, Value.oneCell', List.all_cons, List.all_nil, Bool.and_self, ‹Tys _›.h, ‹Fc _›.h]
  repeat (refine andA ?_)
  refine k _ ?_
  clear k K
  exact b.h) : A := e b
theorem zgMove {A B : Prop} (b : Ho B) (e : Ho B → A := by
  intro b
  first
  | refine v_passB rfl rfl rfl ?_ ?_
    · first | rfl | (simp only [zV, guardV, Nat.reduceEqDiff, reduceIte]; done)
    simp only [zW, set_some, Nat.reduceEqDiff, reduceIte]
  | skip
    refine v_op ?_
    intro K k
    simp only [zE, zG, aStepM, optable, set_some, Nat.reduceEqDiff, reduceIte, Nat.reduceLT, implies_true, forall_const, reduceCtorEq, V.ofValue, V.ofScalar, V.un, V.gd, guardV, V.wrap, aExec, aop, contentL, Value.oneCell', List.all_cons, List.all_nil, Bool.and_self, ‹Tys _›.h, ‹Fc _›.h]
    repeat (refine andA ?_)
    refine k _ ?_
    clear k K
  exact b.h) : A := e b
theorem zNilCheck {A B : Prop} (b : Ho B) (e : Ho B → A := by
  intro b
  refine v_op ?_
  intro K k
  simp only [zE, aStepM, optable, set_some, Nat.reduceEqDiff, reduceIte, Nat.reduceLT, implies_true, forall_const, reduceCtorEq, V.ofValue, V.ofScalar, V.un, V.gd, aExec, aop, contentL, Value.oneCell', List.all_cons, List.all_nil, Bool.and_self, ‹Tys _›.h, ‹Fc _›.h]
  repeat (refine andA ?_)
  refine k _ ?_
  clear k K
  exact b.h) : A := e b
theorem zPick {A B : Prop} (b : Ho B) (e : Ho B → A := by
  intro b
  refine v_op ?_
  intro K k
  simp only [zE, zP, aStepM, optable, set_some, Nat.reduceEqDiff, reduceIte, Nat.reduceLT, implies_true, forall_const, reduceCtorEq, V.ofValue, V.ofScalar, V.un, V.gd, aExec, aop, pickV, contentL, Value.oneCell', List.all_cons, List.all_nil, Bool.and_self, ‹Tys _›.h, ‹Fc _›.h]
  repeat (refine andA ?_)
  refine k _ ?_
  clear k K
  exact b.h) : A := e b
theorem zgPick {A B : Prop} (b : Ho B) (e : Ho B → A := by
  intro b
  first
  | refine v_passB rfl rfl rfl ?_ ?_
    · first | rfl | (simp only [zV, guardV, Nat.reduceEqDiff, reduceIte]; done)
    simp only [zW, set_some, Nat.reduceEqDiff, reduceIte]
  | skip
    refine v_op ?_
    intro K k
    simp only [zE, zP, zG, aStepM, optable, set_some, Nat.reduceEqDiff, reduceIte, Nat.reduceLT, implies_true, forall_const, reduceCtorEq, V.ofValue, V.ofScalar, V.un, V.gd, guardV, V.wrap, aExec, aop, pickV, contentL, Value.oneCell', List.all_cons, List.all_nil, Bool.and_self, ‹Tys _›.h, ‹Fc _›.h]
    repeat (refine andA ?_)
    refine k _ ?_
    clear k K
  exact b.h) : A := e b
theorem zStore {A B : Prop} (b : Ho B) (e : Ho B → A := by
  intro b
  refine v_op ?_
  intro K k
  simp only [zE, zS, zJ, zL, zO, zN, aStepM, optable, set_some, Nat.reduceEqDiff, reduceIte, Nat.reduceLT, implies_true, forall_const, reduceCtorEq, V.ofValue, V.ofScalar, V.un, V.gd, aExec, aop, aStore, setCells, V.isVal, V.cells, kindOf, kindAll, V.noSl, V.noRef, gt_iff_lt, Nat.reduceAdd, Nat.reduceLeDiff, Nat.reduceMul, takeV, takeCell, takeCells, row_mk, Blk.row, killAll, Nat.reduceBEq, join_t, contentL, Value.oneCell', ‹Tys _›.h, ‹Fc _›.h]
  repeat (refine andA ?_)
  refine k _ ?_
  clear k K
  exact b.h) : A := e b
theorem zUnOp {A B : Prop} (b : Ho B) (e : Ho B → A := by
  intro b
  refine v_op ?_
  intro K k
  simp only [zE, aStepM, optable, set_some, Nat.reduceEqDiff, reduceIte, Nat.reduceLT, implies_true, forall_const, reduceCtorEq, V.ofValue, V.ofScalar, V.un, V.gd, aExec, aop, aUn, contentL, Value.oneCell', List.all_cons, List.all_nil, Bool.and_self, ‹Tys _›.h, ‹Fc _›.h]
  repeat (refine andA ?_)
  refine k _ ?_
  clear k K
  exact b.h) : A := e b
theorem zgUnOp {A B : Prop} (b : Ho B) (e : Ho B → A := by
  intro b
  first
  | refine v_passB rfl rfl rfl ?_ ?_
    · first | rfl | (simp only [zV, guardV, Nat.reduceEqDiff, reduceIte]; done)
    simp only [zW, set_some, Nat.reduceEqDiff, reduceIte]
  | skip
    refine v_op ?_
    intro K k
    simp only [zE, zG, aStepM, optable, set_some, Nat.reduceEqDiff, reduceIte, Nat.reduceLT, implies_true, forall_const, reduceCtorEq, V.ofValue, V.ofScalar, V.un, V.gd, guardV, V.wrap, aExec, aop, aUn, contentL, Value.oneCell', List.all_cons, List.all_nil, Bool.and_self, ‹Tys _›.h, ‹Fc _›.h]
    repeat (refine andA ?_)
    refine k _ ?_
    clear k K
  exact b.h) : A := e b
theorem zk {A B : Prop} (b : Ho B) (e : Ho B → A := by
  intro b
  simp only [keep_mk, keepE_nil, keepE_cons, look_cons, look_nil, Nat.reduceEqDiff, reduceIte]
  exact b.h) : A := e b
theorem zf {A B : Prop} (b : Ho B) (e : Ho B → A := by
  intro b
  simp only [resK, pickRV, get_mk, look_cons, look_nil, Nat.reduceEqDiff, reduceIte, List.map_cons, List.map_nil]
  exact b.h) : A := e b
theorem v_condS {P : Program} {L : Lend} {m : Nat} {Q : AEx → St → Prop} {s : St} {c : Operand} {x y : Code} (b : Bool) (hc : s.ev c = .bool b) {p q : Prop} (h1 : p → awp P L m x Q s) (h2 : q → awp P L m y Q s)
    (hp : b = true → p := by first | (intro h; simp only [zC, reduceCtorEq] at h; exact h) | exact fun h => h) (hq : b = false → q := by first | (intro h; simp only [zC, reduceCtorEq] at h; exact h) | exact fun h => h) : awp P L m (.cond c x y) Q s :=
  v_cond b hc (fun h => h1 (hp h)) (fun h => h2 (hq h))
theorem weak_bothS {m : Nat} {s s' : St} {B : Prop} (ks ids : List Nat) (b : Ho B) (hn : ids.Nodup := by decide) (hm : ∀ j, j < m → ids[j]? = some j := by simp)
    (he : ∀ p ∈ (s.keep ks).env, p.2.only (fun id => (idx ids id).isSome) = true := by simp [keep_mk, keepE_nil, keepE_cons, look_cons, V.only, V.onlyL, idx] <;> (first | rfl | decide))
    (hb : ∀ id ∈ ids, ∀ bk, s.O[id]? = some bk → bk.kindIs (fun k => k != .mix) = true := by simp [Blk.kindIs, fillK_mix])
    (e : Ho B → (s.keep ks).comp ids = s' := by
      intro b
      simp only [keep_mk, keepE_nil, keepE_cons, look_cons, look_nil, Nat.reduceEqDiff, reduceIte, St.comp, List.map_cons, List.map_nil, V.ren, V.renL, idx, List.getD_cons_zero, List.getD_cons_succ, Nat.reduceBEq, cond_true, cond_false, Option.map_some, Option.getD_some, Nat.reduceAdd, beq_dec, decide_true, decide_false]
      exact b.h) : Weak m s s' := weak_both ks ids hn hm he hb (e b)
theorem weak_bothC {m : Nat} {s s' : St} {B : Prop} (ks ids : List Nat) (b : Ho B) (hn : ids.Nodup := by decide) (hm : ∀ j, j < m → ids[j]? = some j := by simp)
    (he : ∀ p ∈ (s.keep ks).env, p.2.only (fun id => (idx ids id).isSome) = true := by simp [keep_mk, keepE_nil, keepE_cons, look_cons, V.only, V.onlyL, idx, ‹Caps _›.cn] <;> (first | rfl | decide))
    (hb : ∀ id ∈ ids, ∀ bk, s.O[id]? = some bk → bk.kindIs (fun k => k != .mix) = true := by simp [Blk.kindIs, fillK_mix])
    (e : Ho B → (s.keep ks).comp ids = s' := by
      intro b
      simp only [keep_mk, keepE_nil, keepE_cons, look_cons, look_nil, Nat.reduceEqDiff, reduceIte, St.comp, List.map_cons, List.map_nil, V.ren, V.renL, idx, List.getD_cons_zero, List.getD_cons_succ, Nat.reduceBEq, cond_true, cond_false, Option.map_some, Option.getD_some, Nat.reduceAdd, beq_dec, decide_true, decide_false, ‹Caps _›.cr]
      exact b.h) : Weak m s s' := weak_both ks ids hn hm he hb (e b)
theorem zc {C A B : Prop} (con : C) (b : Ho B) (e : C → Ho B → A := by
  intro con b
  refine v_op ?_
  intro K k
  simp only [zE, zM, aStepM, optable, set_some, Nat.reduceEqDiff, reduceIte, Nat.reduceLT, implies_true, forall_const, reduceCtorEq, V.ofValue, V.ofScalar, V.un, V.gd, aExec, lentIds, lendOf, ‹Tys _›.h, ‹Fc _›.h]
  repeat (refine andC ?_)
  refine aCall_new con (by first | rfl | (simp only [toArgs, toArg, toCell, toCells, idx, row_mk, List.getElem?_cons_zero, List.getElem?_cons_succ, Option.bind_some, Option.map_some, Blk.row, fillK_mix, flat_mix, deep_mix, thin_mix, shal_mix, cond_true, List.map_take]; done) | (simp [toArgs, toArg, toCell, toCells, idx, row_mk, Blk.row, fillK_mix, flat_mix, deep_mix, thin_mix, shal_mix, Nat.beq_refl]; done)) (by first | exact .inl ⟨rfl, by simp [Blk.kindIs, fillK_fd]⟩ | exact .inr (by simp [V.cold])) ?_
  refine k _ ?_
  clear k K
  simp only [zY, zW, set_some, Nat.reduceEqDiff, reduceIte, V.ren, V.renL, rho, Nat.reduceAdd]
  exact b.h) : A := e con b
theorem zcc {C A B : Prop} (con : C) (b : Ho B) (e : C → Ho B → A := by
  intro con b
  refine v_op ?_
  intro K k
  simp only [zE, zM, aStepM, optable, set_some, Nat.reduceEqDiff, reduceIte, Nat.reduceLT, implies_true, forall_const, reduceCtorEq, V.ofValue, V.ofScalar, V.un, V.gd, aExec, lentIds, lendOf, ‹Tys _›.h, ‹Fc _›.h]
  repeat (refine andC ?_)
  refine aCall_new con (by first | rfl | (simp only [toArgs, toArg, toCell, toCells, idx, row_mk, List.getElem?_cons_zero, List.getElem?_cons_succ, Option.bind_some, Option.map_some, Blk.row, fillK_mix, flat_mix, deep_mix, thin_mix, shal_mix, cond_true, List.map_take, ‹Caps _›.cc, ‹Caps _›.ca]; done) | (simp [toArgs, toArg, toCell, toCells, idx, row_mk, Blk.row, fillK_mix, flat_mix, deep_mix, thin_mix, shal_mix, Nat.beq_refl, ‹Caps _›.cc, ‹Caps _›.ca]; done)) (by first | exact .inl ⟨rfl, by simp [Blk.kindIs, fillK_fd]⟩ | exact .inr (by simp [V.cold])) ?_
  refine k _ ?_
  clear k K
  simp only [zY, zW, set_some, Nat.reduceEqDiff, reduceIte, V.ren, V.renL, rho, Nat.reduceAdd]
  exact b.h) : A := e con b
theorem aCall_newXA {P : Program} {s : St} {f : FuncId} {args args' : List V} {R : V → List Blk → Prop} {K : V → St → Prop} (hc : ConX P f args' [] R)
    (h : ∀ r O', R r O' → ((r.clean = true ∧ ∀ bk ∈ O', bk.kindIs (fun k => k != .shal && k != .mix) = true) ∨ (∀ x ∈ args, x.coldIn [] = true)) ∧ K (r.ren (rho [] s.O.length)) { s with O := s.O ++ O' }) (ht : toArgs s [] args = some args' := by first | rfl | (simp only [toArgs, toArg, toCell, toCells, idx, row_mk, List.getElem?_cons_zero, List.getElem?_cons_succ, Option.bind_some, Option.map_some, Blk.row, fillK_mix, flat_mix, deep_mix, thin_mix, shal_mix, cond_true, List.map_take]; done) | (simp [toArgs, toArg, toCell, toCells, idx, row_mk, Blk.row, fillK_mix, flat_mix, deep_mix, thin_mix, shal_mix, Nat.beq_refl]; done)) : aCall P s f [] args K := aCall_newX hc ht h
theorem aCall_lentXA {P : Program} {s : St} {f : FuncId} {args args' : List V} {bk : Blk} {R : V → List Blk → Prop} {K : V → St → Prop} {id : Nat} (hc : ConX P f args' [bk] R)
    (h : ∀ r O', R r O' → ∃ bk' O1, O' = bk' :: O1 ∧ ((r.clean = true ∧ ∀ b ∈ O', b.kindIs (fun k => k != .shal && k != .mix) = true) ∨ (∀ x ∈ args, x.coldIn [id] = true)) ∧ K (r.ren (rho [id] s.O.length)) { s with O := s.O.set id bk' ++ O1 })
    (ht : toArgs s [id] args = some args' := by first | rfl | (simp only [toArgs, toArg, toCell, toCells, idx, row_mk, List.getElem?_cons_zero, List.getElem?_cons_succ, Option.bind_some, Option.map_some, Blk.row, fillK_mix, flat_mix, deep_mix, thin_mix, shal_mix, cond_true, List.map_take]; done) | (simp [toArgs, toArg, toCell, toCells, idx, row_mk, Blk.row, fillK_mix, flat_mix, deep_mix, thin_mix, shal_mix, Nat.beq_refl]; done)) (hO : s.O[id]? = some bk := by rfl) (hbk : bk.kindIs (fun k => k != .mix) = true ∧ bk ≠ .dead := by exact ⟨by simp [Blk.kindIs, fillK_mix], by simp⟩)
    (hv : s.vw = false ∨ bk.kindIs (fun k => k == .flat) = true := by first | exact .inl rfl | exact .inr (by simp [Blk.kindIs])) : aCall P s f [id] args K := aCall_lentX id hc ht hO hbk hv h
theorem aCall_lent2XA {P : Program} {s : St} {f : FuncId} {args args' : List V} {bk bk2 : Blk} {R : V → List Blk → Prop} {K : V → St → Prop} {i j : Nat} (hc : ConX P f args' [bk, bk2] R)
    (h : ∀ r O', R r O' → ∃ b1 b2 O1, O' = b1 :: b2 :: O1 ∧ ((r.clean = true ∧ ∀ b ∈ O', b.kindIs (fun k => k != .shal && k != .mix) = true) ∨ (∀ x ∈ args, x.coldIn [i, j] = true)) ∧ K (r.ren (rho [i, j] s.O.length)) { s with O := (s.O.set i b1).set j b2 ++ O1 })
    (ht : toArgs s [i, j] args = some args' := by first | rfl | (simp only [toArgs, toArg, toCell, toCells, idx, row_mk, List.getElem?_cons_zero, List.getElem?_cons_succ, Option.bind_some, Option.map_some, Blk.row, fillK_mix, flat_mix, deep_mix, thin_mix, shal_mix, cond_true, List.map_take]; done) | (simp [toArgs, toArg, toCell, toCells, idx, row_mk, Blk.row, fillK_mix, flat_mix, deep_mix, thin_mix, shal_mix, Nat.beq_refl]; done)) (hO : s.O[i]? = some bk := by rfl) (hO2 : s.O[j]? = some bk2 := by rfl) (hn : i ≠ j := by decide) (hbk : (bk.kindIs (fun k => k != .mix) = true ∧ bk ≠ .dead) ∧ (bk2.kindIs (fun k => k != .mix) = true ∧ bk2 ≠ .dead) := by exact ⟨⟨by simp [Blk.kindIs, fillK_mix], by simp⟩, ⟨by simp [Blk.kindIs, fillK_mix], by simp⟩⟩)
    (hv : s.vw = false := by rfl) : aCall P s f [i, j] args K := aCall_lent2X i j hc ht hO hO2 hn hbk hv h
theorem zgc {C A B : Prop} (con : C) (b : Ho B) (e : C → Ho B → A := by
  intro con b
  first
  | refine v_passB rfl rfl rfl ?_ ?_
    · first | rfl | (simp only [zV, guardV, Nat.reduceEqDiff, reduceIte]; done)
    simp only [zW, set_some, Nat.reduceEqDiff, reduceIte]
  | skip
    refine v_op ?_
    intro K k
    simp only [zE, zG, aStepM, optable, set_some, Nat.reduceEqDiff, reduceIte, Nat.reduceLT, implies_true, forall_const, reduceCtorEq, V.ofValue, V.ofScalar, V.un, V.gd, guardV, ‹Tys _›.h, ‹Fc _›.h]
    simp only [zM, zW, aExec, lentIds, lendOf, set_some, Nat.reduceEqDiff, reduceIte, V.ofValue, V.ofScalar, V.un, V.gd, and_true, true_and, implies_true, and_self, decide_eq_true_eq]
    first | refine Exists.imp (fun r h => h) (aCall_guardT con (by first | rfl | (simp only [toArgs, toArg, toCell, toCells, idx, row_mk, List.getElem?_cons_zero, List.getElem?_cons_succ, Option.bind_some, Option.map_some, Blk.row, fillK_mix, flat_mix, deep_mix, thin_mix, shal_mix, cond_true, List.map_take]; done) | (simp [toArgs, toArg, toCell, toCells, idx, row_mk, Blk.row, fillK_mix, flat_mix, deep_mix, thin_mix, shal_mix, Nat.beq_refl]; done)) rfl rfl ?_) | refine Exists.imp (fun r h => h) (aCall_guard0 (fun hg => con) (by first | rfl | (simp only [toArgs, toArg, toCell, toCells, idx, row_mk, List.getElem?_cons_zero, List.getElem?_cons_succ, Option.bind_some, Option.map_some, Blk.row, fillK_mix, flat_mix, deep_mix, thin_mix, shal_mix, cond_true, List.map_take]; done) | (simp [toArgs, toArg, toCell, toCells, idx, row_mk, Blk.row, fillK_mix, flat_mix, deep_mix, thin_mix, shal_mix, Nat.beq_refl]; done)) rfl rfl ?_) | refine Exists.imp (fun r h => h) (aCall_guard (by first | (intros; trivial) | (intros; simp_all; done)) (fun hg => con) (by first | rfl | (simp only [toArgs, toArg, toCell, toCells, idx, row_mk, List.getElem?_cons_zero, List.getElem?_cons_succ, Option.bind_some, Option.map_some, Blk.row, fillK_mix, flat_mix, deep_mix, thin_mix, shal_mix, cond_true, List.map_take]; done) | (simp [toArgs, toArg, toCell, toCells, idx, row_mk, Blk.row, fillK_mix, flat_mix, deep_mix, thin_mix, shal_mix, Nat.beq_refl]; done)) rfl rfl ?_)
    refine k _ ?_
    clear k K
  exact b.h) : A := e con b
theorem zsAlloc {A B : Prop} (b : Ho B) (e : Ho B → A := by
  intro b
  intro K k
  simp only [zE, zS, zO, zN, aStepM, optable, set_some, Nat.reduceEqDiff, reduceIte, Nat.reduceLT, implies_true, forall_const, reduceCtorEq, V.ofValue, V.ofScalar, V.un, V.gd, aExec, aop, Nat.reduceAdd, Value.oneCell', V.isVal, V.cells, kindOf, kindAll, V.noSl, V.noRef, List.all_cons, List.all_nil, List.map_cons, List.map_nil, gt_iff_lt, Nat.reduceLeDiff, Nat.reduceMul, contentL, ‹Tys _›.h, ‹Fc _›.h]
  repeat (refine andA ?_)
  refine k _ ?_
  clear k K
  exact b.h) : A := e b
theorem zsc {C A B : Prop} (con : C) (b : Ho B) (e : C → Ho B → A := by
  intro con b K k
  simp only [zE, zM, aStepM, optable, set_some, Nat.reduceEqDiff, reduceIte, Nat.reduceLT, implies_true, forall_const, reduceCtorEq, V.ofValue, V.ofScalar, V.un, V.gd, aExec, lentIds, lendOf, ‹Tys _›.h, ‹Fc _›.h]
  repeat (refine andC ?_)
  refine aCall_new con (by first | rfl | (simp only [toArgs, toArg, toCell, toCells, idx, row_mk, List.getElem?_cons_zero, List.getElem?_cons_succ, Option.bind_some, Option.map_some, Blk.row, fillK_mix, flat_mix, deep_mix, thin_mix, shal_mix, cond_true, List.map_take]; done) | (simp [toArgs, toArg, toCell, toCells, idx, row_mk, Blk.row, fillK_mix, flat_mix, deep_mix, thin_mix, shal_mix, Nat.beq_refl]; done)) (by first | exact .inl ⟨rfl, by simp [Blk.kindIs, fillK_fd]⟩ | exact .inr (by simp [V.cold])) ?_
  refine k _ ?_
  clear k K
  simp only [zY, zW, set_some, Nat.reduceEqDiff, reduceIte, V.ren, V.renL, rho, Nat.reduceAdd]
  exact b.h) : A := e con b
theorem row_all {O : List Blk} {t : St} (h : Grow O t.O) : ∀ i, (O[i]?).isSome = true → t.row i = (O[i]?).bind Blk.row := by
  intro i hi
  unfold St.row
  cases hb : O[i]? with
  | none => rw [hb] at hi; cases hi
  | some b => rw [h i b hb]
theorem zdMove {P : Program} {L : Lend} {rg : Array Oper} {K : St → Prop} {fuel : Nat} {listed : Array Bool} {env : List (Nat × V)} {O : List Blk} {vw : Bool} {n m : Nat} {oi : Oper} {rest : List Oper} {v : V} (hK : ∀ s t, EqS s t → K s → K t) (kp : Bool) (i d : Nat)
    (b : aAny P L rg K fuel (listed.setIfInBounds i true) ⟨(d, v) :: env, O, vw, n, m⟩) (hi : rg.toList.drop i = oi :: rest := by rfl) (hd : oi.dst = some d := by rfl) (hf : Region.freeG L kp rg listed i = true := by kernel_rfl) (hr : (Region.ready .any rg listed).contains i = true := by kernel_rfl)
    (hp : PureH P L rg kp oi d v ⟨env, O, vw, n, m⟩ := by
      intro t hn gx ho K' k'
      dsimp only at hn
      refine .inl ?_
      simp (disch := first | decide | rfl) only [gx, zE, aStepM, optable, Nat.reduceEqDiff, reduceIte, Nat.reduceLT, implies_true, forall_const, reduceCtorEq, V.ofValue, V.ofScalar, V.un, V.gd, aExec, aop, contentL, Value.oneCell', List.all_cons, List.all_nil, Bool.and_self, ‹Tys _›.h, ‹Fc _›.h]
      repeat (refine andA ?_)
      exact k') : aAny P L rg K (fuel + 1) listed ⟨env, O, vw, n, m⟩ := aAny_take hK kp i d hi hd hf hr ⟨v, hp, b⟩
theorem zdLoad {P : Program} {L : Lend} {rg : Array Oper} {K : St → Prop} {fuel : Nat} {listed : Array Bool} {env : List (Nat × V)} {O : List Blk} {vw : Bool} {n m : Nat} {oi : Oper} {rest : List Oper} {v : V} (hK : ∀ s t, EqS s t → K s → K t) (kp : Bool) (i d : Nat)
    (b : aAny P L rg K fuel (listed.setIfInBounds i true) ⟨(d, v) :: env, O, vw, n, m⟩) (hi : rg.toList.drop i = oi :: rest := by rfl) (hd : oi.dst = some d := by rfl) (hf : Region.freeG L kp rg listed i = true := by kernel_rfl) (hr : (Region.ready .any rg listed).contains i = true := by kernel_rfl)
    (hp : PureH P L rg kp oi d v ⟨env, O, vw, n, m⟩ := by
      intro t hn gx ho K' k'
      dsimp only at hn
      first | have r0 := row_all (ho rfl) 0 rfl | have r0 := True.intro
      first | have r1 := row_all (ho rfl) 1 rfl | have r1 := True.intro
      first | have r2 := row_all (ho rfl) 2 rfl | have r2 := True.intro
      first | have r3 := row_all (ho rfl) 3 rfl | have r3 := True.intro
      first | have r4 := row_all (ho rfl) 4 rfl | have r4 := True.intro
      first | have r5 := row_all (ho rfl) 5 rfl | have r5 := True.intro
      refine .inl ?_
      simp (disch := first | decide | rfl) only [gx, r0, r1, r2, r3, r4, r5, zE, zL, zO, zN, aStepM, optable, Nat.reduceEqDiff, reduceIte, Nat.reduceLT, implies_true, forall_const, reduceCtorEq, V.ofValue, V.ofScalar, V.un, V.gd, aExec, aop, aLoad, row_mk, Blk.row, PartOK, Go.Vm.part, V.cells, V.noSl, V.noRef, Nat.reduceAdd, Nat.reduceLeDiff, Nat.reduceMul, contentL, Value.oneCell', List.all_cons, List.all_nil, ‹Tys _›.h, ‹Fc _›.h]
      repeat (refine andA ?_)
      exact k') : aAny P L rg K (fuel + 1) listed ⟨env, O, vw, n, m⟩ := aAny_take hK kp i d hi hd hf hr ⟨v, hp, b⟩
theorem zdNilCheck {P : Program} {L : Lend} {rg : Array Oper} {K : St → Prop} {fuel : Nat} {listed : Array Bool} {env : List (Nat × V)} {O : List Blk} {vw : Bool} {n m : Nat} {oi : Oper} {rest : List Oper} {v : V} (hK : ∀ s t, EqS s t → K s → K t) (kp : Bool) (i d : Nat)
    (b : aAny P L rg K fuel (listed.setIfInBounds i true) ⟨(d, v) :: env, O, vw, n, m⟩) (hi : rg.toList.drop i = oi :: rest := by rfl) (hd : oi.dst = some d := by rfl) (hf : Region.freeG L kp rg listed i = true := by kernel_rfl) (hr : (Region.ready .any rg listed).contains i = true := by kernel_rfl)
    (hp : PureH P L rg kp oi d v ⟨env, O, vw, n, m⟩ := by
      intro t hn gx ho K' k'
      dsimp only at hn
      refine .inl ?_
      simp (disch := first | decide | rfl) only [gx, zE, aStepM, optable, Nat.reduceEqDiff, reduceIte, Nat.reduceLT, implies_true, forall_const, reduceCtorEq, V.ofValue, V.ofScalar, V.un, V.gd, aExec, aop, contentL, Value.oneCell', List.all_cons, List.all_nil, Bool.and_self, ‹Tys _›.h, ‹Fc _›.h]
      repeat (refine andA ?_)
      exact k') : aAny P L rg K (fuel + 1) listed ⟨env, O, vw, n, m⟩ := aAny_take hK kp i d hi hd hf hr ⟨v, hp, b⟩
theorem zdBinOp {P : Program} {L : Lend} {rg : Array Oper} {K : St → Prop} {fuel : Nat} {listed : Array Bool} {env : List (Nat × V)} {O : List Blk} {vw : Bool} {n m : Nat} {oi : Oper} {rest : List Oper} {v : V} (hK : ∀ s t, EqS s t → K s → K t) (kp : Bool) (i d : Nat)
    (b : aAny P L rg K fuel (listed.setIfInBounds i true) ⟨(d, v) :: env, O, vw, n, m⟩) (hi : rg.toList.drop i = oi :: rest := by rfl) (hd : oi.dst = some d := by rfl) (hf : Region.freeG L kp rg listed i = true := by kernel_rfl) (hr : (Region.ready .any rg listed).contains i = true := by kernel_rfl)
    (hp : PureH P L rg kp oi d v ⟨env, O, vw, n, m⟩ := by
      intro t hn gx ho K' k'
      dsimp only at hn
      refine .inl ?_
      simp (disch := first | decide | rfl) only [gx, zE, aStepM, optable, Nat.reduceEqDiff, reduceIte, Nat.reduceLT, implies_true, forall_const, reduceCtorEq, V.ofValue, V.ofScalar, V.un, V.gd, aExec, aop, aBin, isNil, or_true, true_or, or_false, false_or, EK.fitsL, EK.fits, cellsEq, cellEq, contentL, Value.oneCell', List.all_cons, List.all_nil, Bool.and_self, ‹Tys _›.h, ‹Fc _›.h]
      repeat (refine andA ?_)
      exact k') : aAny P L rg K (fuel + 1) listed ⟨env, O, vw, n, m⟩ := aAny_take hK kp i d hi hd hf hr ⟨v, hp, b⟩
theorem zdFieldAddr {P : Program} {L : Lend} {rg : Array Oper} {K : St → Prop} {fuel : Nat} {listed : Array Bool} {env : List (Nat × V)} {O : List Blk} {vw : Bool} {n m : Nat} {oi : Oper} {rest : List Oper} {v : V} (hK : ∀ s t, EqS s t → K s → K t) (kp : Bool) (i d : Nat)
    (b : aAny P L rg K fuel (listed.setIfInBounds i true) ⟨(d, v) :: env, O, vw, n, m⟩) (hi : rg.toList.drop i = oi :: rest := by rfl) (hd : oi.dst = some d := by rfl) (hf : Region.freeG L kp rg listed i = true := by kernel_rfl) (hr : (Region.ready .any rg listed).contains i = true := by kernel_rfl)
    (hp : PureH P L rg kp oi d v ⟨env, O, vw, n, m⟩ := by
      intro t hn gx ho K' k'
      dsimp only at hn
      refine .inl ?_
      simp (disch := first | decide | rfl) only [gx, zE, zL, zN, aStepM, optable, Nat.reduceEqDiff, reduceIte, Nat.reduceLT, implies_true, forall_const, reduceCtorEq, V.ofValue, V.ofScalar, V.un, V.gd, aExec, aop, aFieldAddr, Nat.reduceAdd, Nat.reduceLeDiff, Nat.reduceMul, contentL, Value.oneCell', List.all_cons, List.all_nil, Bool.and_self, ‹Tys _›.h, ‹Fc _›.h]
      repeat (refine andA ?_)
      exact k') : aAny P L rg K (fuel + 1) listed ⟨env, O, vw, n, m⟩ := aAny_take hK kp i d hi hd hf hr ⟨v, hp, b⟩
theorem zdIndexAddr {P : Program} {L : Lend} {rg : Array Oper} {K : St → Prop} {fuel : Nat} {listed : Array Bool} {env : List (Nat × V)} {O : List Blk} {vw : Bool} {n m : Nat} {oi : Oper} {rest : List Oper} {v : V} (hK : ∀ s t, EqS s t → K s → K t) (kp : Bool) (i d : Nat)
    (b : aAny P L rg K fuel (listed.setIfInBounds i true) ⟨(d, v) :: env, O, vw, n, m⟩) (hi : rg.toList.drop i = oi :: rest := by rfl) (hd : oi.dst = some d := by rfl) (hf : Region.freeG L kp rg listed i = true := by kernel_rfl) (hr : (Region.ready .any rg listed).contains i = true := by kernel_rfl)
    (hp : PureH P L rg kp oi d v ⟨env, O, vw, n, m⟩ := by
      intro t hn gx ho K' k'
      dsimp only at hn
      first | have r0 := row_all (ho rfl) 0 rfl | have r0 := True.intro
      first | have r1 := row_all (ho rfl) 1 rfl | have r1 := True.intro
      first | have r2 := row_all (ho rfl) 2 rfl | have r2 := True.intro
      first | have r3 := row_all (ho rfl) 3 rfl | have r3 := True.intro
      first | have r4 := row_all (ho rfl) 4 rfl | have r4 := True.intro
      first | have r5 := row_all (ho rfl) 5 rfl | have r5 := True.intro
      refine .inl ?_
      simp (disch := first | decide | rfl) only [gx, r0, r1, r2, r3, r4, r5, zE, zL, zN, aStepM, optable, Nat.reduceEqDiff, reduceIte, Nat.reduceLT, implies_true, forall_const, reduceCtorEq, V.ofValue, V.ofScalar, V.un, V.gd, aExec, aop, List.mem_cons, List.not_mem_nil, or_false, forall_eq_or_imp, forall_eq, aIndexAddr, row_mk, Blk.row, Go.Vm.V.cells, List.forall_mem_map, List.length_map, Int.toNat_natCast, Int.reduceToNat, TypeDesc.slice.injEq, Nat.reduceAdd, Nat.reduceLeDiff, Nat.reduceMul, contentL, Value.oneCell', List.all_cons, List.all_nil, Bool.and_self, ‹Tys _›.h, ‹Fc _›.h]
      repeat (refine andA ?_)
      exact k') : aAny P L rg K (fuel + 1) listed ⟨env, O, vw, n, m⟩ := aAny_take hK kp i d hi hd hf hr ⟨v, hp, b⟩
theorem zdLen {P : Program} {L : Lend} {rg : Array Oper} {K : St → Prop} {fuel : Nat} {listed : Array Bool} {env : List (Nat × V)} {O : List Blk} {vw : Bool} {n m : Nat} {oi : Oper} {rest : List Oper} {v : V} (hK : ∀ s t, EqS s t → K s → K t) (kp : Bool) (i d : Nat)
    (b : aAny P L rg K fuel (listed.setIfInBounds i true) ⟨(d, v) :: env, O, vw, n, m⟩) (hi : rg.toList.drop i = oi :: rest := by rfl) (hd : oi.dst = some d := by rfl) (hf : Region.freeG L kp rg listed i = true := by kernel_rfl) (hr : (Region.ready .any rg listed).contains i = true := by kernel_rfl)
    (hp : PureH P L rg kp oi d v ⟨env, O, vw, n, m⟩ := by
      intro t hn gx ho K' k'
      dsimp only at hn
      first | have r0 := row_all (ho rfl) 0 rfl | have r0 := True.intro
      first | have r1 := row_all (ho rfl) 1 rfl | have r1 := True.intro
      first | have r2 := row_all (ho rfl) 2 rfl | have r2 := True.intro
      first | have r3 := row_all (ho rfl) 3 rfl | have r3 := True.intro
      first | have r4 := row_all (ho rfl) 4 rfl | have r4 := True.intro
      first | have r5 := row_all (ho rfl) 5 rfl | have r5 := True.intro
      refine .inl ?_
      simp (disch := first | decide | rfl) only [gx, r0, r1, r2, r3, r4, r5, zE, zL, zN, aStepM, optable, Nat.reduceEqDiff, reduceIte, Nat.reduceLT, implies_true, forall_const, reduceCtorEq, V.ofValue, V.ofScalar, V.un, V.gd, aExec, aop, List.length_map, aLen, lenOK, row_mk, Blk.row, List.size_toArray, List.getD_eq_getElem?_getD, Array.getD_eq_getD_getElem?, Option.getD_some, Nat.reduceAdd, Nat.reduceLeDiff, Nat.reduceMul, contentL, Value.oneCell', List.all_cons, List.all_nil, Bool.and_self, ‹Tys _›.h, ‹Fc _›.h]
      repeat (refine andA ?_)
      exact k') : aAny P L rg K (fuel + 1) listed ⟨env, O, vw, n, m⟩ := aAny_take hK kp i d hi hd hf hr ⟨v, hp, b⟩
theorem zdConvert {P : Program} {L : Lend} {rg : Array Oper} {K : St → Prop} {fuel : Nat} {listed : Array Bool} {env : List (Nat × V)} {O : List Blk} {vw : Bool} {n m : Nat} {oi : Oper} {rest : List Oper} {v : V} (hK : ∀ s t, EqS s t → K s → K t) (kp : Bool) (i d : Nat)
    (b : aAny P L rg K fuel (listed.setIfInBounds i true) ⟨(d, v) :: env, O, vw, n, m⟩) (hi : rg.toList.drop i = oi :: rest := by rfl) (hd : oi.dst = some d := by rfl) (hf : Region.freeG L kp rg listed i = true := by kernel_rfl) (hr : (Region.ready .any rg listed).contains i = true := by kernel_rfl)
    (hp : PureH P L rg kp oi d v ⟨env, O, vw, n, m⟩ := by
      intro t hn gx ho K' k'
      dsimp only at hn
      refine .inl ?_
      simp (disch := first | decide | rfl) only [gx, zE, zL, zN, aStepM, optable, Nat.reduceEqDiff, reduceIte, Nat.reduceLT, implies_true, forall_const, reduceCtorEq, V.ofValue, V.ofScalar, V.un, V.gd, aExec, aop, unByte, row_mk, Blk.row, TypeDesc.slice.injEq, Nat.reduceAdd, Nat.reduceLeDiff, Nat.reduceMul, contentL, Value.oneCell', List.all_cons, List.all_nil, Bool.and_self, ‹Tys _›.h, ‹Fc _›.h]
      repeat (refine andA ?_)
      exact k') : aAny P L rg K (fuel + 1) listed ⟨env, O, vw, n, m⟩ := aAny_take hK kp i d hi hd hf hr ⟨v, hp, b⟩
theorem zoAssign {P : Program} {L : Lend} {rg : Array Oper} {K : St → Prop} {fuel : Nat} {listed : Array Bool} {s : St} {oi : Oper} {rest : List Oper} {B : Prop} (i : Nat) (b : Ho B) (hi : rg.toList.drop i = oi :: rest := by rfl) (hr : Region.ready .any rg listed = [i] := by kernel_rfl)
    (e : Ho B → (∀ K' : St → Prop, (∀ s, aAny P L rg K fuel (listed.setIfInBounds i true) s → K' s) → aStepM P L rg oi s K') := by
      intro b K k
      simp only [zE, zS, aStepM, optable, set_some, Nat.reduceEqDiff, reduceIte, Nat.reduceLT, implies_true, forall_const, reduceCtorEq, V.ofValue, V.ofScalar, V.un, V.gd, aExec, aop, Nat.reduceAdd, contentL, Value.oneCell', List.all_cons, List.all_nil, Bool.and_self, ‹Tys _›.h, ‹Fc _›.h]
      repeat (refine andA ?_)
      refine k _ ?_
      clear k K
      exact b.h) : aAny P L rg K (fuel + 1) listed s := aAny_only i hi hr (e b)
theorem zoStore {P : Program} {L : Lend} {rg : Array Oper} {K : St → Prop} {fuel : Nat} {listed : Array Bool} {s : St} {oi : Oper} {rest : List Oper} {B : Prop} (i : Nat) (b : Ho B) (hi : rg.toList.drop i = oi :: rest := by rfl) (hr : Region.ready .any rg listed = [i] := by kernel_rfl)
    (e : Ho B → (∀ K' : St → Prop, (∀ s, aAny P L rg K fuel (listed.setIfInBounds i true) s → K' s) → aStepM P L rg oi s K') := by
      intro b K k
      simp only [zE, zS, zJ, zL, zO, zN, aStepM, optable, set_some, Nat.reduceEqDiff, reduceIte, Nat.reduceLT, implies_true, forall_const, reduceCtorEq, V.ofValue, V.ofScalar, V.un, V.gd, aExec, aop, aStore, setCells, V.isVal, V.cells, kindOf, kindAll, V.noSl, V.noRef, gt_iff_lt, Nat.reduceAdd, Nat.reduceLeDiff, Nat.reduceMul, takeV, takeCell, takeCells, row_mk, Blk.row, killAll, Nat.reduceBEq, join_t, contentL, Value.oneCell', ‹Tys _›.h, ‹Fc _›.h]
      repeat (refine andA ?_)
      refine k _ ?_
      clear k K
      exact b.h) : aAny P L rg K (fuel + 1) listed s := aAny_only i hi hr (e b)
theorem zoAlloc {P : Program} {L : Lend} {rg : Array Oper} {K : St → Prop} {fuel : Nat} {listed : Array Bool} {s : St} {oi : Oper} {rest : List Oper} {B : Prop} (i : Nat) (b : Ho B) (hi : rg.toList.drop i = oi :: rest := by rfl) (hr : Region.ready .any rg listed = [i] := by kernel_rfl)
    (e : Ho B → (∀ K' : St → Prop, (∀ s, aAny P L rg K fuel (listed.setIfInBounds i true) s → K' s) → aStepM P L rg oi s K') := by
      intro b K k
      simp only [zE, zS, zO, zN, aStepM, optable, set_some, Nat.reduceEqDiff, reduceIte, Nat.reduceLT, implies_true, forall_const, reduceCtorEq, V.ofValue, V.ofScalar, V.un, V.gd, aExec, aop, Nat.reduceAdd, Value.oneCell', V.isVal, V.cells, kindOf, kindAll, V.noSl, V.noRef, List.all_cons, List.all_nil, List.map_cons, List.map_nil, gt_iff_lt, Nat.reduceLeDiff, Nat.reduceMul, contentL, ‹Tys _›.h, ‹Fc _›.h]
      repeat (refine andA ?_)
      refine k _ ?_
      clear k K
      exact b.h) : aAny P L rg K (fuel + 1) listed s := aAny_only i hi hr (e b)
theorem zoc {P : Program} {L : Lend} {rg : Array Oper} {K : St → Prop} {fuel : Nat} {listed : Array Bool} {s : St} {oi : Oper} {rest : List Oper} {B : Prop} {C : Prop} (i : Nat) (con : C) (b : Ho B) (hi : rg.toList.drop i = oi :: rest := by rfl) (hr : Region.ready .any rg listed = [i] := by kernel_rfl)
    (e : C → Ho B → (∀ K' : St → Prop, (∀ s, aAny P L rg K fuel (listed.setIfInBounds i true) s → K' s) → aStepM P L rg oi s K') := by
      intro con b K k
      simp only [zE, zM, aStepM, optable, set_some, Nat.reduceEqDiff, reduceIte, Nat.reduceLT, implies_true, forall_const, reduceCtorEq, V.ofValue, V.ofScalar, V.un, V.gd, aExec, lentIds, lendOf, ‹Tys _›.h, ‹Fc _›.h]
      repeat (refine andC ?_)
      refine aCall_new con (by first | rfl | (simp only [toArgs, toArg, toCell, toCells, idx, row_mk, List.getElem?_cons_zero, List.getElem?_cons_succ, Option.bind_some, Option.map_some, Blk.row, fillK_mix, flat_mix, deep_mix, thin_mix, shal_mix, cond_true, List.map_take]; done) | (simp [toArgs, toArg, toCell, toCells, idx, row_mk, Blk.row, fillK_mix, flat_mix, deep_mix, thin_mix, shal_mix, Nat.beq_refl]; done)) (by first | exact .inl ⟨rfl, by simp [Blk.kindIs, fillK_fd]⟩ | exact .inr (by simp [V.cold])) ?_
      refine k _ ?_
      clear k K
      simp only [zY, zW, set_some, Nat.reduceEqDiff, reduceIte, V.ren, V.renL, rho, Nat.reduceAdd]
      exact b.h) : aAny P L rg K (fuel + 1) listed s := aAny_only i hi hr (e con b)
end Go.Vm
