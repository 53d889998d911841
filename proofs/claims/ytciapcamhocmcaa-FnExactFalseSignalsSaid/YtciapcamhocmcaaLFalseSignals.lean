/- The program's FalseSignals and the reference's return the same, for all arguments: the law FnExactFalseSignals holds. No condition. -/
import Derived.Test.YtciapcamhocmcaaRows
import Derived.Test.YtciapcamhocmcaaVm19
import Derived.Test.YtciapcamhocmcaaWLawFalseSignals
set_option linter.unusedSimpArgs false
set_option linter.unusedVariables false
set_option linter.defProp false
namespace Go.Proofs.Ytciapcamhocmcaa
open Go Go.Vm

open Go.ChangeShapes Go.WideShapes Go.ChangeAt Go.RowKit
theorem Try.own : ownKnob Try.prog.godebug = none := by kernel_rfl
theorem Try.laidOut : laidOutB Try.prog = true := by kernel_rfl
theorem maxLen_le : maxLen ≤ 9223372036854775807 := by unfold maxLen; decide
theorem law14_all : ∀ vs, argsHave [(false, [.sl true [.int .i64, .int .i64, .int .i64, .bool]]), (false, [.sl true [.int .i64, .int .i64]]), (false, [.int .i64])] vs → Con Try.prog 14 vs [] (.bool true) [] := by
  intro vs h
  obtain ⟨v1, vs2, rfl, ha3, h4⟩ := args_cons h
  obtain ⟨v5, vs6, rfl, ha7, h8⟩ := args_cons h4
  obtain ⟨v9, vs10, rfl, ha11, h12⟩ := args_cons h8
  obtain rfl := args_nil h12
  obtain ⟨l, rfl, wl⟩ := (fun h => has_slA (f := (fun t : (Int × Int × Int × Bool) => V.agg [(V.int .i64) t.1, (V.int .i64) t.2.1, (V.int .i64) t.2.2.1, V.bool t.2.2.2])) (Q := (fun t : (Int × Int × Int × Bool) => (fun n => (Lit.int .i64 n).wf = true) t.1 ∧ (fun n => (Lit.int .i64 n).wf = true) t.2.1 ∧ (fun n => (Lit.int .i64 n).wf = true) t.2.2.1 ∧ (fun _ => True) t.2.2.2)) h (fun h => by obtain ⟨x13, l14, rfl, g15, h16⟩ := hasL_cons h; obtain ⟨a17, rfl, w18⟩ := (fun h => has_int h) g15; obtain ⟨x19, l20, rfl, g21, h22⟩ := hasL_cons h16; obtain ⟨a23, rfl, w24⟩ := (fun h => has_int h) g21; obtain ⟨x25, l26, rfl, g27, h28⟩ := hasL_cons h22; obtain ⟨a29, rfl, w30⟩ := (fun h => has_int h) g27; obtain ⟨x31, l32, rfl, g33, h34⟩ := hasL_cons h28; obtain ⟨a35, rfl, w36⟩ := (fun h => has_boolT h) g33; obtain rfl := hasL_nil h34; exact ⟨(a17, a23, a29, a35), rfl, w18, w24, w30, w36⟩)) (arg_one ha3)
  obtain ⟨s, rfl, ws⟩ := (fun h => has_slA (f := (fun t : (Int × Int) => V.agg [(V.int .i64) t.1, (V.int .i64) t.2])) (Q := (fun t : (Int × Int) => (fun n => (Lit.int .i64 n).wf = true) t.1 ∧ (fun n => (Lit.int .i64 n).wf = true) t.2)) h (fun h => by obtain ⟨x37, l38, rfl, g39, h40⟩ := hasL_cons h; obtain ⟨a41, rfl, w42⟩ := (fun h => has_int h) g39; obtain ⟨x43, l44, rfl, g45, h46⟩ := hasL_cons h40; obtain ⟨a47, rfl, w48⟩ := (fun h => has_int h) g45; obtain rfl := hasL_nil h46; exact ⟨(a41, a47), rfl, w42, w48⟩)) (arg_one ha7)
  obtain ⟨within, rfl, wwithin⟩ := (fun h => has_int h) (arg_one ha11)
  exact lawFalseSignals_con l s within (Nat.le_trans wl.1 maxLen_le) (Nat.le_trans ws.1 maxLen_le)

set_option maxRecDepth 100000 in
theorem fnExactFalseSignals_lifted (os : Os) (started : os.Started) (H : Type) (enc : TypeId × Value → H) :
    ReturnsInHanded {} Try.checked os 14 .any (Rows.fnExactFalseSignalsSpec.pre6 enc Try.prog Try.f14 Rows.fnExactFalseSignalsRow.domain false) (Rows.fnExactFalseSignalsSpec.post enc Try.prog Try.f14 false true false false) := by
  refine returnsInHanded_of_change (C := Try.checked) Try.own started (by kernel_rfl) Try.func14
    (ChangeSpec.witness6 (enc := enc) (C := Try.checked) false ⟨#[], #[.slice none 0 0, .slice none 0 0, .int .i64 0], []⟩ 8 (by kernel_rfl) (by kernel_rfl) (by kernel_rfl) (by kernel_rfl)) ?_
  intro W base args ds gs before hval hW _ _
  refine law_contract (P := Try.prog) (fn := Try.f14) (s := Rows.fnExactFalseSignalsSpec) 8 [(false, [.sl true [.int .i64, .int .i64, .int .i64, .bool]]), (false, [.sl true [.int .i64, .int .i64]]), (false, [.int .i64])] Try.laidOut ?_ (by rfl) rfl Try.underlying4 rfl ?_ law14_all hval hW
  · intro t ht
    have key : (Try.f14.params.toList.all fun t => Try.prog.readableRec t && decide (t < Try.prog.types.size)) = true := by kernel_rfl
    simpa using List.all_eq_true.1 key t ht
  · intro ds h
    match ds, h with
    | [d0, d1, d2], _ => rfl

theorem fnExactFalseSignals_holds : Rows.FnExactFalseSignalsSaid :=
  OpenClaim.holds_of_wide 14 Try.f14 rfl rfl rfl rfl rfl rfl rfl ⟨rfl, rfl, rfl, rfl, rfl⟩ rfl rfl rfl rfl rfl (by kernel_rfl) Try.func14 (by kernel_rfl)
    (of_decide_eq_true (by kernel_rfl)) (by unfold Func.isWrapper; first | (rw [if_pos (by decide +kernel)]; kernel_rfl) | (rw [if_neg (by decide +kernel)]; exact ⟨rfl, rfl⟩))
    (fun os started H enc _ => fnExactFalseSignals_lifted os started H enc)

end Go.Proofs.Ytciapcamhocmcaa
