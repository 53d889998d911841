/- FnExactIsDuty holds for every input. No condition. -/
import Derived.Test.YthehbhfjapinnaaRows
import Derived.Test.YthehbhfjapinnaaVm19
import Derived.Test.YthehbhfjapinnaaWDuty
set_option linter.unusedSimpArgs false
set_option linter.unusedVariables false
namespace Go.Proofs.Ythehbhfjapinnaa
open Go Go.Vm Go.ChangeShapes Go.WideShapes Go.ChangeAt Go.RowKit
theorem Try.own : ownKnob Try.prog.godebug = none := by kernel_rfl
theorem Try.laidOut : laidOutB Try.prog = true := by kernel_rfl

theorem law3_all : ∀ vs, argsHave [(true, [.int .i64, .int .i64, .int .i64])] vs → Con Try.prog 3 vs [] (.bool true) [] := by
  intro vs h
  obtain ⟨v1, vs2, rfl, ha3, h4⟩ := args_cons h
  obtain rfl := args_nil h4
  obtain ⟨l5, rfl, k6⟩ := arg_agg ha3
  obtain ⟨x7, l8, rfl, g9, k10⟩ := hasL_cons k6
  obtain ⟨a, rfl, wa⟩ := (fun h => has_int h) g9
  obtain ⟨x11, l12, rfl, g13, k14⟩ := hasL_cons k10
  obtain ⟨b, rfl, wb⟩ := (fun h => has_int h) g13
  obtain ⟨x15, l16, rfl, g17, k18⟩ := hasL_cons k14
  obtain ⟨c, rfl, wc⟩ := (fun h => has_int h) g17
  obtain rfl := hasL_nil k18
  exact law3_con a b c

set_option maxRecDepth 100000 in
theorem fnExactIsDuty_lifted (os : Os) (started : os.Started) (H : Type) (enc : TypeId × Value → H) :
    ReturnsInHanded {} Try.checked os 3 .any (Rows.fnExactIsDutySpec.pre6 enc Try.prog Try.f3 Rows.fnExactIsDutyRow.domain false) (Rows.fnExactIsDutySpec.post enc Try.prog Try.f3 false true false false) := by
  refine returnsInHanded_of_change (C := Try.checked) Try.own started (by kernel_rfl) Try.func3
    (ChangeSpec.witness6 (enc := enc) (C := Try.checked) false ⟨#[], #[.agg #[Value.int .i64 0, Value.int .i64 0, Value.int .i64 0]], []⟩ 8 (by kernel_rfl) (by kernel_rfl) (by kernel_rfl) (by kernel_rfl)) ?_
  intro W base args ds gs before hval hW _ _
  refine law_contract (P := Try.prog) (fn := Try.f3) (s := Rows.fnExactIsDutySpec) 8 [(true, [.int .i64, .int .i64, .int .i64])] Try.laidOut ?_ (by rfl) rfl Try.underlying4 rfl ?_ law3_all hval hW
  · intro t ht
    have key : (Try.f3.params.toList.all fun t => Try.prog.readableRec t && decide (t < Try.prog.types.size)) = true := by kernel_rfl
    simpa using List.all_eq_true.1 key t ht
  · intro ds h
    match ds, h with
    | [d0], _ => rfl

theorem fnExactIsDuty_holds : Rows.FnExactIsDutySaid :=
  OpenClaim.holds_of_wide 3 Try.f3 rfl rfl rfl rfl rfl rfl rfl ⟨rfl, rfl, rfl, rfl, rfl⟩ rfl rfl rfl rfl rfl (by kernel_rfl) Try.func3 (by kernel_rfl)
    (of_decide_eq_true (by kernel_rfl)) (by unfold Func.isWrapper; first | (rw [if_pos (by decide +kernel)]; kernel_rfl) | (rw [if_neg (by decide +kernel)]; exact ⟨rfl, rfl⟩))
    (fun os started H enc _ => fnExactIsDuty_lifted os started H enc)

end Go.Proofs.Ythehbhfjapinnaa
