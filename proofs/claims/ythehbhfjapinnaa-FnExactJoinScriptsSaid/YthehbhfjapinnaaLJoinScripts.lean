/- The program's JoinScripts and the reference's return the same, for all arguments: the law FnExactJoinScripts holds. No condition. -/
import Derived.Test.YthehbhfjapinnaaRows
import Derived.Test.YthehbhfjapinnaaVm19
import Derived.Test.YthehbhfjapinnaaWLawJoinScripts
set_option linter.unusedSimpArgs false
set_option linter.unusedVariables false
namespace Go.Proofs.Ythehbhfjapinnaa
open Go Go.Vm

open Go.ChangeShapes Go.WideShapes Go.ChangeAt Go.RowKit
theorem Try.own : ownKnob Try.prog.godebug = none := by kernel_rfl
theorem Try.laidOut : laidOutB Try.prog = true := by kernel_rfl
theorem maxLen_le : maxLen ≤ 9223372036854775807 := by unfold maxLen; decide
theorem law9_all : ∀ vs, argsHave [(false, [.str]), (false, [.str])] vs → Con Try.prog 9 vs [] (.bool true) [] := by
  intro vs h
  obtain ⟨v1, vs2, rfl, ha3, h4⟩ := args_cons h
  obtain ⟨v5, vs6, rfl, ha7, h8⟩ := args_cons h4
  obtain rfl := args_nil h8
  obtain ⟨a, rfl, wa⟩ := (fun h => has_str h) (arg_one ha3)
  obtain ⟨b, rfl, wb⟩ := (fun h => has_str h) (arg_one ha7)
  exact lawJoin_con a b (Nat.le_trans wa maxLen_le) (Nat.le_trans wb maxLen_le)

set_option maxRecDepth 100000 in
theorem fnExactJoinScripts_lifted (os : Os) (started : os.Started) (H : Type) (enc : TypeId × Value → H) :
    ReturnsInHanded {} Try.checked os 9 .any (Rows.fnExactJoinScriptsSpec.pre6 enc Try.prog Try.f9 Rows.fnExactJoinScriptsRow.domain false) (Rows.fnExactJoinScriptsSpec.post enc Try.prog Try.f9 false true false false) := by
  refine returnsInHanded_of_change (C := Try.checked) Try.own started (by kernel_rfl) Try.func9
    (ChangeSpec.witness6 (enc := enc) (C := Try.checked) false ⟨#[], #[.string .empty, .string .empty], []⟩ 8 (by kernel_rfl) (by kernel_rfl) (by kernel_rfl) (by kernel_rfl)) ?_
  intro W base args ds gs before hval hW _ _
  refine law_contract (P := Try.prog) (fn := Try.f9) (s := Rows.fnExactJoinScriptsSpec) 8 [(false, [.str]), (false, [.str])] Try.laidOut ?_ (by rfl) rfl Try.underlying4 rfl ?_ law9_all hval hW
  · intro t ht
    have key : (Try.f9.params.toList.all fun t => Try.prog.readableRec t && decide (t < Try.prog.types.size)) = true := by kernel_rfl
    simpa using List.all_eq_true.1 key t ht
  · intro ds h
    match ds, h with
    | [d0, d1], _ => rfl

theorem fnExactJoinScripts_holds : Rows.FnExactJoinScriptsSaid :=
  OpenClaim.holds_of_wide 9 Try.f9 rfl rfl rfl rfl rfl rfl rfl ⟨rfl, rfl, rfl, rfl, rfl⟩ rfl rfl rfl rfl rfl (by kernel_rfl) Try.func9 (by kernel_rfl)
    (of_decide_eq_true (by kernel_rfl)) (by unfold Func.isWrapper; first | (rw [if_pos (by decide +kernel)]; kernel_rfl) | (rw [if_neg (by decide +kernel)]; exact ⟨rfl, rfl⟩))
    (fun os started H enc _ => fnExactJoinScripts_lifted os started H enc)

end Go.Proofs.Ythehbhfjapinnaa
