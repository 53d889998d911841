/- The program's FewestPeople and the reference's return the same, for all arguments: the law FnExactFewestPeople holds. No condition. -/
import Derived.Test.YtldnelkcmffiaaaRows
import Derived.Test.YtldnelkcmffiaaaUmH
import Derived.Test.YtldnelkcmffiaaaX9
set_option linter.unusedSimpArgs false
set_option linter.unusedVariables false
set_option linter.defProp false
namespace Go.Proofs.Ytldnelkcmffiaaa
open Go Go.Vm

open Go.ChangeShapes Go.WideShapes Go.ChangeAt Go.RowKit
theorem Try.own : ownKnob Try.prog.godebug = none := by kernel_rfl
theorem Try.laidOut : laidOutB Try.prog = true := by kernel_rfl
theorem maxLen_le : maxLen ≤ 9223372036854775807 := by unfold maxLen; decide
theorem law5_all : ∀ vs, argsHave [(false, [.sl false [.int .i64]]), (false, [.int .i64]), (false, [.int .i64])] vs → Con Try.prog 5 vs [] (.bool true) [] := by
  intro vs h
  obtain ⟨v1, vs2, rfl, ha3, h4⟩ := args_cons h
  obtain ⟨v5, vs6, rfl, ha7, h8⟩ := args_cons h4
  obtain ⟨v9, vs10, rfl, ha11, h12⟩ := args_cons h8
  obtain rfl := args_nil h12
  obtain ⟨needs, rfl, wneeds⟩ := (fun h => has_sl (f := (V.int .i64)) (Q := (fun n => (Lit.int .i64 n).wf = true)) h (fun h => has_int h)) (arg_one ha3)
  obtain ⟨b, rfl, wb⟩ := (fun h => has_int h) (arg_one ha7)
  obtain ⟨c, rfl, wc⟩ := (fun h => has_int h) (arg_one ha11)
  exact lawFewestPeople_con needs b c (Nat.le_trans wneeds.1 maxLen_le)

set_option maxRecDepth 100000 in
theorem fnExactFewestPeople_lifted (os : Os) (started : os.Started) (H : Type) (enc : TypeId × Value → H) :
    ReturnsInHanded {} Try.checked os 5 .any (Rows.fnExactFewestPeopleSpec.pre6 enc Try.prog Try.f5 Rows.fnExactFewestPeopleRow.domain false) (Rows.fnExactFewestPeopleSpec.post enc Try.prog Try.f5 false true false false) := by
  refine returnsInHanded_of_change (C := Try.checked) Try.own started (by kernel_rfl) Try.func5
    (ChangeSpec.witness6 (enc := enc) (C := Try.checked) false ⟨#[], #[.slice none 0 0, .int .i64 0, .int .i64 0], []⟩ 8 (by kernel_rfl) (by kernel_rfl) (by kernel_rfl) (by kernel_rfl)) ?_
  intro W base args ds gs before hval hW _ _
  refine law_contract (P := Try.prog) (fn := Try.f5) (s := Rows.fnExactFewestPeopleSpec) 8 [(false, [.sl false [.int .i64]]), (false, [.int .i64]), (false, [.int .i64])] Try.laidOut ?_ (by rfl) rfl Try.underlying4 rfl ?_ law5_all hval hW
  · intro t ht
    have key : (Try.f5.params.toList.all fun t => Try.prog.readableRec t && decide (t < Try.prog.types.size)) = true := by kernel_rfl
    simpa using List.all_eq_true.1 key t ht
  · intro ds h
    match ds, h with
    | [d0, d1, d2], _ => rfl

theorem fnExactFewestPeople_holds : Rows.FnExactFewestPeopleSaid :=
  OpenClaim.holds_of_wide 5 Try.f5 rfl rfl rfl rfl rfl rfl rfl ⟨rfl, rfl, rfl, rfl, rfl⟩ rfl rfl rfl rfl rfl (by kernel_rfl) Try.func5 (by kernel_rfl)
    (of_decide_eq_true (by kernel_rfl)) (by unfold Func.isWrapper; first | (rw [if_pos (by decide +kernel)]; kernel_rfl) | (rw [if_neg (by decide +kernel)]; exact ⟨rfl, rfl⟩))
    (fun os started H enc _ => fnExactFewestPeople_lifted os started H enc)

end Go.Proofs.Ytldnelkcmffiaaa
