/- The program's MakeRoster and the reference's return the same, for all arguments: the law FnExactMakeRoster holds. No condition. -/
import Derived.Test.YtldnelkcmffiaaaRows
import Derived.Test.YtldnelkcmffiaaaUmH
import Derived.Test.YtldnelkcmffiaaaX10
set_option linter.unusedSimpArgs false
set_option linter.unusedVariables false
set_option linter.defProp false
namespace Go.Proofs.Ytldnelkcmffiaaa
open Go Go.Vm

open Go.ChangeShapes Go.WideShapes Go.ChangeAt Go.RowKit
theorem Try.own : ownKnob Try.prog.godebug = none := by kernel_rfl
theorem Try.laidOut : laidOutB Try.prog = true := by kernel_rfl
theorem maxLen_le : maxLen ≤ 9223372036854775807 := by unfold maxLen; decide
theorem law6_all : ∀ vs, argsHave [(false, [.sl false [.int .i64]]), (true, [.int .i64, .int .i64, .int .i64])] vs → Con Try.prog 6 vs [] (.bool true) [] := by
  intro vs h
  obtain ⟨v1, vs2, rfl, ha3, h4⟩ := args_cons h
  obtain ⟨v5, vs6, rfl, ha7, h8⟩ := args_cons h4
  obtain rfl := args_nil h8
  obtain ⟨needs, rfl, wneeds⟩ := (fun h => has_sl (f := (V.int .i64)) (Q := (fun n => (Lit.int .i64 n).wf = true)) h (fun h => has_int h)) (arg_one ha3)
  obtain ⟨l9, rfl, k10⟩ := arg_agg ha7
  obtain ⟨x11, l12, rfl, g13, k14⟩ := hasL_cons k10
  obtain ⟨ad, rfl, wad⟩ := (fun h => has_int h) g13
  obtain ⟨x15, l16, rfl, g17, k18⟩ := hasL_cons k14
  obtain ⟨bd, rfl, wbd⟩ := (fun h => has_int h) g17
  obtain ⟨x19, l20, rfl, g21, k22⟩ := hasL_cons k18
  obtain ⟨cd, rfl, wcd⟩ := (fun h => has_int h) g21
  obtain rfl := hasL_nil k22
  exact lawMakeRoster_con needs ad bd cd (Nat.le_trans wneeds.1 maxLen_le)

set_option maxRecDepth 100000 in
theorem fnExactMakeRoster_lifted (os : Os) (started : os.Started) (H : Type) (enc : TypeId × Value → H) :
    ReturnsInHanded {} Try.checked os 6 .any (Rows.fnExactMakeRosterSpec.pre6 enc Try.prog Try.f6 Rows.fnExactMakeRosterRow.domain false) (Rows.fnExactMakeRosterSpec.post enc Try.prog Try.f6 false true false false) := by
  refine returnsInHanded_of_change (C := Try.checked) Try.own started (by kernel_rfl) Try.func6
    (ChangeSpec.witness6 (enc := enc) (C := Try.checked) false ⟨#[], #[.slice none 0 0, .agg #[Value.int .i64 0, Value.int .i64 0, Value.int .i64 0]], []⟩ 8 (by kernel_rfl) (by kernel_rfl) (by kernel_rfl) (by kernel_rfl)) ?_
  intro W base args ds gs before hval hW _ _
  refine law_contract (P := Try.prog) (fn := Try.f6) (s := Rows.fnExactMakeRosterSpec) 8 [(false, [.sl false [.int .i64]]), (true, [.int .i64, .int .i64, .int .i64])] Try.laidOut ?_ (by rfl) rfl Try.underlying4 rfl ?_ law6_all hval hW
  · intro t ht
    have key : (Try.f6.params.toList.all fun t => Try.prog.readableRec t && decide (t < Try.prog.types.size)) = true := by kernel_rfl
    simpa using List.all_eq_true.1 key t ht
  · intro ds h
    match ds, h with
    | [d0, d1], _ => rfl

theorem fnExactMakeRoster_holds : Rows.FnExactMakeRosterSaid :=
  OpenClaim.holds_of_wide 6 Try.f6 rfl rfl rfl rfl rfl rfl rfl ⟨rfl, rfl, rfl, rfl, rfl⟩ rfl rfl rfl rfl rfl (by kernel_rfl) Try.func6 (by kernel_rfl)
    (of_decide_eq_true (by kernel_rfl)) (by unfold Func.isWrapper; first | (rw [if_pos (by decide +kernel)]; kernel_rfl) | (rw [if_neg (by decide +kernel)]; exact ⟨rfl, rfl⟩))
    (fun os started H enc _ => fnExactMakeRoster_lifted os started H enc)

end Go.Proofs.Ytldnelkcmffiaaa
