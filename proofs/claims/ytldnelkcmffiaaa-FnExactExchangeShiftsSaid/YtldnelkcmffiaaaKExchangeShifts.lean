/- The program's ExchangeShifts and the reference's return the same, for all arguments: the law FnExactExchangeShifts holds. No condition. -/
import Derived.Test.YtldnelkcmffiaaaRows
import Derived.Test.YtldnelkcmffiaaaUmH
import Derived.Test.YtldnelkcmffiaaaX8
set_option linter.unusedSimpArgs false
set_option linter.unusedVariables false
set_option linter.defProp false
namespace Go.Proofs.Ytldnelkcmffiaaa
open Go Go.Vm

open Go.ChangeShapes Go.WideShapes Go.ChangeAt Go.RowKit
theorem Try.own : ownKnob Try.prog.godebug = none := by kernel_rfl
theorem Try.laidOut : laidOutB Try.prog = true := by kernel_rfl
theorem maxLen_le : maxLen ≤ 9223372036854775807 := by unfold maxLen; decide
theorem law4_all : ∀ vs, argsHave [(false, [.sl false [.sl false [.int .i64]]]), (true, [.int .i64, .int .i64, .int .i64]), (false, [.int .i64]), (false, [.int .i64]), (false, [.int .i64]), (false, [.int .i64])] vs → Con Try.prog 4 vs [] (.bool true) [] := by
  intro vs h
  obtain ⟨v1, vs2, rfl, ha3, h4⟩ := args_cons h
  obtain ⟨v5, vs6, rfl, ha7, h8⟩ := args_cons h4
  obtain ⟨v9, vs10, rfl, ha11, h12⟩ := args_cons h8
  obtain ⟨v13, vs14, rfl, ha15, h16⟩ := args_cons h12
  obtain ⟨v17, vs18, rfl, ha19, h20⟩ := args_cons h16
  obtain ⟨v21, vs22, rfl, ha23, h24⟩ := args_cons h20
  obtain rfl := args_nil h24
  obtain ⟨ll, rfl, wll⟩ := (fun h => has_sl (f := (fun l : List Int => V.sl (l.map (V.int .i64)))) (Q := (fun l : List Int => l.length ≤ maxLen ∧ ∀ a ∈ l, (fun n => (Lit.int .i64 n).wf = true) a)) h (fun h => has_sl (f := (V.int .i64)) (Q := (fun n => (Lit.int .i64 n).wf = true)) h (fun h => has_int h))) (arg_one ha3)
  obtain ⟨l25, rfl, k26⟩ := arg_agg ha7
  obtain ⟨x27, l28, rfl, g29, k30⟩ := hasL_cons k26
  obtain ⟨ad, rfl, wad⟩ := (fun h => has_int h) g29
  obtain ⟨x31, l32, rfl, g33, k34⟩ := hasL_cons k30
  obtain ⟨bd, rfl, wbd⟩ := (fun h => has_int h) g33
  obtain ⟨x35, l36, rfl, g37, k38⟩ := hasL_cons k34
  obtain ⟨cd, rfl, wcd⟩ := (fun h => has_int h) g37
  obtain rfl := hasL_nil k38
  obtain ⟨sa, rfl, wsa⟩ := (fun h => has_int h) (arg_one ha11)
  obtain ⟨sb, rfl, wsb⟩ := (fun h => has_int h) (arg_one ha15)
  obtain ⟨x, rfl, wx⟩ := (fun h => has_int h) (arg_one ha19)
  obtain ⟨y, rfl, wy⟩ := (fun h => has_int h) (arg_one ha23)
  exact lawExchangeShifts_con ll ad bd cd sa sb x y (Nat.le_trans wll.1 maxLen_le) (fun l h => Nat.le_trans (wll.2 l h).1 maxLen_le)

set_option maxRecDepth 100000 in
theorem fnExactExchangeShifts_lifted (os : Os) (started : os.Started) (H : Type) (enc : TypeId × Value → H) :
    ReturnsInHanded {} Try.checked os 4 .any (Rows.fnExactExchangeShiftsSpec.pre6 enc Try.prog Try.f4 Rows.fnExactExchangeShiftsRow.domain false) (Rows.fnExactExchangeShiftsSpec.post enc Try.prog Try.f4 false true false false) := by
  refine returnsInHanded_of_change (C := Try.checked) Try.own started (by kernel_rfl) Try.func4
    (ChangeSpec.witness6 (enc := enc) (C := Try.checked) false ⟨#[], #[.slice none 0 0, .agg #[Value.int .i64 0, Value.int .i64 0, Value.int .i64 0], .int .i64 0, .int .i64 0, .int .i64 0, .int .i64 0], []⟩ 8 (by kernel_rfl) (by kernel_rfl) (by kernel_rfl) (by kernel_rfl)) ?_
  intro W base args ds gs before hval hW _ _
  refine law_contract (P := Try.prog) (fn := Try.f4) (s := Rows.fnExactExchangeShiftsSpec) 8 [(false, [.sl false [.sl false [.int .i64]]]), (true, [.int .i64, .int .i64, .int .i64]), (false, [.int .i64]), (false, [.int .i64]), (false, [.int .i64]), (false, [.int .i64])] Try.laidOut ?_ (by rfl) rfl Try.underlying4 rfl ?_ law4_all hval hW
  · intro t ht
    have key : (Try.f4.params.toList.all fun t => Try.prog.readableRec t && decide (t < Try.prog.types.size)) = true := by kernel_rfl
    simpa using List.all_eq_true.1 key t ht
  · intro ds h
    match ds, h with
    | [d0, d1, d2, d3, d4, d5], _ => rfl

theorem fnExactExchangeShifts_holds : Rows.FnExactExchangeShiftsSaid :=
  OpenClaim.holds_of_wide 4 Try.f4 rfl rfl rfl rfl rfl rfl rfl ⟨rfl, rfl, rfl, rfl, rfl⟩ rfl rfl rfl rfl rfl (by kernel_rfl) Try.func4 (by kernel_rfl)
    (of_decide_eq_true (by kernel_rfl)) (by unfold Func.isWrapper; first | (rw [if_pos (by decide +kernel)]; kernel_rfl) | (rw [if_neg (by decide +kernel)]; exact ⟨rfl, rfl⟩))
    (fun os started H enc _ => fnExactExchangeShifts_lifted os started H enc)

end Go.Proofs.Ytldnelkcmffiaaa
