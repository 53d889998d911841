/- The program's NoisyDetectors and the reference's return the same, for all arguments: the law FnExactNoisyDetectors holds. No condition. -/
import Derived.Test.YtdgenniiidgimaaRows
import Derived.Test.YtdgenniiidgimaaVmH
import Derived.Test.YtdgenniiidgimaaWLawNoisyDetectors
set_option linter.unusedSimpArgs false
set_option linter.unusedVariables false
set_option linter.defProp false
namespace Go.Proofs.Ytdgenniiidgimaa
open Go Go.Vm

open Go.ChangeShapes Go.WideShapes Go.ChangeAt Go.RowKit
theorem Try.own : ownKnob Try.prog.godebug = none := by kernel_rfl
theorem Try.laidOut : laidOutB Try.prog = true := by kernel_rfl
theorem maxLen_le : maxLen ≤ 9223372036854775807 := by unfold maxLen; decide
theorem law3_all : ∀ vs, argsHave [(false, [.sl true [.int .i64, .int .i64, .int .i64, .bool]]), (false, [.sl true [.int .i64, .int .i64]]), (false, [.int .i64]), (false, [.int .i64])] vs → Con Try.prog 3 vs [] (.bool true) [] := by
  intro vs h
  obtain ⟨v1, vs2, rfl, ha3, h4⟩ := args_cons h
  obtain ⟨v5, vs6, rfl, ha7, h8⟩ := args_cons h4
  obtain ⟨v9, vs10, rfl, ha11, h12⟩ := args_cons h8
  obtain ⟨v13, vs14, rfl, ha15, h16⟩ := args_cons h12
  obtain rfl := args_nil h16
  obtain ⟨l, rfl, wl⟩ := (fun h => has_slA (f := (fun t : (Int × Int × Int × Bool) => V.agg [(V.int .i64) t.1, (V.int .i64) t.2.1, (V.int .i64) t.2.2.1, V.bool t.2.2.2])) (Q := (fun t : (Int × Int × Int × Bool) => (fun n => (Lit.int .i64 n).wf = true) t.1 ∧ (fun n => (Lit.int .i64 n).wf = true) t.2.1 ∧ (fun n => (Lit.int .i64 n).wf = true) t.2.2.1 ∧ (fun _ => True) t.2.2.2)) h (fun h => by obtain ⟨x17, l18, rfl, g19, h20⟩ := hasL_cons h; obtain ⟨a21, rfl, w22⟩ := (fun h => has_int h) g19; obtain ⟨x23, l24, rfl, g25, h26⟩ := hasL_cons h20; obtain ⟨a27, rfl, w28⟩ := (fun h => has_int h) g25; obtain ⟨x29, l30, rfl, g31, h32⟩ := hasL_cons h26; obtain ⟨a33, rfl, w34⟩ := (fun h => has_int h) g31; obtain ⟨x35, l36, rfl, g37, h38⟩ := hasL_cons h32; obtain ⟨a39, rfl, w40⟩ := (fun h => has_boolT h) g37; obtain rfl := hasL_nil h38; exact ⟨(a21, a27, a33, a39), rfl, w22, w28, w34, w40⟩)) (arg_one ha3)
  obtain ⟨s, rfl, ws⟩ := (fun h => has_slA (f := (fun t : (Int × Int) => V.agg [(V.int .i64) t.1, (V.int .i64) t.2])) (Q := (fun t : (Int × Int) => (fun n => (Lit.int .i64 n).wf = true) t.1 ∧ (fun n => (Lit.int .i64 n).wf = true) t.2)) h (fun h => by obtain ⟨x41, l42, rfl, g43, h44⟩ := hasL_cons h; obtain ⟨a45, rfl, w46⟩ := (fun h => has_int h) g43; obtain ⟨x47, l48, rfl, g49, h50⟩ := hasL_cons h44; obtain ⟨a51, rfl, w52⟩ := (fun h => has_int h) g49; obtain rfl := hasL_nil h50; exact ⟨(a45, a51), rfl, w46, w52⟩)) (arg_one ha7)
  obtain ⟨within, rfl, wwithin⟩ := (fun h => has_int h) (arg_one ha11)
  obtain ⟨most, rfl, wmost⟩ := (fun h => has_int h) (arg_one ha15)
  exact lawNoisyDetectors_con l s within most (Nat.le_trans wl.1 maxLen_le) (Nat.le_trans ws.1 maxLen_le)

set_option maxRecDepth 100000 in
theorem fnExactNoisyDetectors_lifted (os : Os) (started : os.Started) (H : Type) (enc : TypeId × Value → H) :
    ReturnsInHanded {} Try.checked os 3 .any (Rows.fnExactNoisyDetectorsSpec.pre6 enc Try.prog Try.f3 Rows.fnExactNoisyDetectorsRow.domain false) (Rows.fnExactNoisyDetectorsSpec.post enc Try.prog Try.f3 false true false false) := by
  refine returnsInHanded_of_change (C := Try.checked) Try.own started (by kernel_rfl) Try.func3
    (ChangeSpec.witness6 (enc := enc) (C := Try.checked) false ⟨#[], #[.slice none 0 0, .slice none 0 0, .int .i64 0, .int .i64 0], []⟩ 8 (by kernel_rfl) (by kernel_rfl) (by kernel_rfl) (by kernel_rfl)) ?_
  intro W base args ds gs before hval hW _ _
  refine law_contract (P := Try.prog) (fn := Try.f3) (s := Rows.fnExactNoisyDetectorsSpec) 8 [(false, [.sl true [.int .i64, .int .i64, .int .i64, .bool]]), (false, [.sl true [.int .i64, .int .i64]]), (false, [.int .i64]), (false, [.int .i64])] Try.laidOut ?_ (by rfl) rfl Try.underlying4 rfl ?_ law3_all hval hW
  · intro t ht
    have key : (Try.f3.params.toList.all fun t => Try.prog.readableRec t && decide (t < Try.prog.types.size)) = true := by kernel_rfl
    simpa using List.all_eq_true.1 key t ht
  · intro ds h
    match ds, h with
    | [d0, d1, d2, d3], _ => rfl

theorem fnExactNoisyDetectors_holds : Rows.FnExactNoisyDetectorsSaid :=
  OpenClaim.holds_of_wide 3 Try.f3 rfl rfl rfl rfl rfl rfl rfl ⟨rfl, rfl, rfl, rfl, rfl⟩ rfl rfl rfl rfl rfl (by kernel_rfl) Try.func3 (by kernel_rfl)
    (of_decide_eq_true (by kernel_rfl)) (by unfold Func.isWrapper; first | (rw [if_pos (by decide +kernel)]; kernel_rfl) | (rw [if_neg (by decide +kernel)]; exact ⟨rfl, rfl⟩))
    (fun os started H enc _ => fnExactNoisyDetectors_lifted os started H enc)

end Go.Proofs.Ytdgenniiidgimaa
