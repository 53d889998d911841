/- The program's BusyTwice and the reference's return the same, for all arguments: the law FnExactBusyTwice holds. No condition. -/
import Derived.Test.YtciapcamhocmcaaRows
import Derived.Test.YtciapcamhocmcaaVm19
import Derived.Test.YtciapcamhocmcaaWLawBusyTwice
set_option linter.unusedSimpArgs false
set_option linter.unusedVariables false
namespace Go.Proofs.Ytciapcamhocmcaa
open Go Go.Vm

open Go.ChangeShapes Go.WideShapes Go.ChangeAt Go.RowKit
theorem Try.own : ownKnob Try.prog.godebug = none := by kernel_rfl
theorem Try.laidOut : laidOutB Try.prog = true := by kernel_rfl
theorem maxLen_le : maxLen ≤ 9223372036854775807 := by unfold maxLen; decide
theorem law11_all : ∀ vs, argsHave [(false, [.sl true [.int .i64, .str, .int .i64, .int .i64]])] vs → Con Try.prog 11 vs [] (.bool true) [] := by
  intro vs h
  obtain ⟨v1, vs2, rfl, ha3, h4⟩ := args_cons h
  obtain rfl := args_nil h4
  obtain ⟨l, rfl, wl⟩ := (fun h => has_slA (f := (fun t : (Int × ByteArray × Int × Int) => V.agg [(V.int .i64) t.1, V.str t.2.1, (V.int .i64) t.2.2.1, (V.int .i64) t.2.2.2])) (Q := (fun t : (Int × ByteArray × Int × Int) => (fun n => (Lit.int .i64 n).wf = true) t.1 ∧ (fun s => s.size ≤ maxLen) t.2.1 ∧ (fun n => (Lit.int .i64 n).wf = true) t.2.2.1 ∧ (fun n => (Lit.int .i64 n).wf = true) t.2.2.2)) h (fun h => by obtain ⟨x5, l6, rfl, g7, h8⟩ := hasL_cons h; obtain ⟨a9, rfl, w10⟩ := (fun h => has_int h) g7; obtain ⟨x11, l12, rfl, g13, h14⟩ := hasL_cons h8; obtain ⟨a15, rfl, w16⟩ := (fun h => has_str h) g13; obtain ⟨x17, l18, rfl, g19, h20⟩ := hasL_cons h14; obtain ⟨a21, rfl, w22⟩ := (fun h => has_int h) g19; obtain ⟨x23, l24, rfl, g25, h26⟩ := hasL_cons h20; obtain ⟨a27, rfl, w28⟩ := (fun h => has_int h) g25; obtain rfl := hasL_nil h26; exact ⟨(a9, a15, a21, a27), rfl, w10, w16, w22, w28⟩)) (arg_one ha3)
  exact lawBusy_con l (Nat.le_trans wl.1 maxLen_le) (fun t h => Nat.le_trans (wl.2 t h).2.1 maxLen_le)

set_option maxRecDepth 100000 in
theorem fnExactBusyTwice_lifted (os : Os) (started : os.Started) (H : Type) (enc : TypeId × Value → H) :
    ReturnsInHanded {} Try.checked os 11 .any (Rows.fnExactBusyTwiceSpec.pre6 enc Try.prog Try.f11 Rows.fnExactBusyTwiceRow.domain false) (Rows.fnExactBusyTwiceSpec.post enc Try.prog Try.f11 false true false false) := by
  refine returnsInHanded_of_change (C := Try.checked) Try.own started (by kernel_rfl) Try.func11
    (ChangeSpec.witness6 (enc := enc) (C := Try.checked) false ⟨#[], #[.slice none 0 0], []⟩ 8 (by kernel_rfl) (by kernel_rfl) (by kernel_rfl) (by kernel_rfl)) ?_
  intro W base args ds gs before hval hW _ _
  refine law_contract (P := Try.prog) (fn := Try.f11) (s := Rows.fnExactBusyTwiceSpec) 8 [(false, [.sl true [.int .i64, .str, .int .i64, .int .i64]])] Try.laidOut ?_ (by rfl) rfl Try.underlying4 rfl ?_ law11_all hval hW
  · intro t ht
    have key : (Try.f11.params.toList.all fun t => Try.prog.readableRec t && decide (t < Try.prog.types.size)) = true := by kernel_rfl
    simpa using List.all_eq_true.1 key t ht
  · intro ds h
    match ds, h with
    | [d0], _ => rfl

theorem fnExactBusyTwice_holds : Rows.FnExactBusyTwiceSaid :=
  OpenClaim.holds_of_wide 11 Try.f11 rfl rfl rfl rfl rfl rfl rfl ⟨rfl, rfl, rfl, rfl, rfl⟩ rfl rfl rfl rfl rfl (by kernel_rfl) Try.func11 (by kernel_rfl)
    (of_decide_eq_true (by kernel_rfl)) (by unfold Func.isWrapper; first | (rw [if_pos (by decide +kernel)]; kernel_rfl) | (rw [if_neg (by decide +kernel)]; exact ⟨rfl, rfl⟩))
    (fun os started H enc _ => fnExactBusyTwice_lifted os started H enc)

end Go.Proofs.Ytciapcamhocmcaa
