/- The program's TimeForShare and the reference's return the same, for all arguments: the law FnExactTimeForShare holds. No condition. -/
import Derived.Test.YtldnelkcmffiaaaRows
import Derived.Test.YtldnelkcmffiaaaVm19
import Derived.Test.YtldnelkcmffiaaaWLawTimeForShare
set_option linter.unusedSimpArgs false
set_option linter.unusedVariables false
namespace Go.Proofs.Ytldnelkcmffiaaa
open Go Go.Vm

open Go.ChangeShapes Go.WideShapes Go.ChangeAt Go.RowKit
theorem Try.own : ownKnob Try.prog.godebug = none := by kernel_rfl
theorem Try.laidOut : laidOutB Try.prog = true := by kernel_rfl
theorem maxLen_le : maxLen ≤ 9223372036854775807 := by unfold maxLen; decide
theorem law3_all : ∀ vs, argsHave [(false, [.sl true [.int .i64, .str, .int .i64, .int .i64]]), (false, [.int .i64])] vs → Con Try.prog 3 vs [] (.bool true) [] := by
  intro vs h
  obtain ⟨v1, vs2, rfl, ha3, h4⟩ := args_cons h
  obtain ⟨v5, vs6, rfl, ha7, h8⟩ := args_cons h4
  obtain rfl := args_nil h8
  obtain ⟨l, rfl, wl⟩ := (fun h => has_slA (f := (fun t : (Int × ByteArray × Int × Int) => V.agg [(V.int .i64) t.1, V.str t.2.1, (V.int .i64) t.2.2.1, (V.int .i64) t.2.2.2])) (Q := (fun t : (Int × ByteArray × Int × Int) => (fun n => (Lit.int .i64 n).wf = true) t.1 ∧ (fun s => s.size ≤ maxLen) t.2.1 ∧ (fun n => (Lit.int .i64 n).wf = true) t.2.2.1 ∧ (fun n => (Lit.int .i64 n).wf = true) t.2.2.2)) h (fun h => by obtain ⟨x9, l10, rfl, g11, h12⟩ := hasL_cons h; obtain ⟨a13, rfl, w14⟩ := (fun h => has_int h) g11; obtain ⟨x15, l16, rfl, g17, h18⟩ := hasL_cons h12; obtain ⟨a19, rfl, w20⟩ := (fun h => has_str h) g17; obtain ⟨x21, l22, rfl, g23, h24⟩ := hasL_cons h18; obtain ⟨a25, rfl, w26⟩ := (fun h => has_int h) g23; obtain ⟨x27, l28, rfl, g29, h30⟩ := hasL_cons h24; obtain ⟨a31, rfl, w32⟩ := (fun h => has_int h) g29; obtain rfl := hasL_nil h30; exact ⟨(a13, a19, a25, a31), rfl, w14, w20, w26, w32⟩)) (arg_one ha3)
  obtain ⟨share, rfl, wshare⟩ := (fun h => has_int h) (arg_one ha7)
  exact lawTShare_con l share (Nat.le_trans wl.1 maxLen_le) (fun t h => Nat.le_trans (wl.2 t h).2.1 maxLen_le)

set_option maxRecDepth 100000 in
theorem fnExactTimeForShare_lifted (os : Os) (started : os.Started) (H : Type) (enc : TypeId × Value → H) :
    ReturnsInHanded {} Try.checked os 3 .any (Rows.fnExactTimeForShareSpec.pre6 enc Try.prog Try.f3 Rows.fnExactTimeForShareRow.domain false) (Rows.fnExactTimeForShareSpec.post enc Try.prog Try.f3 false true false false) := by
  refine returnsInHanded_of_change (C := Try.checked) Try.own started (by kernel_rfl) Try.func3
    (ChangeSpec.witness6 (enc := enc) (C := Try.checked) false ⟨#[], #[.slice none 0 0, .int .i64 0], []⟩ 8 (by kernel_rfl) (by kernel_rfl) (by kernel_rfl) (by kernel_rfl)) ?_
  intro W base args ds gs before hval hW _ _
  refine law_contract (P := Try.prog) (fn := Try.f3) (s := Rows.fnExactTimeForShareSpec) 8 [(false, [.sl true [.int .i64, .str, .int .i64, .int .i64]]), (false, [.int .i64])] Try.laidOut ?_ (by rfl) rfl Try.underlying4 rfl ?_ law3_all hval hW
  · intro t ht
    have key : (Try.f3.params.toList.all fun t => Try.prog.readableRec t && decide (t < Try.prog.types.size)) = true := by kernel_rfl
    simpa using List.all_eq_true.1 key t ht
  · intro ds h
    match ds, h with
    | [d0, d1], _ => rfl

theorem fnExactTimeForShare_holds : Rows.FnExactTimeForShareSaid :=
  OpenClaim.holds_of_wide 3 Try.f3 rfl rfl rfl rfl rfl rfl rfl ⟨rfl, rfl, rfl, rfl, rfl⟩ rfl rfl rfl rfl rfl (by kernel_rfl) Try.func3 (by kernel_rfl)
    (of_decide_eq_true (by kernel_rfl)) (by unfold Func.isWrapper; first | (rw [if_pos (by decide +kernel)]; kernel_rfl) | (rw [if_neg (by decide +kernel)]; exact ⟨rfl, rfl⟩))
    (fun os started H enc _ => fnExactTimeForShare_lifted os started H enc)

end Go.Proofs.Ytldnelkcmffiaaa
