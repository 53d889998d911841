/- The program's NewControl and the reference's return the same, for all arguments: the law FnExactNewControl holds. No condition. -/
import Derived.Test.YtdgenniiidgimaaRows
import Derived.Test.YtdgenniiidgimaaUmH
import Derived.Test.YtdgenniiidgimaaX12
set_option linter.unusedSimpArgs false
set_option linter.unusedVariables false
set_option linter.defProp false
namespace Go.Proofs.Ytdgenniiidgimaa
open Go Go.Vm

open Go.ChangeShapes Go.WideShapes Go.ChangeAt Go.RowKit
theorem Try.own : ownKnob Try.prog.godebug = none := by kernel_rfl
theorem Try.laidOut : laidOutB Try.prog = true := by kernel_rfl
theorem maxLen_le : maxLen ≤ 9223372036854775807 := by unfold maxLen; decide
theorem law6_all : ∀ vs, argsHave [(true, [.int .i64, .sl true [.int .i64, .int .i64, .int .i64]]), (false, [.sl true [.str, .int .i64, .int .i64, .int .i64, .int .i64]])] vs → Con Try.prog 6 vs [] (.bool true) [] := by
  intro vs h
  obtain ⟨v1, vs2, rfl, ha3, h4⟩ := args_cons h
  obtain ⟨v5, vs6, rfl, ha7, h8⟩ := args_cons h4
  obtain rfl := args_nil h8
  obtain ⟨l9, rfl, k10⟩ := arg_agg ha3
  obtain ⟨x11, l12, rfl, g13, k14⟩ := hasL_cons k10
  obtain ⟨nss, rfl, wnss⟩ := (fun h => has_int h) g13
  obtain ⟨x15, l16, rfl, g17, k18⟩ := hasL_cons k14
  obtain ⟨ss, rfl, wss⟩ := (fun h => has_slA (f := (fun t : (Int × Int × Int) => V.agg [(V.int .i64) t.1, (V.int .i64) t.2.1, (V.int .i64) t.2.2])) (Q := (fun t : (Int × Int × Int) => (fun n => (Lit.int .i64 n).wf = true) t.1 ∧ (fun n => (Lit.int .i64 n).wf = true) t.2.1 ∧ (fun n => (Lit.int .i64 n).wf = true) t.2.2)) h (fun h => by obtain ⟨x19, l20, rfl, g21, h22⟩ := hasL_cons h; obtain ⟨a23, rfl, w24⟩ := (fun h => has_int h) g21; obtain ⟨x25, l26, rfl, g27, h28⟩ := hasL_cons h22; obtain ⟨a29, rfl, w30⟩ := (fun h => has_int h) g27; obtain ⟨x31, l32, rfl, g33, h34⟩ := hasL_cons h28; obtain ⟨a35, rfl, w36⟩ := (fun h => has_int h) g33; obtain rfl := hasL_nil h34; exact ⟨(a23, a29, a35), rfl, w24, w30, w36⟩)) g17
  obtain rfl := hasL_nil k18
  obtain ⟨fl, rfl, wfl⟩ := (fun h => has_slA (f := (fun t : (ByteArray × Int × Int × Int × Int) => V.agg [V.str t.1, (V.int .i64) t.2.1, (V.int .i64) t.2.2.1, (V.int .i64) t.2.2.2.1, (V.int .i64) t.2.2.2.2])) (Q := (fun t : (ByteArray × Int × Int × Int × Int) => (fun s => s.size ≤ maxLen) t.1 ∧ (fun n => (Lit.int .i64 n).wf = true) t.2.1 ∧ (fun n => (Lit.int .i64 n).wf = true) t.2.2.1 ∧ (fun n => (Lit.int .i64 n).wf = true) t.2.2.2.1 ∧ (fun n => (Lit.int .i64 n).wf = true) t.2.2.2.2)) h (fun h => by obtain ⟨x37, l38, rfl, g39, h40⟩ := hasL_cons h; obtain ⟨a41, rfl, w42⟩ := (fun h => has_str h) g39; obtain ⟨x43, l44, rfl, g45, h46⟩ := hasL_cons h40; obtain ⟨a47, rfl, w48⟩ := (fun h => has_int h) g45; obtain ⟨x49, l50, rfl, g51, h52⟩ := hasL_cons h46; obtain ⟨a53, rfl, w54⟩ := (fun h => has_int h) g51; obtain ⟨x55, l56, rfl, g57, h58⟩ := hasL_cons h52; obtain ⟨a59, rfl, w60⟩ := (fun h => has_int h) g57; obtain ⟨x61, l62, rfl, g63, h64⟩ := hasL_cons h58; obtain ⟨a65, rfl, w66⟩ := (fun h => has_int h) g63; obtain rfl := hasL_nil h64; exact ⟨(a41, a47, a53, a59, a65), rfl, w42, w48, w54, w60, w66⟩)) (arg_one ha7)
  exact lawNewControl_con nss ss fl (Nat.le_trans wss.1 maxLen_le) (Nat.le_trans wfl.1 maxLen_le) (fun t h => (Nat.le_trans (wfl.2 t h).1 maxLen_le))

set_option maxRecDepth 100000 in
theorem fnExactNewControl_lifted (os : Os) (started : os.Started) (H : Type) (enc : TypeId × Value → H) :
    ReturnsInHanded {} Try.checked os 6 .any (Rows.fnExactNewControlSpec.pre6 enc Try.prog Try.f6 Rows.fnExactNewControlRow.domain false) (Rows.fnExactNewControlSpec.post enc Try.prog Try.f6 false true false false) := by
  refine returnsInHanded_of_change (C := Try.checked) Try.own started (by kernel_rfl) Try.func6
    (ChangeSpec.witness6 (enc := enc) (C := Try.checked) false ⟨#[], #[.agg #[Value.int .i64 0, Value.slice none 0 0], .slice none 0 0], []⟩ 8 (by kernel_rfl) (by kernel_rfl) (by kernel_rfl) (by kernel_rfl)) ?_
  intro W base args ds gs before hval hW _ _
  refine law_contract (P := Try.prog) (fn := Try.f6) (s := Rows.fnExactNewControlSpec) 8 [(true, [.int .i64, .sl true [.int .i64, .int .i64, .int .i64]]), (false, [.sl true [.str, .int .i64, .int .i64, .int .i64, .int .i64]])] Try.laidOut ?_ (by rfl) rfl Try.underlying4 rfl ?_ law6_all hval hW
  · intro t ht
    have key : (Try.f6.params.toList.all fun t => Try.prog.readableRec t && decide (t < Try.prog.types.size)) = true := by kernel_rfl
    simpa using List.all_eq_true.1 key t ht
  · intro ds h
    match ds, h with
    | [d0, d1], _ => rfl

theorem fnExactNewControl_holds : Rows.FnExactNewControlSaid :=
  OpenClaim.holds_of_wide 6 Try.f6 rfl rfl rfl rfl rfl rfl rfl ⟨rfl, rfl, rfl, rfl, rfl⟩ rfl rfl rfl rfl rfl (by kernel_rfl) Try.func6 (by kernel_rfl)
    (of_decide_eq_true (by kernel_rfl)) (by unfold Func.isWrapper; first | (rw [if_pos (by decide +kernel)]; kernel_rfl) | (rw [if_neg (by decide +kernel)]; exact ⟨rfl, rfl⟩))
    (fun os started H enc _ => fnExactNewControl_lifted os started H enc)

end Go.Proofs.Ytdgenniiidgimaa
