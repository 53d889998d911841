/- The program's RankOfChoice and the reference's return the same, for all arguments: the law FnExactRankOfChoice holds. No condition. -/
import Derived.Test.YtdgenniiidgimaaRows
import Derived.Test.YtdgenniiidgimaaVmH
import Derived.Test.YtdgenniiidgimaaWLawRankOfChoice
set_option linter.unusedSimpArgs false
set_option linter.unusedVariables false
set_option linter.defProp false
namespace Go.Proofs.Ytdgenniiidgimaa
open Go Go.Vm

open Go.ChangeShapes Go.WideShapes Go.ChangeAt Go.RowKit
theorem Try.own : ownKnob Try.prog.godebug = none := by kernel_rfl
theorem Try.laidOut : laidOutB Try.prog = true := by kernel_rfl
theorem maxLen_le : maxLen ≤ 9223372036854775807 := by unfold maxLen; decide
theorem law7_all : ∀ vs, argsHave [(true, [.int .i64, .sl true [.int .i64, .int .i64, .int .i64]]), (false, [.sl true [.str, .int .i64, .int .i64, .int .i64, .int .i64]]), (false, [.int .i64]), (false, [.sl false [.str]])] vs → Con Try.prog 7 vs [] (.bool true) [] := by
  intro vs h
  obtain ⟨v1, vs2, rfl, ha3, h4⟩ := args_cons h
  obtain ⟨v5, vs6, rfl, ha7, h8⟩ := args_cons h4
  obtain ⟨v9, vs10, rfl, ha11, h12⟩ := args_cons h8
  obtain ⟨v13, vs14, rfl, ha15, h16⟩ := args_cons h12
  obtain rfl := args_nil h16
  obtain ⟨l17, rfl, k18⟩ := arg_agg ha3
  obtain ⟨x19, l20, rfl, g21, k22⟩ := hasL_cons k18
  obtain ⟨nss, rfl, wnss⟩ := (fun h => has_int h) g21
  obtain ⟨x23, l24, rfl, g25, k26⟩ := hasL_cons k22
  obtain ⟨ss, rfl, wss⟩ := (fun h => has_slA (f := (fun t : (Int × Int × Int) => V.agg [(V.int .i64) t.1, (V.int .i64) t.2.1, (V.int .i64) t.2.2])) (Q := (fun t : (Int × Int × Int) => (fun n => (Lit.int .i64 n).wf = true) t.1 ∧ (fun n => (Lit.int .i64 n).wf = true) t.2.1 ∧ (fun n => (Lit.int .i64 n).wf = true) t.2.2)) h (fun h => by obtain ⟨x27, l28, rfl, g29, h30⟩ := hasL_cons h; obtain ⟨a31, rfl, w32⟩ := (fun h => has_int h) g29; obtain ⟨x33, l34, rfl, g35, h36⟩ := hasL_cons h30; obtain ⟨a37, rfl, w38⟩ := (fun h => has_int h) g35; obtain ⟨x39, l40, rfl, g41, h42⟩ := hasL_cons h36; obtain ⟨a43, rfl, w44⟩ := (fun h => has_int h) g41; obtain rfl := hasL_nil h42; exact ⟨(a31, a37, a43), rfl, w32, w38, w44⟩)) g25
  obtain rfl := hasL_nil k26
  obtain ⟨fl, rfl, wfl⟩ := (fun h => has_slA (f := (fun t : (ByteArray × Int × Int × Int × Int) => V.agg [V.str t.1, (V.int .i64) t.2.1, (V.int .i64) t.2.2.1, (V.int .i64) t.2.2.2.1, (V.int .i64) t.2.2.2.2])) (Q := (fun t : (ByteArray × Int × Int × Int × Int) => (fun s => s.size ≤ maxLen) t.1 ∧ (fun n => (Lit.int .i64 n).wf = true) t.2.1 ∧ (fun n => (Lit.int .i64 n).wf = true) t.2.2.1 ∧ (fun n => (Lit.int .i64 n).wf = true) t.2.2.2.1 ∧ (fun n => (Lit.int .i64 n).wf = true) t.2.2.2.2)) h (fun h => by obtain ⟨x45, l46, rfl, g47, h48⟩ := hasL_cons h; obtain ⟨a49, rfl, w50⟩ := (fun h => has_str h) g47; obtain ⟨x51, l52, rfl, g53, h54⟩ := hasL_cons h48; obtain ⟨a55, rfl, w56⟩ := (fun h => has_int h) g53; obtain ⟨x57, l58, rfl, g59, h60⟩ := hasL_cons h54; obtain ⟨a61, rfl, w62⟩ := (fun h => has_int h) g59; obtain ⟨x63, l64, rfl, g65, h66⟩ := hasL_cons h60; obtain ⟨a67, rfl, w68⟩ := (fun h => has_int h) g65; obtain ⟨x69, l70, rfl, g71, h72⟩ := hasL_cons h66; obtain ⟨a73, rfl, w74⟩ := (fun h => has_int h) g71; obtain rfl := hasL_nil h72; exact ⟨(a49, a55, a61, a67, a73), rfl, w50, w56, w62, w68, w74⟩)) (arg_one ha7)
  obtain ⟨node, rfl, wnode⟩ := (fun h => has_int h) (arg_one ha11)
  obtain ⟨names, rfl, wnames⟩ := (fun h => has_sl (f := V.str) (Q := (fun s => s.size ≤ maxLen)) h (fun h => has_str h)) (arg_one ha15)
  exact lawRankOfChoice_con nss ss fl node names (Nat.le_trans wss.1 maxLen_le) (Nat.le_trans wfl.1 maxLen_le) (fun t h => (Nat.le_trans (wfl.2 t h).1 maxLen_le)) (Nat.le_trans wnames.1 maxLen_le) (fun s h => Nat.le_trans (wnames.2 s h) maxLen_le)

set_option maxRecDepth 100000 in
theorem fnExactRankOfChoice_lifted (os : Os) (started : os.Started) (H : Type) (enc : TypeId × Value → H) :
    ReturnsInHanded {} Try.checked os 7 .any (Rows.fnExactRankOfChoiceSpec.pre6 enc Try.prog Try.f7 Rows.fnExactRankOfChoiceRow.domain false) (Rows.fnExactRankOfChoiceSpec.post enc Try.prog Try.f7 false true false false) := by
  refine returnsInHanded_of_change (C := Try.checked) Try.own started (by kernel_rfl) Try.func7
    (ChangeSpec.witness6 (enc := enc) (C := Try.checked) false ⟨#[], #[.agg #[Value.int .i64 0, Value.slice none 0 0], .slice none 0 0, .int .i64 0, .slice none 0 0], []⟩ 8 (by kernel_rfl) (by kernel_rfl) (by kernel_rfl) (by kernel_rfl)) ?_
  intro W base args ds gs before hval hW _ _
  refine law_contract (P := Try.prog) (fn := Try.f7) (s := Rows.fnExactRankOfChoiceSpec) 8 [(true, [.int .i64, .sl true [.int .i64, .int .i64, .int .i64]]), (false, [.sl true [.str, .int .i64, .int .i64, .int .i64, .int .i64]]), (false, [.int .i64]), (false, [.sl false [.str]])] Try.laidOut ?_ (by rfl) rfl Try.underlying4 rfl ?_ law7_all hval hW
  · intro t ht
    have key : (Try.f7.params.toList.all fun t => Try.prog.readableRec t && decide (t < Try.prog.types.size)) = true := by kernel_rfl
    simpa using List.all_eq_true.1 key t ht
  · intro ds h
    match ds, h with
    | [d0, d1, d2, d3], _ => rfl

theorem fnExactRankOfChoice_holds : Rows.FnExactRankOfChoiceSaid :=
  OpenClaim.holds_of_wide 7 Try.f7 rfl rfl rfl rfl rfl rfl rfl ⟨rfl, rfl, rfl, rfl, rfl⟩ rfl rfl rfl rfl rfl (by kernel_rfl) Try.func7 (by kernel_rfl)
    (of_decide_eq_true (by kernel_rfl)) (by unfold Func.isWrapper; first | (rw [if_pos (by decide +kernel)]; kernel_rfl) | (rw [if_neg (by decide +kernel)]; exact ⟨rfl, rfl⟩))
    (fun os started H enc _ => fnExactRankOfChoice_lifted os started H enc)

end Go.Proofs.Ytdgenniiidgimaa
