/- The program's DetectorsText and the reference's return the same, for all arguments: the law FnExactDetectorsText holds. No condition. -/
import Derived.SevenTiedAt
import Derived.LaidHandle
import Derived.LaidSub
import Derived.Lib.LaidTab
import Derived.MakeChecks
import Derived.Test.YtmlicajgbgjphaaDoorRows
import Derived.Test.YtmlicajgbgjphaaDoorUmH
import Derived.Test.YtmlicajgbgjphaaDoorTie
import Derived.Test.YtmlicajgbgjphaaDoorCards
import Derived.Test.YtmlicajgbgjphaaDoorX18
set_option linter.unusedSimpArgs false
set_option linter.unusedVariables false
set_option linter.defProp false
namespace Go.Proofs.YtmlicajgbgjphaaDoor
open Go Go.Vm

open Go.ChangeShapes Go.WideShapes Go.ChangeAt Go.RowKit
theorem Tryd.own : ownKnob Tryd.prog.godebug = none := by kernel_rfl
theorem Tryd.laidOut : laidOutB Tryd.prog = true := by kernel_rfl
theorem maxLen_le : maxLen ≤ 9223372036854775807 := by unfold maxLen; decide
theorem law4_all : ∀ vs, argsHave [(false, [.sl true [.int .i64, .int .i64, .int .i64, .bool]])] vs → Con Tryd.prog 4 vs [] (.bool true) [] := by
  intro vs h
  obtain ⟨v1, vs2, rfl, ha3, h4⟩ := args_cons h
  obtain rfl := args_nil h4
  obtain ⟨l, rfl, wl⟩ := (fun h => has_slA (f := (fun t : (Int × Int × Int × Bool) => V.agg [(V.int .i64) t.1, (V.int .i64) t.2.1, (V.int .i64) t.2.2.1, V.bool t.2.2.2])) (Q := (fun t : (Int × Int × Int × Bool) => (fun n => (Lit.int .i64 n).wf = true) t.1 ∧ (fun n => (Lit.int .i64 n).wf = true) t.2.1 ∧ (fun n => (Lit.int .i64 n).wf = true) t.2.2.1 ∧ (fun _ => True) t.2.2.2)) h (fun h => by obtain ⟨x5, l6, rfl, g7, h8⟩ := hasL_cons h; obtain ⟨a9, rfl, w10⟩ := (fun h => has_int h) g7; obtain ⟨x11, l12, rfl, g13, h14⟩ := hasL_cons h8; obtain ⟨a15, rfl, w16⟩ := (fun h => has_int h) g13; obtain ⟨x17, l18, rfl, g19, h20⟩ := hasL_cons h14; obtain ⟨a21, rfl, w22⟩ := (fun h => has_int h) g19; obtain ⟨x23, l24, rfl, g25, h26⟩ := hasL_cons h20; obtain ⟨a27, rfl, w28⟩ := (fun h => has_boolT h) g25; obtain rfl := hasL_nil h26; exact ⟨(a9, a15, a21, a27), rfl, w10, w16, w22, w28⟩)) (arg_one ha3)
  exact lawDetectorsText_con l (Nat.le_trans wl.1 maxLen_le)

def litCells : DataW Unit → Array Value
  | .agg l => (l.map fun d => match d with
    | .lit (.int k n) => Value.int k n
    | _ => undef).toArray
  | _ => #[]
noncomputable def laidWorld (os : Os) : World :=
  let w0 := World.holding Tryd.prog os ⟨#[], #[], []⟩
  { w0 with heap := (((w0.heap.modify 2 fun
      | .cells _ t fr => .cells (litCells Rows.laid_math_bits_deBruijn32tab) t fr
      | o => o).modify 3 fun
      | .cells _ t fr => .cells (litCells Rows.laid_math_bits_deBruijn64tab) t fr
      | o => o).modify 0 fun
      | .cells _ t fr => .cells (litCells Rows.laid_internal_strconv_uint64pow10) t fr
      | o => o) }
set_option maxRecDepth 100000 in
theorem laidWorld_met (os : Os) (args : Array Value) : laidMetH Tryd.prog Rows.fnExactDetectorsTextRow.laid ((laidWorld os).forCall (fun _ _ => 0) ⟨#[], args, []⟩).memory :=
  laidMetH_of_parts (laidMet_of_run' 8 (by kernel_rfl) (by kernel_rfl)) (by kernel_rfl)
set_option maxRecDepth 100000 in
theorem tab_of {W : World} (h : laidMetH Tryd.prog Rows.fnExactDetectorsTextRow.laid W) : ∀ p ∈ tabsOf Tryd.prog, ∃ t fr, W.heap[p.1]? = some (.cells p.2 t fr) := by
  have h1 := laidMetH.filter (fun x => x.1 == "internal/strconv.uint64pow10") h
  have e1 : (Rows.fnExactDetectorsTextRow.laid.filter fun x => x.1 == "internal/strconv.uint64pow10") = [("internal/strconv.uint64pow10", Lib.tabData .u64 Lib.pow10Tab)] := by kernel_rfl
  rw [e1, MakeChecks.laidMetH_plain _ _ _ (by kernel_rfl)] at h1
  exact tabs_of_tabIs (Lib.tabIs_of_head (g := 0) (t := 249) (e := 142) (n := 20) (by kernel_rfl) (by kernel_rfl) (by kernel_rfl) (by kernel_rfl) (by kernel_rfl) (by kernel_rfl) h1)

set_option maxRecDepth 100000 in
theorem fnExactDetectorsText_lifted (os : Os) (started : os.Started) (H : Type) (enc : TypeId × Value → H) :
    ReturnsInHanded {} Tryd.checked os 4 .any (fun w args => (Rows.fnExactDetectorsTextSpec.pre enc Tryd.prog Tryd.f4 Rows.fnExactDetectorsTextRow.domain false w args ∧ laidMetH Tryd.prog Rows.fnExactDetectorsTextRow.laid w) ∧ sizedMet enc Tryd.prog Tryd.f4 (OpenSpec.ofChange Rows.fnExactDetectorsTextSpec) false w args)
      (Rows.fnExactDetectorsTextSpec.post enc Tryd.prog Tryd.f4 false true false false) := by
  refine returnsInHanded_of_change_and (C := Tryd.checked) (X := fun w _ => laidMetH Tryd.prog Rows.fnExactDetectorsTextRow.laid w) (fun _ _ _ hh h => h.of_heap hh) Tryd.own started (by kernel_rfl) Tryd.func4
    (ChangeSpec.witness_at (enc := enc) (C := Tryd.checked) (os := os) (X := fun w _ => laidMetH Tryd.prog Rows.fnExactDetectorsTextRow.laid w) false (laidWorld os) #[.slice none 0 0] 8 rfl (by kernel_rfl) (by kernel_rfl) (by kernel_rfl) (by kernel_rfl) (by kernel_rfl) (laidWorld_met os _)) ?_
  intro W base args ds gs before hval hW _ _ hL _
  refine law_contract (P := Tryd.prog) (fn := Tryd.f4) (s := Rows.fnExactDetectorsTextSpec) 8 [(false, [.sl true [.int .i64, .int .i64, .int .i64, .bool]])] Tryd.laidOut ?_ (by rfl) rfl Tryd.underlying4 rfl ?_ law4_all (pre := fun W => laidMetH Tryd.prog Rows.fnExactDetectorsTextRow.laid W) (fun _ h => tab_of h) hL hval hW
  · intro t ht
    have key : (Tryd.f4.params.toList.all fun t => Tryd.prog.readableRec t && decide (t < Tryd.prog.types.size)) = true := by kernel_rfl
    simpa using List.all_eq_true.1 key t ht
  · intro ds h
    match ds, h with
    | [d0], _ => rfl

theorem fnExactDetectorsText_row_holds : Rows.FnExactDetectorsTextSaid :=
  OpenClaim.holds_of_wide 4 Tryd.f4 rfl rfl rfl rfl rfl rfl rfl ⟨rfl, rfl, rfl, rfl, rfl⟩ rfl rfl rfl rfl rfl (by kernel_rfl) Tryd.func4 (by kernel_rfl)
    (of_decide_eq_true (by kernel_rfl)) (by unfold Func.isWrapper; first | (rw [if_pos (by decide +kernel)]; kernel_rfl) | (rw [if_neg (by decide +kernel)]; exact ⟨rfl, rfl⟩))
    (fun os started H enc _ => fnExactDetectorsText_lifted os started H enc)

set_option maxRecDepth 100000 in
theorem fnExactDetectorsText_holds : Rows.FnExactDetectorsTextCardSaid :=
  Claim7.holds_tied_plain_at .later [] [.data, .data, .data] true (true, "3ead0470a8978f28df417df2f21d2f4f9944c2434e1c8a0785672c8e879742a9") false
    fnExactDetectorsText_row_holds (fun _ h => by cases h) (by kernel_rfl) (fun _ h => by cases h) fnExactDetectorsText_row_tie rfl ⟨rfl, rfl⟩ (by kernel_rfl) rfl
    (fun f fn hf hfn => by
      obtain rfl : 4 = f := Option.some.inj ((show Tryd.prog.funcNamed "loop.example/g01020/laws.FnExactDetectorsText" = some 4 by kernel_rfl).symm.trans hf)
      obtain rfl : Tryd.f4 = fn := Option.some.inj (Tryd.func4.symm.trans hfn)
      exact ⟨by kernel_rfl, fun j t ht => by
        have hm : t ∈ Tryd.f4.params.toList := by
          have := Array.mem_of_getElem? ht
          simpa using this
        have key : (Tryd.f4.params.toList.all fun t => !Tryd.prog.wantsStandIn t) = true := by kernel_rfl
        have := List.all_eq_true.1 key t hm
        exact (by simpa using this : Tryd.prog.wantsStandIn t = false)⟩)
    (by kernel_rfl)

end Go.Proofs.YtmlicajgbgjphaaDoor
