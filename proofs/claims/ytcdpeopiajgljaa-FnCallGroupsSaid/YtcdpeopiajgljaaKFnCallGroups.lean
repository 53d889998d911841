/- The program's FnCallGroups and the reference's return the same, for all arguments: the law FnCallGroups holds. No condition. -/
import Derived.Test.YtcdpeopiajgljaaRows
import Derived.Test.YtcdpeopiajgljaaUmH
import Derived.Test.YtcdpeopiajgljaaX8
set_option linter.unusedSimpArgs false
set_option linter.unusedVariables false
set_option linter.defProp false
namespace Go.Proofs.Ytcdpeopiajgljaa
open Go Go.Vm
open Go.ChangeShapes Go.WideShapes Go.ChangeAt Go.RowKit
theorem Try.own:ownKnob Try.prog.godebug=none:=by kernel_rfl
theorem Try.laidOut:laidOutB Try.prog=true:=by kernel_rfl
theorem maxLen_le:maxLen≤9223372036854775807:=by unfold maxLen;decide
theorem law4_all:∀vs,argsHave [(false,[.sl false [.int .u8]]),(false,[.sl false [.int .u8]])] vs→Con Try.prog 4 vs [] (.bool true) []:=by
  intro vs h
  obtain ⟨v1,vs2,rfl,ha3,h4⟩:=args_cons h
  obtain ⟨v5,vs6,rfl,ha7,h8⟩:=args_cons h4
  obtain rfl:=args_nil h8
  obtain ⟨c1,rfl,wc1⟩:=(fun h=>has_sl (f:=(V.int .u8)) (Q:=(fun n=>(Lit.int .u8 n).wf=true)) h (fun h=>has_int h)) (arg_one ha3)
  obtain ⟨c2,rfl,wc2⟩:=(fun h=>has_sl (f:=(V.int .u8)) (Q:=(fun n=>(Lit.int .u8 n).wf=true)) h (fun h=>has_int h)) (arg_one ha7)
  exact lawFnCallGroups_con c1 c2 (u8_all wc1.2) (u8_all wc2.2) (Nat.le_trans wc1.1 maxLen_le) (Nat.le_trans wc2.1 maxLen_le)
set_option maxRecDepth 100000 in
theorem fnCallGroups_lifted (os:Os) (started:os.Started) (H:Type) (enc:TypeId×Value→H) :
    ReturnsInHanded {} Try.checked os 4 .any (Rows.fnCallGroupsSpec.pre6 enc Try.prog Try.f4 Rows.fnCallGroupsRow.domain false) (Rows.fnCallGroupsSpec.post enc Try.prog Try.f4 false true false false):=by
  refine returnsInHanded_of_change (C:=Try.checked) Try.own started (by kernel_rfl) Try.func4
    (ChangeSpec.witness6 (enc:=enc) (C:=Try.checked) false ⟨#[],#[.slice none 0 0,.slice none 0 0],[]⟩ 8 (by kernel_rfl) (by kernel_rfl) (by kernel_rfl) (by kernel_rfl)) ?_
  intro W base args ds gs before hval hW _ _
  refine law_contract (P:=Try.prog) (fn:=Try.f4) (s:=Rows.fnCallGroupsSpec) 8 [(false,[.sl false [.int .u8]]),(false,[.sl false [.int .u8]])] Try.laidOut ?_ (by rfl) rfl Try.underlying4 rfl ?_ law4_all (pre:=fun _=>True) (fun _ _=>tabs_none (by kernel_rfl) (by kernel_rfl) (by kernel_rfl)) trivial hval hW
  · intro t ht
    have key:(Try.f4.params.toList.all fun t=>Try.prog.readableRec t && decide (t < Try.prog.types.size))=true:=by kernel_rfl
    simpa using List.all_eq_true.1 key t ht
  · intro ds h
    match ds,h with
    | [d0,d1],_=>rfl
theorem fnCallGroups_holds:Rows.FnCallGroupsSaid:=
  OpenClaim.holds_of_wide 4 Try.f4 rfl rfl rfl rfl rfl rfl rfl ⟨rfl,rfl,rfl,rfl,rfl⟩ rfl rfl rfl rfl rfl (by kernel_rfl) Try.func4 (by kernel_rfl)
    (of_decide_eq_true (by kernel_rfl)) (by unfold Func.isWrapper;first | (rw [if_pos (by decide +kernel)];kernel_rfl) | (rw [if_neg (by decide +kernel)];exact ⟨rfl,rfl⟩))
    (fun os started H enc _=>fnCallGroups_lifted os started H enc)
end Go.Proofs.Ytcdpeopiajgljaa
