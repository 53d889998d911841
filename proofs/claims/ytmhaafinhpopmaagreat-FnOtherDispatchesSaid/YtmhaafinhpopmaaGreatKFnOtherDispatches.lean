/- The program's FnOtherDispatches and the reference's return the same, for all arguments: the law FnOtherDispatches holds. No condition. -/
import Derived.Test.YtmhaafinhpopmaaGreatRows
import Derived.Test.YtmhaafinhpopmaaGreatUmH
import Derived.Test.YtmhaafinhpopmaaGreatX32
set_option linter.unusedSimpArgs false
set_option linter.unusedVariables false
set_option linter.defProp false
namespace Go.Proofs.YtmhaafinhpopmaaGreat
open Go Go.Vm
open Go.ChangeShapes Go.WideShapes Go.ChangeAt Go.RowKit
theorem Tryz.own:ownKnob Tryz.prog.godebug=none:=by kernel_rfl
theorem Tryz.laidOut:laidOutB Tryz.prog=true:=by kernel_rfl
theorem maxLen_le:maxLen≤9223372036854775807:=by unfold maxLen;decide
theorem law3_all:∀vs,argsHave [(false,[.sl false [.int .u8]]),(false,[.sl false [.int .u8]])] vs→Con Tryz.prog 3 vs [] (.bool true) []:=by
  intro vs h;obtain ⟨v1,vs2,rfl,ha3,h4⟩:=args_cons h;obtain ⟨v5,vs6,rfl,ha7,h8⟩:=args_cons h4;obtain rfl:=args_nil h8;obtain ⟨c1,rfl,wc1⟩:=(fun h=>has_sl (f:=(V.int .u8)) (Q:=(fun n=>(Lit.int .u8 n).wf=true)) h (fun h=>has_int h)) (arg_one ha3);obtain ⟨c2,rfl,wc2⟩:=(fun h=>has_sl (f:=(V.int .u8)) (Q:=(fun n=>(Lit.int .u8 n).wf=true)) h (fun h=>has_int h)) (arg_one ha7);exact lawFnOtherDispatches_con c1 c2 (u8_all wc1.2) (u8_all wc2.2) (ql4 wc1.1 maxLen_le) (ql4 wc2.1 maxLen_le)
set_option maxRecDepth 100000 in
theorem fnOtherDispatches_lifted (os:Os) (started:os.Started) (H:Type) (enc:TypeId×Value→H) :
    ReturnsInHanded {} Tryz.checked os 3 .any (Rows.fnOtherDispatchesSpec.pre6 enc Tryz.prog Tryz.f3 Rows.fnOtherDispatchesRow.domain false) (Rows.fnOtherDispatchesSpec.post enc Tryz.prog Tryz.f3 false true false false):=by
  refine returnsInHanded_of_change (C:=Tryz.checked) Tryz.own started (by kernel_rfl) Tryz.func3
    (ChangeSpec.witness6 (enc:=enc) (C:=Tryz.checked) false ⟨#[],#[.slice none 0 0,.slice none 0 0],[]⟩ 8 (by kernel_rfl) (by kernel_rfl) (by kernel_rfl) (by kernel_rfl)) ?_
  intro W base args ds gs before hval hW _ _;refine law_contract (P:=Tryz.prog) (fn:=Tryz.f3) (s:=Rows.fnOtherDispatchesSpec) 8 [(false,[.sl false [.int .u8]]),(false,[.sl false [.int .u8]])] Tryz.laidOut ?_ (by rfl) rfl Tryz.underlying4 rfl ?_ law3_all (pre:=fun _=>True) (fun _ _=>tabs_none (by kernel_rfl) (by kernel_rfl) (by kernel_rfl)) trivial hval hW
  · intro t ht
    have key:(Tryz.f3.params.toList.all fun t=>Tryz.prog.readableRec t && decide (t < Tryz.prog.types.size))=true:=by kernel_rfl
    simpa using qlh.1 key t ht
  · intro ds h
    match ds,h with
    | [d0,d1],_=>rfl
theorem fnOtherDispatches_holds:Rows.FnOtherDispatchesSaid:=
  OpenClaim.holds_of_wide 3 Tryz.f3 rfl rfl rfl rfl rfl rfl rfl ⟨rfl,rfl,rfl,rfl,rfl⟩ rfl rfl rfl rfl rfl (by kernel_rfl) Tryz.func3 (by kernel_rfl)
    (of_decide_eq_true (by kernel_rfl)) (by unfold Func.isWrapper;first | (rw [if_pos (by decide +kernel)];kernel_rfl) | (rw [if_neg (by decide +kernel)];exact ⟨rfl,rfl⟩))
    (fun os started H enc _=>fnOtherDispatches_lifted os started H enc)
end Go.Proofs.YtmhaafinhpopmaaGreat
