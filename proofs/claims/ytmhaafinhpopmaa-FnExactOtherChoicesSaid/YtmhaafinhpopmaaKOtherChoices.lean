/- The program's OtherChoices and the reference's return the same, for all arguments: the law FnExactOtherChoices holds. No condition. -/
import Derived.Test.YtmhaafinhpopmaaRows
import Derived.Test.YtmhaafinhpopmaaUmH
import Derived.Test.YtmhaafinhpopmaaX18
set_option linter.unusedSimpArgs false
set_option linter.unusedVariables false
set_option linter.defProp false
namespace Go.Proofs.Ytmhaafinhpopmaa
open Go Go.Vm
open Go.ChangeShapes Go.WideShapes Go.ChangeAt Go.RowKit
theorem Try.own:ownKnob Try.prog.godebug=none:=by kernel_rfl
theorem Try.laidOut:laidOutB Try.prog=true:=by kernel_rfl
theorem maxLen_le:maxLen≤9223372036854775807:=by unfold maxLen;decide
theorem law3_all:∀vs,argsHave [(true,[.int .i64,.sl true [.int .i64,.int .i64,.int .i64]]),(false,[.sl true [.str,.int .i64,.int .i64,.int .i64,.int .i64]]),(false,[.int .i64]),(false,[.sl false [.int .i64]]),(false,[.int .i64])] vs→Con Try.prog 3 vs [] (.bool true) []:=by
  intro vs h;obtain ⟨v1,vs2,rfl,ha3,h4⟩:=args_cons h;obtain ⟨v5,vs6,rfl,ha7,h8⟩:=args_cons h4;obtain ⟨v9,vs10,rfl,ha11,h12⟩:=args_cons h8;obtain ⟨v13,vs14,rfl,ha15,h16⟩:=args_cons h12;obtain ⟨v17,vs18,rfl,ha19,h20⟩:=args_cons h16;obtain rfl:=args_nil h20;obtain ⟨l21,rfl,k22⟩:=arg_agg ha3;obtain ⟨x23,l24,rfl,g25,k26⟩:=hasL_cons k22;obtain ⟨nss,rfl,wnss⟩:=(fun h=>has_int h) g25;obtain ⟨x27,l28,rfl,g29,k30⟩:=hasL_cons k26;obtain ⟨ss,rfl,wss⟩:=(fun h=>has_slA (f:=(fun t:(Int×Int×Int)=>V.agg [(V.int .i64) t.1,(V.int .i64) t.2.1,(V.int .i64) t.2.2])) (Q:=(fun t:(Int×Int×Int)=>(fun n=>(Lit.int .i64 n).wf=true) t.1∧(fun n=>(Lit.int .i64 n).wf=true) t.2.1∧(fun n=>(Lit.int .i64 n).wf=true) t.2.2)) h (fun h=>by obtain ⟨x31,l32,rfl,g33,h34⟩:=hasL_cons h;obtain ⟨a35,rfl,w36⟩:=(fun h=>has_int h) g33;obtain ⟨x37,l38,rfl,g39,h40⟩:=hasL_cons h34;obtain ⟨a41,rfl,w42⟩:=(fun h=>has_int h) g39;obtain ⟨x43,l44,rfl,g45,h46⟩:=hasL_cons h40;obtain ⟨a47,rfl,w48⟩:=(fun h=>has_int h) g45;obtain rfl:=hasL_nil h46;exact ⟨(a35,a41,a47),rfl,w36,w42,w48⟩)) g29;obtain rfl:=hasL_nil k30;obtain ⟨fl,rfl,wfl⟩:=(fun h=>has_slA (f:=(fun t:(ByteArray×Int×Int×Int×Int)=>V.agg [V.str t.1,(V.int .i64) t.2.1,(V.int .i64) t.2.2.1,(V.int .i64) t.2.2.2.1,(V.int .i64) t.2.2.2.2])) (Q:=(fun t:(ByteArray×Int×Int×Int×Int)=>(fun s=>s.size≤maxLen) t.1∧(fun n=>(Lit.int .i64 n).wf=true) t.2.1∧(fun n=>(Lit.int .i64 n).wf=true) t.2.2.1∧(fun n=>(Lit.int .i64 n).wf=true) t.2.2.2.1∧(fun n=>(Lit.int .i64 n).wf=true) t.2.2.2.2)) h (fun h=>by obtain ⟨x49,l50,rfl,g51,h52⟩:=hasL_cons h;obtain ⟨a53,rfl,w54⟩:=(fun h=>has_str h) g51;obtain ⟨x55,l56,rfl,g57,h58⟩:=hasL_cons h52;obtain ⟨a59,rfl,w60⟩:=(fun h=>has_int h) g57;obtain ⟨x61,l62,rfl,g63,h64⟩:=hasL_cons h58;obtain ⟨a65,rfl,w66⟩:=(fun h=>has_int h) g63;obtain ⟨x67,l68,rfl,g69,h70⟩:=hasL_cons h64;obtain ⟨a71,rfl,w72⟩:=(fun h=>has_int h) g69;obtain ⟨x73,l74,rfl,g75,h76⟩:=hasL_cons h70;obtain ⟨a77,rfl,w78⟩:=(fun h=>has_int h) g75;obtain rfl:=hasL_nil h76;exact ⟨(a53,a59,a65,a71,a77),rfl,w54,w60,w66,w72,w78⟩)) (arg_one ha7);obtain ⟨node,rfl,wnode⟩:=(fun h=>has_int h) (arg_one ha11);obtain ⟨need,rfl,wneed⟩:=(fun h=>has_sl (f:=(V.int .i64)) (Q:=(fun n=>(Lit.int .i64 n).wf=true)) h (fun h=>has_int h)) (arg_one ha15);obtain ⟨limit,rfl,wlimit⟩:=(fun h=>has_int h) (arg_one ha19);exact lawOtherChoices_con nss ss fl node need limit (ql9 wss.1 maxLen_le) (ql9 wfl.1 maxLen_le) (fun t h=>(ql9 (wfl.2 t h).1 maxLen_le)) (ql9 wneed.1 maxLen_le)
set_option maxRecDepth 100000 in
theorem fnExactOtherChoices_lifted (os:Os) (started:os.Started) (H:Type) (enc:TypeId×Value→H) :
    ReturnsInHanded {} Try.checked os 3 .any (Rows.fnExactOtherChoicesSpec.pre6 enc Try.prog Try.f3 Rows.fnExactOtherChoicesRow.domain false) (Rows.fnExactOtherChoicesSpec.post enc Try.prog Try.f3 false true false false):=by
  refine returnsInHanded_of_change (C:=Try.checked) Try.own started (by kernel_rfl) Try.func3
    (ChangeSpec.witness6 (enc:=enc) (C:=Try.checked) false ⟨#[],#[.agg #[Value.int .i64 0,Value.slice none 0 0],.slice none 0 0,.int .i64 0,.slice none 0 0,.int .i64 0],[]⟩ 8 (by kernel_rfl) (by kernel_rfl) (by kernel_rfl) (by kernel_rfl)) ?_
  intro W base args ds gs before hval hW _ _;refine law_contract (P:=Try.prog) (fn:=Try.f3) (s:=Rows.fnExactOtherChoicesSpec) 8 [(true,[.int .i64,.sl true [.int .i64,.int .i64,.int .i64]]),(false,[.sl true [.str,.int .i64,.int .i64,.int .i64,.int .i64]]),(false,[.int .i64]),(false,[.sl false [.int .i64]]),(false,[.int .i64])] Try.laidOut ?_ (by rfl) rfl Try.underlying4 rfl ?_ law3_all (pre:=fun _=>True) (fun _ _=>tabs_none (by kernel_rfl) (by kernel_rfl) (by kernel_rfl)) trivial hval hW
  · intro t ht
    have key:(Try.f3.params.toList.all fun t=>Try.prog.readableRec t && decide (t < Try.prog.types.size))=true:=by kernel_rfl
    simpa using qlt.1 key t ht
  · intro ds h
    match ds,h with
    | [d0,d1,d2,d3,d4],_=>rfl
theorem fnExactOtherChoices_holds:Rows.FnExactOtherChoicesSaid:=
  OpenClaim.holds_of_wide 3 Try.f3 rfl rfl rfl rfl rfl rfl rfl ⟨rfl,rfl,rfl,rfl,rfl⟩ rfl rfl rfl rfl rfl (by kernel_rfl) Try.func3 (by kernel_rfl)
    (of_decide_eq_true (by kernel_rfl)) (by unfold Func.isWrapper;first | (rw [if_pos (by decide +kernel)];kernel_rfl) | (rw [if_neg (by decide +kernel)];exact ⟨rfl,rfl⟩))
    (fun os started H enc _=>fnExactOtherChoices_lifted os started H enc)
end Go.Proofs.Ytmhaafinhpopmaa
