/- The program's ReportState and the reference's return the same, for all arguments: the law FnExactReportState holds. No condition. -/
import Derived.Test.YtaefoaghpehbpaaGreatRows
import Derived.Test.YtaefoaghpehbpaaGreatUmH
import Derived.Test.YtaefoaghpehbpaaGreatX17
set_option linter.unusedSimpArgs false
set_option linter.unusedVariables false
set_option linter.defProp false
namespace Go.Proofs.YtaefoaghpehbpaaGreat
open Go Go.Vm
open Go.ChangeShapes Go.WideShapes Go.ChangeAt Go.RowKit
theorem Tryz.own:ownKnob Tryz.prog.godebug=none:=by kernel_rfl
theorem Tryz.laidOut:laidOutB Tryz.prog=true:=by kernel_rfl
theorem maxLen_le:maxLen≤9223372036854775807:=by unfold maxLen;decide
theorem law4_all:∀vs,argsHave [(true,[.int .i64,.sl true [.int .i64,.int .i64,.int .i64]]),(true,[.sl true [.str,.int .i64,.int .i64,.int .i64,.int .i64],.sl true [.int .i64,.int .i64,.bool,.sl false [.str]],.sl true [.int .i64,.sl false [.int .i64]]]),(false,[.str]),(false,[.int .i64])] vs→Con Tryz.prog 4 vs [] (.bool true) []:=by
  intro vs h
  obtain ⟨v1,vs2,rfl,ha3,h4⟩:=args_cons h
  obtain ⟨v5,vs6,rfl,ha7,h8⟩:=args_cons h4
  obtain ⟨v9,vs10,rfl,ha11,h12⟩:=args_cons h8
  obtain ⟨v13,vs14,rfl,ha15,h16⟩:=args_cons h12
  obtain rfl:=args_nil h16
  obtain ⟨l17,rfl,k18⟩:=arg_agg ha3
  obtain ⟨x19,l20,rfl,g21,k22⟩:=hasL_cons k18
  obtain ⟨nss,rfl,wnss⟩:=(fun h=>has_int h) g21
  obtain ⟨x23,l24,rfl,g25,k26⟩:=hasL_cons k22
  obtain ⟨ss,rfl,wss⟩:=(fun h=>has_slA (f:=(fun t:(Int×Int×Int)=>V.agg [(V.int .i64) t.1,(V.int .i64) t.2.1,(V.int .i64) t.2.2])) (Q:=(fun t:(Int×Int×Int)=>(fun n=>(Lit.int .i64 n).wf=true) t.1∧(fun n=>(Lit.int .i64 n).wf=true) t.2.1∧(fun n=>(Lit.int .i64 n).wf=true) t.2.2)) h (fun h=>by obtain ⟨x27,l28,rfl,g29,h30⟩:=hasL_cons h;obtain ⟨a31,rfl,w32⟩:=(fun h=>has_int h) g29;obtain ⟨x33,l34,rfl,g35,h36⟩:=hasL_cons h30;obtain ⟨a37,rfl,w38⟩:=(fun h=>has_int h) g35;obtain ⟨x39,l40,rfl,g41,h42⟩:=hasL_cons h36;obtain ⟨a43,rfl,w44⟩:=(fun h=>has_int h) g41;obtain rfl:=hasL_nil h42;exact ⟨(a31,a37,a43),rfl,w32,w38,w44⟩)) g25
  obtain rfl:=hasL_nil k26
  obtain ⟨l45,rfl,k46⟩:=arg_agg ha7
  obtain ⟨x47,l48,rfl,g49,k50⟩:=hasL_cons k46
  obtain ⟨flc,rfl,wflc⟩:=(fun h=>has_slA (f:=(fun t:(ByteArray×Int×Int×Int×Int)=>V.agg [V.str t.1,(V.int .i64) t.2.1,(V.int .i64) t.2.2.1,(V.int .i64) t.2.2.2.1,(V.int .i64) t.2.2.2.2])) (Q:=(fun t:(ByteArray×Int×Int×Int×Int)=>(fun s=>s.size≤maxLen) t.1∧(fun n=>(Lit.int .i64 n).wf=true) t.2.1∧(fun n=>(Lit.int .i64 n).wf=true) t.2.2.1∧(fun n=>(Lit.int .i64 n).wf=true) t.2.2.2.1∧(fun n=>(Lit.int .i64 n).wf=true) t.2.2.2.2)) h (fun h=>by obtain ⟨x51,l52,rfl,g53,h54⟩:=hasL_cons h;obtain ⟨a55,rfl,w56⟩:=(fun h=>has_str h) g53;obtain ⟨x57,l58,rfl,g59,h60⟩:=hasL_cons h54;obtain ⟨a61,rfl,w62⟩:=(fun h=>has_int h) g59;obtain ⟨x63,l64,rfl,g65,h66⟩:=hasL_cons h60;obtain ⟨a67,rfl,w68⟩:=(fun h=>has_int h) g65;obtain ⟨x69,l70,rfl,g71,h72⟩:=hasL_cons h66;obtain ⟨a73,rfl,w74⟩:=(fun h=>has_int h) g71;obtain ⟨x75,l76,rfl,g77,h78⟩:=hasL_cons h72;obtain ⟨a79,rfl,w80⟩:=(fun h=>has_int h) g77;obtain rfl:=hasL_nil h78;exact ⟨(a55,a61,a67,a73,a79),rfl,w56,w62,w68,w74,w80⟩)) g49
  obtain ⟨x81,l82,rfl,g83,k84⟩:=hasL_cons k50
  obtain ⟨inc,rfl,winc⟩:=(fun h=>has_slA (f:=(fun t:(Int×Int×Bool×(List ByteArray))=>V.agg [(V.int .i64) t.1,(V.int .i64) t.2.1,V.bool t.2.2.1,(fun l:List ByteArray=>V.sl (l.map V.str)) t.2.2.2])) (Q:=(fun t:(Int×Int×Bool×(List ByteArray))=>(fun n=>(Lit.int .i64 n).wf=true) t.1∧(fun n=>(Lit.int .i64 n).wf=true) t.2.1∧(fun _=>True) t.2.2.1∧(fun l:List ByteArray=>l.length≤maxLen∧∀a∈l,(fun s=>s.size≤maxLen) a) t.2.2.2)) h (fun h=>by obtain ⟨x85,l86,rfl,g87,h88⟩:=hasL_cons h;obtain ⟨a89,rfl,w90⟩:=(fun h=>has_int h) g87;obtain ⟨x91,l92,rfl,g93,h94⟩:=hasL_cons h88;obtain ⟨a95,rfl,w96⟩:=(fun h=>has_int h) g93;obtain ⟨x97,l98,rfl,g99,h100⟩:=hasL_cons h94;obtain ⟨a101,rfl,w102⟩:=(fun h=>has_boolT h) g99;obtain ⟨x103,l104,rfl,g105,h106⟩:=hasL_cons h100;obtain ⟨a107,rfl,w108⟩:=(fun h=>has_sl (f:=V.str) (Q:=(fun s=>s.size≤maxLen)) h (fun h=>has_str h)) g105;obtain rfl:=hasL_nil h106;exact ⟨(a89,a95,a101,a107),rfl,w90,w96,w102,w108⟩)) g83
  obtain ⟨x109,l110,rfl,g111,k112⟩:=hasL_cons k84
  obtain ⟨wsc,rfl,wwsc⟩:=(fun h=>has_slA (f:=(fun t:(Int×(List Int))=>V.agg [(V.int .i64) t.1,(fun l:List Int=>V.sl (l.map (V.int .i64))) t.2])) (Q:=(fun t:(Int×(List Int))=>(fun n=>(Lit.int .i64 n).wf=true) t.1∧(fun l:List Int=>l.length≤maxLen∧∀a∈l,(fun n=>(Lit.int .i64 n).wf=true) a) t.2)) h (fun h=>by obtain ⟨x113,l114,rfl,g115,h116⟩:=hasL_cons h;obtain ⟨a117,rfl,w118⟩:=(fun h=>has_int h) g115;obtain ⟨x119,l120,rfl,g121,h122⟩:=hasL_cons h116;obtain ⟨a123,rfl,w124⟩:=(fun h=>has_sl (f:=(V.int .i64)) (Q:=(fun n=>(Lit.int .i64 n).wf=true)) h (fun h=>has_int h)) g121;obtain rfl:=hasL_nil h122;exact ⟨(a117,a123),rfl,w118,w124⟩)) g111
  obtain rfl:=hasL_nil k112
  obtain ⟨s,rfl,ws⟩:=(fun h=>has_str h) (arg_one ha11)
  obtain ⟨t,rfl,wt⟩:=(fun h=>has_int h) (arg_one ha15)
  exact lawReportState_con nss ss flc inc wsc s t (Nat.le_trans wss.1 maxLen_le) (Nat.le_trans wflc.1 maxLen_le) (fun t h=>Nat.le_trans (wflc.2 t h).1 maxLen_le) (Nat.le_trans winc.1 maxLen_le) (fun t h=>⟨Nat.le_trans (winc.2 t h).2.2.2.1 maxLen_le,fun s hs=>Nat.le_trans ((winc.2 t h).2.2.2.2 s hs) maxLen_le⟩) (Nat.le_trans wwsc.1 maxLen_le) (fun t h=>Nat.le_trans (wwsc.2 t h).2.1 maxLen_le) (Nat.le_trans ws maxLen_le)
set_option maxRecDepth 100000 in
theorem fnExactReportState_lifted (os:Os) (started:os.Started) (H:Type) (enc:TypeId×Value→H) :
    ReturnsInHanded {} Tryz.checked os 4 .any (Rows.fnExactReportStateSpec.pre6 enc Tryz.prog Tryz.f4 Rows.fnExactReportStateRow.domain false) (Rows.fnExactReportStateSpec.post enc Tryz.prog Tryz.f4 false true false false):=by
  refine returnsInHanded_of_change (C:=Tryz.checked) Tryz.own started (by kernel_rfl) Tryz.func4
    (ChangeSpec.witness6 (enc:=enc) (C:=Tryz.checked) false ⟨#[],#[.agg #[Value.int .i64 0,Value.slice none 0 0],.agg #[Value.slice none 0 0,Value.slice none 0 0,Value.slice none 0 0],.string .empty,.int .i64 0],[]⟩ 8 (by kernel_rfl) (by kernel_rfl) (by kernel_rfl) (by kernel_rfl)) ?_
  intro W base args ds gs before hval hW _ _
  refine law_contract (P:=Tryz.prog) (fn:=Tryz.f4) (s:=Rows.fnExactReportStateSpec) 8 [(true,[.int .i64,.sl true [.int .i64,.int .i64,.int .i64]]),(true,[.sl true [.str,.int .i64,.int .i64,.int .i64,.int .i64],.sl true [.int .i64,.int .i64,.bool,.sl false [.str]],.sl true [.int .i64,.sl false [.int .i64]]]),(false,[.str]),(false,[.int .i64])] Tryz.laidOut ?_ (by rfl) rfl Tryz.underlying4 rfl ?_ law4_all (pre:=fun _=>True) (fun _ _=>tabs_none (by kernel_rfl)) trivial hval hW
  · intro t ht
    have key:(Tryz.f4.params.toList.all fun t=>Tryz.prog.readableRec t && decide (t < Tryz.prog.types.size))=true:=by kernel_rfl
    simpa using List.all_eq_true.1 key t ht
  · intro ds h
    match ds,h with
    | [d0,d1,d2,d3],_=>rfl
theorem fnExactReportState_holds:Rows.FnExactReportStateSaid:=
  OpenClaim.holds_of_wide 4 Tryz.f4 rfl rfl rfl rfl rfl rfl rfl ⟨rfl,rfl,rfl,rfl,rfl⟩ rfl rfl rfl rfl rfl (by kernel_rfl) Tryz.func4 (by kernel_rfl)
    (of_decide_eq_true (by kernel_rfl)) (by unfold Func.isWrapper;first | (rw [if_pos (by decide +kernel)];kernel_rfl) | (rw [if_neg (by decide +kernel)];exact ⟨rfl,rfl⟩))
    (fun os started H enc _=>fnExactReportState_lifted os started H enc)
end Go.Proofs.YtaefoaghpehbpaaGreat
