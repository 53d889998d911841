/- The program's FinishIncident and the reference's return the same, for all arguments: the law FnExactFinishIncident holds. No condition. -/
import Derived.Test.YtaefoaghpehbpaaGreatRows
import Derived.Test.YtaefoaghpehbpaaGreatUmH
import Derived.Test.YtaefoaghpehbpaaGreatX14
set_option linter.unusedSimpArgs false
set_option linter.unusedVariables false
set_option linter.defProp false
namespace Go.Proofs.YtaefoaghpehbpaaGreat
open Go Go.Vm
open Go.ChangeShapes Go.WideShapes Go.ChangeAt Go.RowKit
theorem Tryz.own:ownKnob Tryz.prog.godebug=none:=by kernel_rfl
theorem Tryz.laidOut:laidOutB Tryz.prog=true:=by kernel_rfl
theorem maxLen_le:maxLen≤9223372036854775807:=by unfold maxLen;decide
theorem law3_all:∀vs,argsHave [(true,[.int .i64,.sl true [.int .i64,.int .i64,.int .i64]]),(true,[.sl true [.str,.int .i64,.int .i64,.int .i64,.int .i64],.sl true [.int .i64,.int .i64,.bool,.sl false [.str]],.sl true [.int .i64,.sl false [.int .i64]]]),(false,[.int .i64])] vs→Con Tryz.prog 3 vs [] (.bool true) []:=by
  intro vs h
  obtain ⟨v1,vs2,rfl,ha3,h4⟩:=args_cons h
  obtain ⟨v5,vs6,rfl,ha7,h8⟩:=args_cons h4
  obtain ⟨v9,vs10,rfl,ha11,h12⟩:=args_cons h8
  obtain rfl:=args_nil h12
  obtain ⟨l13,rfl,k14⟩:=arg_agg ha3
  obtain ⟨x15,l16,rfl,g17,k18⟩:=hasL_cons k14
  obtain ⟨nss,rfl,wnss⟩:=(fun h=>has_int h) g17
  obtain ⟨x19,l20,rfl,g21,k22⟩:=hasL_cons k18
  obtain ⟨ss,rfl,wss⟩:=(fun h=>has_slA (f:=(fun t:(Int×Int×Int)=>V.agg [(V.int .i64) t.1,(V.int .i64) t.2.1,(V.int .i64) t.2.2])) (Q:=(fun t:(Int×Int×Int)=>(fun n=>(Lit.int .i64 n).wf=true) t.1∧(fun n=>(Lit.int .i64 n).wf=true) t.2.1∧(fun n=>(Lit.int .i64 n).wf=true) t.2.2)) h (fun h=>by obtain ⟨x23,l24,rfl,g25,h26⟩:=hasL_cons h;obtain ⟨a27,rfl,w28⟩:=(fun h=>has_int h) g25;obtain ⟨x29,l30,rfl,g31,h32⟩:=hasL_cons h26;obtain ⟨a33,rfl,w34⟩:=(fun h=>has_int h) g31;obtain ⟨x35,l36,rfl,g37,h38⟩:=hasL_cons h32;obtain ⟨a39,rfl,w40⟩:=(fun h=>has_int h) g37;obtain rfl:=hasL_nil h38;exact ⟨(a27,a33,a39),rfl,w28,w34,w40⟩)) g21
  obtain rfl:=hasL_nil k22
  obtain ⟨l41,rfl,k42⟩:=arg_agg ha7
  obtain ⟨x43,l44,rfl,g45,k46⟩:=hasL_cons k42
  obtain ⟨flc,rfl,wflc⟩:=(fun h=>has_slA (f:=(fun t:(ByteArray×Int×Int×Int×Int)=>V.agg [V.str t.1,(V.int .i64) t.2.1,(V.int .i64) t.2.2.1,(V.int .i64) t.2.2.2.1,(V.int .i64) t.2.2.2.2])) (Q:=(fun t:(ByteArray×Int×Int×Int×Int)=>(fun s=>s.size≤maxLen) t.1∧(fun n=>(Lit.int .i64 n).wf=true) t.2.1∧(fun n=>(Lit.int .i64 n).wf=true) t.2.2.1∧(fun n=>(Lit.int .i64 n).wf=true) t.2.2.2.1∧(fun n=>(Lit.int .i64 n).wf=true) t.2.2.2.2)) h (fun h=>by obtain ⟨x47,l48,rfl,g49,h50⟩:=hasL_cons h;obtain ⟨a51,rfl,w52⟩:=(fun h=>has_str h) g49;obtain ⟨x53,l54,rfl,g55,h56⟩:=hasL_cons h50;obtain ⟨a57,rfl,w58⟩:=(fun h=>has_int h) g55;obtain ⟨x59,l60,rfl,g61,h62⟩:=hasL_cons h56;obtain ⟨a63,rfl,w64⟩:=(fun h=>has_int h) g61;obtain ⟨x65,l66,rfl,g67,h68⟩:=hasL_cons h62;obtain ⟨a69,rfl,w70⟩:=(fun h=>has_int h) g67;obtain ⟨x71,l72,rfl,g73,h74⟩:=hasL_cons h68;obtain ⟨a75,rfl,w76⟩:=(fun h=>has_int h) g73;obtain rfl:=hasL_nil h74;exact ⟨(a51,a57,a63,a69,a75),rfl,w52,w58,w64,w70,w76⟩)) g45
  obtain ⟨x77,l78,rfl,g79,k80⟩:=hasL_cons k46
  obtain ⟨inc,rfl,winc⟩:=(fun h=>has_slA (f:=(fun t:(Int×Int×Bool×(List ByteArray))=>V.agg [(V.int .i64) t.1,(V.int .i64) t.2.1,V.bool t.2.2.1,(fun l:List ByteArray=>V.sl (l.map V.str)) t.2.2.2])) (Q:=(fun t:(Int×Int×Bool×(List ByteArray))=>(fun n=>(Lit.int .i64 n).wf=true) t.1∧(fun n=>(Lit.int .i64 n).wf=true) t.2.1∧(fun _=>True) t.2.2.1∧(fun l:List ByteArray=>l.length≤maxLen∧∀a∈l,(fun s=>s.size≤maxLen) a) t.2.2.2)) h (fun h=>by obtain ⟨x81,l82,rfl,g83,h84⟩:=hasL_cons h;obtain ⟨a85,rfl,w86⟩:=(fun h=>has_int h) g83;obtain ⟨x87,l88,rfl,g89,h90⟩:=hasL_cons h84;obtain ⟨a91,rfl,w92⟩:=(fun h=>has_int h) g89;obtain ⟨x93,l94,rfl,g95,h96⟩:=hasL_cons h90;obtain ⟨a97,rfl,w98⟩:=(fun h=>has_boolT h) g95;obtain ⟨x99,l100,rfl,g101,h102⟩:=hasL_cons h96;obtain ⟨a103,rfl,w104⟩:=(fun h=>has_sl (f:=V.str) (Q:=(fun s=>s.size≤maxLen)) h (fun h=>has_str h)) g101;obtain rfl:=hasL_nil h102;exact ⟨(a85,a91,a97,a103),rfl,w86,w92,w98,w104⟩)) g79
  obtain ⟨x105,l106,rfl,g107,k108⟩:=hasL_cons k80
  obtain ⟨wsc,rfl,wwsc⟩:=(fun h=>has_slA (f:=(fun t:(Int×(List Int))=>V.agg [(V.int .i64) t.1,(fun l:List Int=>V.sl (l.map (V.int .i64))) t.2])) (Q:=(fun t:(Int×(List Int))=>(fun n=>(Lit.int .i64 n).wf=true) t.1∧(fun l:List Int=>l.length≤maxLen∧∀a∈l,(fun n=>(Lit.int .i64 n).wf=true) a) t.2)) h (fun h=>by obtain ⟨x109,l110,rfl,g111,h112⟩:=hasL_cons h;obtain ⟨a113,rfl,w114⟩:=(fun h=>has_int h) g111;obtain ⟨x115,l116,rfl,g117,h118⟩:=hasL_cons h112;obtain ⟨a119,rfl,w120⟩:=(fun h=>has_sl (f:=(V.int .i64)) (Q:=(fun n=>(Lit.int .i64 n).wf=true)) h (fun h=>has_int h)) g117;obtain rfl:=hasL_nil h118;exact ⟨(a113,a119),rfl,w114,w120⟩)) g107
  obtain rfl:=hasL_nil k108
  obtain ⟨m,rfl,wm⟩:=(fun h=>has_int h) (arg_one ha11)
  exact lawFinishIncident_con nss ss flc inc wsc m (Nat.le_trans wss.1 maxLen_le) (Nat.le_trans wflc.1 maxLen_le) (fun t h=>Nat.le_trans (wflc.2 t h).1 maxLen_le) (Nat.le_trans winc.1 maxLen_le) (fun t h=>⟨Nat.le_trans (winc.2 t h).2.2.2.1 maxLen_le,fun s hs=>Nat.le_trans ((winc.2 t h).2.2.2.2 s hs) maxLen_le⟩) (Nat.le_trans wwsc.1 maxLen_le) (fun t h=>Nat.le_trans (wwsc.2 t h).2.1 maxLen_le)
set_option maxRecDepth 100000 in
theorem fnExactFinishIncident_lifted (os:Os) (started:os.Started) (H:Type) (enc:TypeId×Value→H) :
    ReturnsInHanded {} Tryz.checked os 3 .any (Rows.fnExactFinishIncidentSpec.pre6 enc Tryz.prog Tryz.f3 Rows.fnExactFinishIncidentRow.domain false) (Rows.fnExactFinishIncidentSpec.post enc Tryz.prog Tryz.f3 false true false false):=by
  refine returnsInHanded_of_change (C:=Tryz.checked) Tryz.own started (by kernel_rfl) Tryz.func3
    (ChangeSpec.witness6 (enc:=enc) (C:=Tryz.checked) false ⟨#[],#[.agg #[Value.int .i64 0,Value.slice none 0 0],.agg #[Value.slice none 0 0,Value.slice none 0 0,Value.slice none 0 0],.int .i64 0],[]⟩ 8 (by kernel_rfl) (by kernel_rfl) (by kernel_rfl) (by kernel_rfl)) ?_
  intro W base args ds gs before hval hW _ _
  refine law_contract (P:=Tryz.prog) (fn:=Tryz.f3) (s:=Rows.fnExactFinishIncidentSpec) 8 [(true,[.int .i64,.sl true [.int .i64,.int .i64,.int .i64]]),(true,[.sl true [.str,.int .i64,.int .i64,.int .i64,.int .i64],.sl true [.int .i64,.int .i64,.bool,.sl false [.str]],.sl true [.int .i64,.sl false [.int .i64]]]),(false,[.int .i64])] Tryz.laidOut ?_ (by rfl) rfl Tryz.underlying4 rfl ?_ law3_all (pre:=fun _=>True) (fun _ _=>tabs_none (by kernel_rfl)) trivial hval hW
  · intro t ht
    have key:(Tryz.f3.params.toList.all fun t=>Tryz.prog.readableRec t && decide (t < Tryz.prog.types.size))=true:=by kernel_rfl
    simpa using List.all_eq_true.1 key t ht
  · intro ds h
    match ds,h with
    | [d0,d1,d2],_=>rfl
theorem fnExactFinishIncident_holds:Rows.FnExactFinishIncidentSaid:=
  OpenClaim.holds_of_wide 3 Tryz.f3 rfl rfl rfl rfl rfl rfl rfl ⟨rfl,rfl,rfl,rfl,rfl⟩ rfl rfl rfl rfl rfl (by kernel_rfl) Tryz.func3 (by kernel_rfl)
    (of_decide_eq_true (by kernel_rfl)) (by unfold Func.isWrapper;first | (rw [if_pos (by decide +kernel)];kernel_rfl) | (rw [if_neg (by decide +kernel)];exact ⟨rfl,rfl⟩))
    (fun os started H enc _=>fnExactFinishIncident_lifted os started H enc)
end Go.Proofs.YtaefoaghpehbpaaGreat
