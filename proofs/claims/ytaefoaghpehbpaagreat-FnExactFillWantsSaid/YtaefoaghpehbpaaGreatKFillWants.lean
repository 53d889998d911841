/- The program's FillWants and the reference's return the same, for all arguments: the law FnExactFillWants holds. No condition. -/
import Derived.Test.YtaefoaghpehbpaaGreatRows
import Derived.Test.YtaefoaghpehbpaaGreatUmH
import Derived.Test.YtaefoaghpehbpaaGreatX18
set_option linter.unusedSimpArgs false
set_option linter.unusedVariables false
set_option linter.defProp false
namespace Go.Proofs.YtaefoaghpehbpaaGreat
open Go Go.Vm
open Go.ChangeShapes Go.WideShapes Go.ChangeAt Go.RowKit
theorem Tryz.own:ownKnob Tryz.prog.godebug=none:=by kernel_rfl
theorem Tryz.laidOut:laidOutB Tryz.prog=true:=by kernel_rfl
theorem maxLen_le:maxLen≤9223372036854775807:=by unfold maxLen;decide
theorem law5_all:∀vs,argsHave [(true,[.int .i64,.sl true [.int .i64,.int .i64,.int .i64]]),(true,[.sl true [.str,.int .i64,.int .i64,.int .i64,.int .i64],.sl true [.int .i64,.int .i64,.bool,.sl false [.str]],.sl true [.int .i64,.sl false [.int .i64]]])] vs→Con Tryz.prog 5 vs [] (.bool true) []:=by
  intro vs h
  obtain ⟨v1,vs2,rfl,ha3,h4⟩:=args_cons h
  obtain ⟨v5,vs6,rfl,ha7,h8⟩:=args_cons h4
  obtain rfl:=args_nil h8
  obtain ⟨l9,rfl,k10⟩:=arg_agg ha3
  obtain ⟨x11,l12,rfl,g13,k14⟩:=hasL_cons k10
  obtain ⟨nss,rfl,wnss⟩:=(fun h=>has_int h) g13
  obtain ⟨x15,l16,rfl,g17,k18⟩:=hasL_cons k14
  obtain ⟨ss,rfl,wss⟩:=(fun h=>has_slA (f:=(fun t:(Int×Int×Int)=>V.agg [(V.int .i64) t.1,(V.int .i64) t.2.1,(V.int .i64) t.2.2])) (Q:=(fun t:(Int×Int×Int)=>(fun n=>(Lit.int .i64 n).wf=true) t.1∧(fun n=>(Lit.int .i64 n).wf=true) t.2.1∧(fun n=>(Lit.int .i64 n).wf=true) t.2.2)) h (fun h=>by obtain ⟨x19,l20,rfl,g21,h22⟩:=hasL_cons h;obtain ⟨a23,rfl,w24⟩:=(fun h=>has_int h) g21;obtain ⟨x25,l26,rfl,g27,h28⟩:=hasL_cons h22;obtain ⟨a29,rfl,w30⟩:=(fun h=>has_int h) g27;obtain ⟨x31,l32,rfl,g33,h34⟩:=hasL_cons h28;obtain ⟨a35,rfl,w36⟩:=(fun h=>has_int h) g33;obtain rfl:=hasL_nil h34;exact ⟨(a23,a29,a35),rfl,w24,w30,w36⟩)) g17
  obtain rfl:=hasL_nil k18
  obtain ⟨l37,rfl,k38⟩:=arg_agg ha7
  obtain ⟨x39,l40,rfl,g41,k42⟩:=hasL_cons k38
  obtain ⟨flc,rfl,wflc⟩:=(fun h=>has_slA (f:=(fun t:(ByteArray×Int×Int×Int×Int)=>V.agg [V.str t.1,(V.int .i64) t.2.1,(V.int .i64) t.2.2.1,(V.int .i64) t.2.2.2.1,(V.int .i64) t.2.2.2.2])) (Q:=(fun t:(ByteArray×Int×Int×Int×Int)=>(fun s=>s.size≤maxLen) t.1∧(fun n=>(Lit.int .i64 n).wf=true) t.2.1∧(fun n=>(Lit.int .i64 n).wf=true) t.2.2.1∧(fun n=>(Lit.int .i64 n).wf=true) t.2.2.2.1∧(fun n=>(Lit.int .i64 n).wf=true) t.2.2.2.2)) h (fun h=>by obtain ⟨x43,l44,rfl,g45,h46⟩:=hasL_cons h;obtain ⟨a47,rfl,w48⟩:=(fun h=>has_str h) g45;obtain ⟨x49,l50,rfl,g51,h52⟩:=hasL_cons h46;obtain ⟨a53,rfl,w54⟩:=(fun h=>has_int h) g51;obtain ⟨x55,l56,rfl,g57,h58⟩:=hasL_cons h52;obtain ⟨a59,rfl,w60⟩:=(fun h=>has_int h) g57;obtain ⟨x61,l62,rfl,g63,h64⟩:=hasL_cons h58;obtain ⟨a65,rfl,w66⟩:=(fun h=>has_int h) g63;obtain ⟨x67,l68,rfl,g69,h70⟩:=hasL_cons h64;obtain ⟨a71,rfl,w72⟩:=(fun h=>has_int h) g69;obtain rfl:=hasL_nil h70;exact ⟨(a47,a53,a59,a65,a71),rfl,w48,w54,w60,w66,w72⟩)) g41
  obtain ⟨x73,l74,rfl,g75,k76⟩:=hasL_cons k42
  obtain ⟨inc,rfl,winc⟩:=(fun h=>has_slA (f:=(fun t:(Int×Int×Bool×(List ByteArray))=>V.agg [(V.int .i64) t.1,(V.int .i64) t.2.1,V.bool t.2.2.1,(fun l:List ByteArray=>V.sl (l.map V.str)) t.2.2.2])) (Q:=(fun t:(Int×Int×Bool×(List ByteArray))=>(fun n=>(Lit.int .i64 n).wf=true) t.1∧(fun n=>(Lit.int .i64 n).wf=true) t.2.1∧(fun _=>True) t.2.2.1∧(fun l:List ByteArray=>l.length≤maxLen∧∀a∈l,(fun s=>s.size≤maxLen) a) t.2.2.2)) h (fun h=>by obtain ⟨x77,l78,rfl,g79,h80⟩:=hasL_cons h;obtain ⟨a81,rfl,w82⟩:=(fun h=>has_int h) g79;obtain ⟨x83,l84,rfl,g85,h86⟩:=hasL_cons h80;obtain ⟨a87,rfl,w88⟩:=(fun h=>has_int h) g85;obtain ⟨x89,l90,rfl,g91,h92⟩:=hasL_cons h86;obtain ⟨a93,rfl,w94⟩:=(fun h=>has_boolT h) g91;obtain ⟨x95,l96,rfl,g97,h98⟩:=hasL_cons h92;obtain ⟨a99,rfl,w100⟩:=(fun h=>has_sl (f:=V.str) (Q:=(fun s=>s.size≤maxLen)) h (fun h=>has_str h)) g97;obtain rfl:=hasL_nil h98;exact ⟨(a81,a87,a93,a99),rfl,w82,w88,w94,w100⟩)) g75
  obtain ⟨x101,l102,rfl,g103,k104⟩:=hasL_cons k76
  obtain ⟨wsc,rfl,wwsc⟩:=(fun h=>has_slA (f:=(fun t:(Int×(List Int))=>V.agg [(V.int .i64) t.1,(fun l:List Int=>V.sl (l.map (V.int .i64))) t.2])) (Q:=(fun t:(Int×(List Int))=>(fun n=>(Lit.int .i64 n).wf=true) t.1∧(fun l:List Int=>l.length≤maxLen∧∀a∈l,(fun n=>(Lit.int .i64 n).wf=true) a) t.2)) h (fun h=>by obtain ⟨x105,l106,rfl,g107,h108⟩:=hasL_cons h;obtain ⟨a109,rfl,w110⟩:=(fun h=>has_int h) g107;obtain ⟨x111,l112,rfl,g113,h114⟩:=hasL_cons h108;obtain ⟨a115,rfl,w116⟩:=(fun h=>has_sl (f:=(V.int .i64)) (Q:=(fun n=>(Lit.int .i64 n).wf=true)) h (fun h=>has_int h)) g113;obtain rfl:=hasL_nil h114;exact ⟨(a109,a115),rfl,w110,w116⟩)) g103
  obtain rfl:=hasL_nil k104
  exact lawFillWants_con nss ss flc inc wsc (Nat.le_trans wss.1 maxLen_le) (Nat.le_trans wflc.1 maxLen_le) (fun t h=>Nat.le_trans (wflc.2 t h).1 maxLen_le) (Nat.le_trans winc.1 maxLen_le) (fun t h=>⟨Nat.le_trans (winc.2 t h).2.2.2.1 maxLen_le,fun s hs=>Nat.le_trans ((winc.2 t h).2.2.2.2 s hs) maxLen_le⟩) (Nat.le_trans wwsc.1 maxLen_le) (fun t h=>Nat.le_trans (wwsc.2 t h).2.1 maxLen_le)
set_option maxRecDepth 100000 in
theorem fnExactFillWants_lifted (os:Os) (started:os.Started) (H:Type) (enc:TypeId×Value→H) :
    ReturnsInHanded {} Tryz.checked os 5 .any (Rows.fnExactFillWantsSpec.pre6 enc Tryz.prog Tryz.f5 Rows.fnExactFillWantsRow.domain false) (Rows.fnExactFillWantsSpec.post enc Tryz.prog Tryz.f5 false true false false):=by
  refine returnsInHanded_of_change (C:=Tryz.checked) Tryz.own started (by kernel_rfl) Tryz.func5
    (ChangeSpec.witness6 (enc:=enc) (C:=Tryz.checked) false ⟨#[],#[.agg #[Value.int .i64 0,Value.slice none 0 0],.agg #[Value.slice none 0 0,Value.slice none 0 0,Value.slice none 0 0]],[]⟩ 8 (by kernel_rfl) (by kernel_rfl) (by kernel_rfl) (by kernel_rfl)) ?_
  intro W base args ds gs before hval hW _ _
  refine law_contract (P:=Tryz.prog) (fn:=Tryz.f5) (s:=Rows.fnExactFillWantsSpec) 8 [(true,[.int .i64,.sl true [.int .i64,.int .i64,.int .i64]]),(true,[.sl true [.str,.int .i64,.int .i64,.int .i64,.int .i64],.sl true [.int .i64,.int .i64,.bool,.sl false [.str]],.sl true [.int .i64,.sl false [.int .i64]]])] Tryz.laidOut ?_ (by rfl) rfl Tryz.underlying4 rfl ?_ law5_all (pre:=fun _=>True) (fun _ _=>tabs_none (by kernel_rfl) (by kernel_rfl) (by kernel_rfl)) trivial hval hW
  · intro t ht
    have key:(Tryz.f5.params.toList.all fun t=>Tryz.prog.readableRec t && decide (t < Tryz.prog.types.size))=true:=by kernel_rfl
    simpa using List.all_eq_true.1 key t ht
  · intro ds h
    match ds,h with
    | [d0,d1],_=>rfl
theorem fnExactFillWants_holds:Rows.FnExactFillWantsSaid:=
  OpenClaim.holds_of_wide 5 Tryz.f5 rfl rfl rfl rfl rfl rfl rfl ⟨rfl,rfl,rfl,rfl,rfl⟩ rfl rfl rfl rfl rfl (by kernel_rfl) Tryz.func5 (by kernel_rfl)
    (of_decide_eq_true (by kernel_rfl)) (by unfold Func.isWrapper;first | (rw [if_pos (by decide +kernel)];kernel_rfl) | (rw [if_neg (by decide +kernel)];exact ⟨rfl,rfl⟩))
    (fun os started H enc _=>fnExactFillWants_lifted os started H enc)
end Go.Proofs.YtaefoaghpehbpaaGreat
