/- The program's TakeCall and the reference's return the same, for all arguments: the law FnExactTakeCall holds. No condition. -/
import Derived.Test.YtaefoaghpehbpaaGreatRows
import Derived.Test.YtaefoaghpehbpaaGreatUmH
import Derived.Test.YtaefoaghpehbpaaGreatX22
set_option linter.unusedSimpArgs false
set_option linter.unusedVariables false
set_option linter.defProp false
namespace Go.Proofs.YtaefoaghpehbpaaGreat
open Go Go.Vm
open Go.ChangeShapes Go.WideShapes Go.ChangeAt Go.RowKit
theorem Tryz.own:ownKnob Tryz.prog.godebug=none:=by kernel_rfl
theorem Tryz.laidOut:laidOutB Tryz.prog=true:=by kernel_rfl
theorem b42:maxLen≤9223372036854775807:=by unfold maxLen;decide
theorem f4q:∀vs,b9f [(true,[.int .i64,.sl true [.int .i64,.int .i64,.int .i64]]),(false,[.sl true [.int .i64,.int .i64,.int .i64,.int .i64,.int .i64,.int .i64,.sl false [.int .i64]]]),(true,[.sl true [.str,.int .i64,.int .i64,.int .i64,.int .i64],.sl true [.int .i64,.int .i64,.bool,.sl false [.str]],.sl true [.int .i64,.sl false [.int .i64]]]),(false,[.int .i64]),(true,[.int .i64,.int .i64,.int .i64])] vs→Con Tryz.prog 6 vs [] (.bool true) []:=by
  intro vs h
  obtain ⟨v1,vs2,rfl,ha3,h4⟩:=c0h h
  obtain ⟨v5,vs6,rfl,ha7,h8⟩:=c0h h4
  obtain ⟨v9,vs10,rfl,ha11,h12⟩:=c0h h8
  obtain ⟨v13,vs14,rfl,ha15,h16⟩:=c0h h12
  obtain ⟨v17,vs18,rfl,ha19,h20⟩:=c0h h16
  obtain rfl:=f4m h20
  obtain ⟨l21,rfl,k22⟩:=d6b ha3
  obtain ⟨x23,l24,rfl,g25,k26⟩:=b11 k22
  obtain ⟨nss,rfl,wnss⟩:=(fun h=>b3g h) g25
  obtain ⟨x27,l28,rfl,g29,k30⟩:=b11 k26
  obtain ⟨ss,rfl,wss⟩:=(fun h=>c8r (f:=(fun t:(Int×Int×Int)=>V.agg [(V.int .i64) t.1,(V.int .i64) t.2.1,(V.int .i64) t.2.2])) (Q:=(fun t:(Int×Int×Int)=>(fun n=>(Lit.int .i64 n).wf=true) t.1∧(fun n=>(Lit.int .i64 n).wf=true) t.2.1∧(fun n=>(Lit.int .i64 n).wf=true) t.2.2)) h (fun h=>by obtain ⟨x31,l32,rfl,g33,h34⟩:=b11 h;obtain ⟨a35,rfl,w36⟩:=(fun h=>b3g h) g33;obtain ⟨x37,l38,rfl,g39,h40⟩:=b11 h34;obtain ⟨a41,rfl,w42⟩:=(fun h=>b3g h) g39;obtain ⟨x43,l44,rfl,g45,h46⟩:=b11 h40;obtain ⟨a47,rfl,w48⟩:=(fun h=>b3g h) g45;obtain rfl:=b8c h46;exact ⟨(a35,a41,a47),rfl,w36,w42,w48⟩)) g29
  obtain rfl:=b8c k30
  obtain ⟨tb,rfl,wtb⟩:=(fun h=>c8r (f:=(fun t:(Int×Int×Int×Int×Int×Int×(List Int))=>V.agg [(V.int .i64) t.1,(V.int .i64) t.2.1,(V.int .i64) t.2.2.1,(V.int .i64) t.2.2.2.1,(V.int .i64) t.2.2.2.2.1,(V.int .i64) t.2.2.2.2.2.1,(fun l:List Int=>V.sl (l.map (V.int .i64))) t.2.2.2.2.2.2])) (Q:=(fun t:(Int×Int×Int×Int×Int×Int×(List Int))=>(fun n=>(Lit.int .i64 n).wf=true) t.1∧(fun n=>(Lit.int .i64 n).wf=true) t.2.1∧(fun n=>(Lit.int .i64 n).wf=true) t.2.2.1∧(fun n=>(Lit.int .i64 n).wf=true) t.2.2.2.1∧(fun n=>(Lit.int .i64 n).wf=true) t.2.2.2.2.1∧(fun n=>(Lit.int .i64 n).wf=true) t.2.2.2.2.2.1∧(fun l:List Int=>l.length≤maxLen∧∀a∈l,(fun n=>(Lit.int .i64 n).wf=true) a) t.2.2.2.2.2.2)) h (fun h=>by obtain ⟨x49,l50,rfl,g51,h52⟩:=b11 h;obtain ⟨a53,rfl,w54⟩:=(fun h=>b3g h) g51;obtain ⟨x55,l56,rfl,g57,h58⟩:=b11 h52;obtain ⟨a59,rfl,w60⟩:=(fun h=>b3g h) g57;obtain ⟨x61,l62,rfl,g63,h64⟩:=b11 h58;obtain ⟨a65,rfl,w66⟩:=(fun h=>b3g h) g63;obtain ⟨x67,l68,rfl,g69,h70⟩:=b11 h64;obtain ⟨a71,rfl,w72⟩:=(fun h=>b3g h) g69;obtain ⟨x73,l74,rfl,g75,h76⟩:=b11 h70;obtain ⟨a77,rfl,w78⟩:=(fun h=>b3g h) g75;obtain ⟨x79,l80,rfl,g81,h82⟩:=b11 h76;obtain ⟨a83,rfl,w84⟩:=(fun h=>b3g h) g81;obtain ⟨x85,l86,rfl,g87,h88⟩:=b11 h82;obtain ⟨a89,rfl,w90⟩:=(fun h=>f2w (f:=(V.int .i64)) (Q:=(fun n=>(Lit.int .i64 n).wf=true)) h (fun h=>b3g h)) g87;obtain rfl:=b8c h88;exact ⟨(a53,a59,a65,a71,a77,a83,a89),rfl,w54,w60,w66,w72,w78,w84,w90⟩)) (f2f ha7)
  obtain ⟨l91,rfl,k92⟩:=d6b ha11
  obtain ⟨x93,l94,rfl,g95,k96⟩:=b11 k92
  obtain ⟨flc,rfl,wflc⟩:=(fun h=>c8r (f:=(fun t:(ByteArray×Int×Int×Int×Int)=>V.agg [V.str t.1,(V.int .i64) t.2.1,(V.int .i64) t.2.2.1,(V.int .i64) t.2.2.2.1,(V.int .i64) t.2.2.2.2])) (Q:=(fun t:(ByteArray×Int×Int×Int×Int)=>(fun s=>s.size≤maxLen) t.1∧(fun n=>(Lit.int .i64 n).wf=true) t.2.1∧(fun n=>(Lit.int .i64 n).wf=true) t.2.2.1∧(fun n=>(Lit.int .i64 n).wf=true) t.2.2.2.1∧(fun n=>(Lit.int .i64 n).wf=true) t.2.2.2.2)) h (fun h=>by obtain ⟨x97,l98,rfl,g99,h100⟩:=b11 h;obtain ⟨a101,rfl,w102⟩:=(fun h=>f1j h) g99;obtain ⟨x103,l104,rfl,g105,h106⟩:=b11 h100;obtain ⟨a107,rfl,w108⟩:=(fun h=>b3g h) g105;obtain ⟨x109,l110,rfl,g111,h112⟩:=b11 h106;obtain ⟨a113,rfl,w114⟩:=(fun h=>b3g h) g111;obtain ⟨x115,l116,rfl,g117,h118⟩:=b11 h112;obtain ⟨a119,rfl,w120⟩:=(fun h=>b3g h) g117;obtain ⟨x121,l122,rfl,g123,h124⟩:=b11 h118;obtain ⟨a125,rfl,w126⟩:=(fun h=>b3g h) g123;obtain rfl:=b8c h124;exact ⟨(a101,a107,a113,a119,a125),rfl,w102,w108,w114,w120,w126⟩)) g95
  obtain ⟨x127,l128,rfl,g129,k130⟩:=b11 k96
  obtain ⟨inc,rfl,winc⟩:=(fun h=>c8r (f:=(fun t:(Int×Int×Bool×(List ByteArray))=>V.agg [(V.int .i64) t.1,(V.int .i64) t.2.1,V.bool t.2.2.1,(fun l:List ByteArray=>V.sl (l.map V.str)) t.2.2.2])) (Q:=(fun t:(Int×Int×Bool×(List ByteArray))=>(fun n=>(Lit.int .i64 n).wf=true) t.1∧(fun n=>(Lit.int .i64 n).wf=true) t.2.1∧(fun _=>True) t.2.2.1∧(fun l:List ByteArray=>l.length≤maxLen∧∀a∈l,(fun s=>s.size≤maxLen) a) t.2.2.2)) h (fun h=>by obtain ⟨x131,l132,rfl,g133,h134⟩:=b11 h;obtain ⟨a135,rfl,w136⟩:=(fun h=>b3g h) g133;obtain ⟨x137,l138,rfl,g139,h140⟩:=b11 h134;obtain ⟨a141,rfl,w142⟩:=(fun h=>b3g h) g139;obtain ⟨x143,l144,rfl,g145,h146⟩:=b11 h140;obtain ⟨a147,rfl,w148⟩:=(fun h=>f2t h) g145;obtain ⟨x149,l150,rfl,g151,h152⟩:=b11 h146;obtain ⟨a153,rfl,w154⟩:=(fun h=>f2w (f:=V.str) (Q:=(fun s=>s.size≤maxLen)) h (fun h=>f1j h)) g151;obtain rfl:=b8c h152;exact ⟨(a135,a141,a147,a153),rfl,w136,w142,w148,w154⟩)) g129
  obtain ⟨x155,l156,rfl,g157,k158⟩:=b11 k130
  obtain ⟨wsc,rfl,wwsc⟩:=(fun h=>c8r (f:=(fun t:(Int×(List Int))=>V.agg [(V.int .i64) t.1,(fun l:List Int=>V.sl (l.map (V.int .i64))) t.2])) (Q:=(fun t:(Int×(List Int))=>(fun n=>(Lit.int .i64 n).wf=true) t.1∧(fun l:List Int=>l.length≤maxLen∧∀a∈l,(fun n=>(Lit.int .i64 n).wf=true) a) t.2)) h (fun h=>by obtain ⟨x159,l160,rfl,g161,h162⟩:=b11 h;obtain ⟨a163,rfl,w164⟩:=(fun h=>b3g h) g161;obtain ⟨x165,l166,rfl,g167,h168⟩:=b11 h162;obtain ⟨a169,rfl,w170⟩:=(fun h=>f2w (f:=(V.int .i64)) (Q:=(fun n=>(Lit.int .i64 n).wf=true)) h (fun h=>b3g h)) g167;obtain rfl:=b8c h168;exact ⟨(a163,a169),rfl,w164,w170⟩)) g157
  obtain rfl:=b8c k158
  obtain ⟨node,rfl,wnode⟩:=(fun h=>b3g h) (f2f ha15)
  obtain ⟨l171,rfl,k172⟩:=d6b ha19
  obtain ⟨x173,l174,rfl,g175,k176⟩:=b11 k172
  obtain ⟨ax,rfl,wax⟩:=(fun h=>b3g h) g175
  obtain ⟨x177,l178,rfl,g179,k180⟩:=b11 k176
  obtain ⟨bx,rfl,wbx⟩:=(fun h=>b3g h) g179
  obtain ⟨x181,l182,rfl,g183,k184⟩:=b11 k180
  obtain ⟨cx,rfl,wcx⟩:=(fun h=>b3g h) g183
  obtain rfl:=b8c k184
  exact c7m nss ss tb flc inc wsc node ax bx cx (Nat.le_trans wss.1 b42) (Nat.le_trans wtb.1 b42) (fun t h=>Nat.le_trans (wtb.2 t h).2.2.2.2.2.2.1 b42) (Nat.le_trans wflc.1 b42) (fun t h=>Nat.le_trans (wflc.2 t h).1 b42) (Nat.le_trans winc.1 b42) (fun t h=>⟨Nat.le_trans (winc.2 t h).2.2.2.1 b42,fun s hs=>Nat.le_trans ((winc.2 t h).2.2.2.2 s hs) b42⟩) (Nat.le_trans wwsc.1 b42) (fun t h=>Nat.le_trans (wwsc.2 t h).2.1 b42)
set_option maxRecDepth 100000 in
theorem b90 (os:Os) (started:os.Started) (H:Type) (enc:TypeId×Value→H) :
    ReturnsInHanded {} Tryz.checked os 6 .any (Rows.fnExactTakeCallSpec.pre6 enc Tryz.prog Tryz.f6 Rows.fnExactTakeCallRow.domain false) (Rows.fnExactTakeCallSpec.post enc Tryz.prog Tryz.f6 false true false false):=by
  refine returnsInHanded_of_change (C:=Tryz.checked) Tryz.own started (by kernel_rfl) Tryz.func6
    (ChangeSpec.witness6 (enc:=enc) (C:=Tryz.checked) false ⟨#[],#[.agg #[Value.int .i64 0,Value.slice none 0 0],.slice none 0 0,.agg #[Value.slice none 0 0,Value.slice none 0 0,Value.slice none 0 0],.int .i64 0,.agg #[Value.int .i64 0,Value.int .i64 0,Value.int .i64 0]],[]⟩ 8 (by kernel_rfl) (by kernel_rfl) (by kernel_rfl) (by kernel_rfl)) ?_
  intro W base args ds gs before hval hW _ _
  refine d39 (P:=Tryz.prog) (fn:=Tryz.f6) (s:=Rows.fnExactTakeCallSpec) 8 [(true,[.int .i64,.sl true [.int .i64,.int .i64,.int .i64]]),(false,[.sl true [.int .i64,.int .i64,.int .i64,.int .i64,.int .i64,.int .i64,.sl false [.int .i64]]]),(true,[.sl true [.str,.int .i64,.int .i64,.int .i64,.int .i64],.sl true [.int .i64,.int .i64,.bool,.sl false [.str]],.sl true [.int .i64,.sl false [.int .i64]]]),(false,[.int .i64]),(true,[.int .i64,.int .i64,.int .i64])] Tryz.laidOut ?_ (by rfl) rfl Tryz.underlying4 rfl ?_ f4q (pre:=fun _=>True) (fun _ _=>f0l (by kernel_rfl) (by kernel_rfl) (by kernel_rfl)) trivial hval hW
  · intro t ht
    have key:(Tryz.f6.params.toList.all fun t=>Tryz.prog.readableRec t && decide (t < Tryz.prog.types.size))=true:=by kernel_rfl
    simpa using List.all_eq_true.1 key t ht
  · intro ds h
    match ds,h with
    | [d0,d1,d2,d3,d4],_=>rfl
theorem fnExactTakeCall_holds:Rows.FnExactTakeCallSaid:=
  OpenClaim.holds_of_wide 6 Tryz.f6 rfl rfl rfl rfl rfl rfl rfl ⟨rfl,rfl,rfl,rfl,rfl⟩ rfl rfl rfl rfl rfl (by kernel_rfl) Tryz.func6 (by kernel_rfl)
    (of_decide_eq_true (by kernel_rfl)) (by unfold Func.isWrapper;first | (rw [if_pos (by decide +kernel)];kernel_rfl) | (rw [if_neg (by decide +kernel)];exact ⟨rfl,rfl⟩))
    (fun os started H enc _=>b90 os started H enc)
end Go.Proofs.YtaefoaghpehbpaaGreat
