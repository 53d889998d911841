/- The program's RunReports and the reference's return the same, for all arguments: the law FnExactRunReports holds. No condition. -/
import Derived.LaidHandle
import Derived.Deep.DeepLaidRun
import Derived.MakeChecks
import Derived.Stop.LaidErr
import Derived.Test.YtmhaafinhpopmaaGreatDoorUmH
import Derived.Test.YtmhaafinhpopmaaGreatDoorTie
import Derived.Test.YtmhaafinhpopmaaGreatDoorCards
import Derived.Test.YtmhaafinhpopmaaGreatDoorX30
set_option linter.unusedSimpArgs false
set_option linter.unusedVariables false
set_option linter.defProp false
namespace Go.Proofs.YtmhaafinhpopmaaGreatDoor
open Go Go.Vm
open Go.ChangeShapes Go.WideShapes Go.ChangeAt Go.RowKit
theorem Tryz.own:ownKnob Tryz.prog.godebug=none:=by kernel_rfl
theorem Tryz.laidOut:laidOutB Tryz.prog=true:=by kernel_rfl
theorem maxLen_le:maxLen≤9223372036854775807:=by unfold maxLen;decide
theorem law4_all:∀vs,argsHave [(true,[.int .i64,.sl true [.int .i64,.int .i64,.int .i64]]),(true,[.sl true [.str,.int .i64,.int .i64,.int .i64,.int .i64],.sl true [.int .i64,.int .i64,.bool,.sl false [.str]],.sl true [.int .i64,.sl false [.int .i64]]]),(false,[.sl false [.str]])] vs→Con Tryz.prog 4 vs [] (.bool true) []:=by
  intro vs h;obtain ⟨v1,vs2,rfl,ha3,h4⟩:=args_cons h;obtain ⟨v5,vs6,rfl,ha7,h8⟩:=args_cons h4;obtain ⟨v9,vs10,rfl,ha11,h12⟩:=args_cons h8;obtain rfl:=args_nil h12;obtain ⟨l13,rfl,k14⟩:=arg_agg ha3;obtain ⟨x15,l16,rfl,g17,k18⟩:=hasL_cons k14;obtain ⟨nss,rfl,wnss⟩:=(fun h=>has_int h) g17;obtain ⟨x19,l20,rfl,g21,k22⟩:=hasL_cons k18;obtain ⟨ss,rfl,wss⟩:=(fun h=>has_slA (f:=(fun t:(Int×Int×Int)=>V.agg [(V.int .i64) t.1,(V.int .i64) t.2.1,(V.int .i64) t.2.2])) (Q:=(fun t:(Int×Int×Int)=>(fun n=>(Lit.int .i64 n).wf=true) t.1∧(fun n=>(Lit.int .i64 n).wf=true) t.2.1∧(fun n=>(Lit.int .i64 n).wf=true) t.2.2)) h (fun h=>by obtain ⟨x23,l24,rfl,g25,h26⟩:=hasL_cons h;obtain ⟨a27,rfl,w28⟩:=(fun h=>has_int h) g25;obtain ⟨x29,l30,rfl,g31,h32⟩:=hasL_cons h26;obtain ⟨a33,rfl,w34⟩:=(fun h=>has_int h) g31;obtain ⟨x35,l36,rfl,g37,h38⟩:=hasL_cons h32;obtain ⟨a39,rfl,w40⟩:=(fun h=>has_int h) g37;obtain rfl:=hasL_nil h38;exact ⟨(a27,a33,a39),rfl,w28,w34,w40⟩)) g21;obtain rfl:=hasL_nil k22;obtain ⟨l41,rfl,k42⟩:=arg_agg ha7;obtain ⟨x43,l44,rfl,g45,k46⟩:=hasL_cons k42;obtain ⟨flc,rfl,wflc⟩:=(fun h=>has_slA (f:=(fun t:(ByteArray×Int×Int×Int×Int)=>V.agg [V.str t.1,(V.int .i64) t.2.1,(V.int .i64) t.2.2.1,(V.int .i64) t.2.2.2.1,(V.int .i64) t.2.2.2.2])) (Q:=(fun t:(ByteArray×Int×Int×Int×Int)=>(fun s=>s.size≤maxLen) t.1∧(fun n=>(Lit.int .i64 n).wf=true) t.2.1∧(fun n=>(Lit.int .i64 n).wf=true) t.2.2.1∧(fun n=>(Lit.int .i64 n).wf=true) t.2.2.2.1∧(fun n=>(Lit.int .i64 n).wf=true) t.2.2.2.2)) h (fun h=>by obtain ⟨x47,l48,rfl,g49,h50⟩:=hasL_cons h;obtain ⟨a51,rfl,w52⟩:=(fun h=>has_str h) g49;obtain ⟨x53,l54,rfl,g55,h56⟩:=hasL_cons h50;obtain ⟨a57,rfl,w58⟩:=(fun h=>has_int h) g55;obtain ⟨x59,l60,rfl,g61,h62⟩:=hasL_cons h56;obtain ⟨a63,rfl,w64⟩:=(fun h=>has_int h) g61;obtain ⟨x65,l66,rfl,g67,h68⟩:=hasL_cons h62;obtain ⟨a69,rfl,w70⟩:=(fun h=>has_int h) g67;obtain ⟨x71,l72,rfl,g73,h74⟩:=hasL_cons h68;obtain ⟨a75,rfl,w76⟩:=(fun h=>has_int h) g73;obtain rfl:=hasL_nil h74;exact ⟨(a51,a57,a63,a69,a75),rfl,w52,w58,w64,w70,w76⟩)) g45;obtain ⟨x77,l78,rfl,g79,k80⟩:=hasL_cons k46;obtain ⟨inc,rfl,winc⟩:=(fun h=>has_slA (f:=(fun t:(Int×Int×Bool×(List ByteArray))=>V.agg [(V.int .i64) t.1,(V.int .i64) t.2.1,V.bool t.2.2.1,(fun l:List ByteArray=>V.sl (l.map V.str)) t.2.2.2])) (Q:=(fun t:(Int×Int×Bool×(List ByteArray))=>(fun n=>(Lit.int .i64 n).wf=true) t.1∧(fun n=>(Lit.int .i64 n).wf=true) t.2.1∧(fun _=>True) t.2.2.1∧(fun l:List ByteArray=>l.length≤maxLen∧∀a∈l,(fun s=>s.size≤maxLen) a) t.2.2.2)) h (fun h=>by obtain ⟨x81,l82,rfl,g83,h84⟩:=hasL_cons h;obtain ⟨a85,rfl,w86⟩:=(fun h=>has_int h) g83;obtain ⟨x87,l88,rfl,g89,h90⟩:=hasL_cons h84;obtain ⟨a91,rfl,w92⟩:=(fun h=>has_int h) g89;obtain ⟨x93,l94,rfl,g95,h96⟩:=hasL_cons h90;obtain ⟨a97,rfl,w98⟩:=(fun h=>has_boolT h) g95;obtain ⟨x99,l100,rfl,g101,h102⟩:=hasL_cons h96;obtain ⟨a103,rfl,w104⟩:=(fun h=>has_sl (f:=V.str) (Q:=(fun s=>s.size≤maxLen)) h (fun h=>has_str h)) g101;obtain rfl:=hasL_nil h102;exact ⟨(a85,a91,a97,a103),rfl,w86,w92,w98,w104⟩)) g79;obtain ⟨x105,l106,rfl,g107,k108⟩:=hasL_cons k80;obtain ⟨wsc,rfl,wwsc⟩:=(fun h=>has_slA (f:=(fun t:(Int×(List Int))=>V.agg [(V.int .i64) t.1,(fun l:List Int=>V.sl (l.map (V.int .i64))) t.2])) (Q:=(fun t:(Int×(List Int))=>(fun n=>(Lit.int .i64 n).wf=true) t.1∧(fun l:List Int=>l.length≤maxLen∧∀a∈l,(fun n=>(Lit.int .i64 n).wf=true) a) t.2)) h (fun h=>by obtain ⟨x109,l110,rfl,g111,h112⟩:=hasL_cons h;obtain ⟨a113,rfl,w114⟩:=(fun h=>has_int h) g111;obtain ⟨x115,l116,rfl,g117,h118⟩:=hasL_cons h112;obtain ⟨a119,rfl,w120⟩:=(fun h=>has_sl (f:=(V.int .i64)) (Q:=(fun n=>(Lit.int .i64 n).wf=true)) h (fun h=>has_int h)) g117;obtain rfl:=hasL_nil h118;exact ⟨(a113,a119),rfl,w114,w120⟩)) g107;obtain rfl:=hasL_nil k108;obtain ⟨rs,rfl,wrs⟩:=(fun h=>has_sl (f:=V.str) (Q:=(fun s=>s.size≤maxLen)) h (fun h=>has_str h)) (arg_one ha11);exact lawRunReports_con nss ss flc inc wsc rs (qlx wss.1 maxLen_le) (qlx wflc.1 maxLen_le) (fun t h=>qlx (wflc.2 t h).1 maxLen_le) (qlx winc.1 maxLen_le) (fun t h=>⟨qlx (winc.2 t h).2.2.2.1 maxLen_le,fun s hs=>qlx ((winc.2 t h).2.2.2.2 s hs) maxLen_le⟩) (qlx wwsc.1 maxLen_le) (fun t h=>qlx (wwsc.2 t h).2.1 maxLen_le) (qlx wrs.1 maxLen_le) (fun s h=>qlx (wrs.2 s h) maxLen_le)
def litCell:DataW Unit→List Value
  | .lit (.int k n)=>[Value.int k n]
  | .agg l=>l.map fun d=>match d with
    | .lit (.int k n)=>Value.int k n
    | _=>undef
  | _=>[undef]
def litCells:DataW Unit→Array Value
  | .agg l=>(l.flatMap litCell).toArray
  | _=>#[]
def sentS:DataW Unit→ByteArray
  | .iface _ (.ptr (.agg [.lit (.string l)]))=>⟨l.toArray⟩
  | _=>⟨#[]⟩
noncomputable def low:Nat:=(World.holding Tryz.prog default ⟨#[],#[],[]⟩).heap.size
noncomputable def laidWorld (os:Os):World:=
  let w0:=World.holding Tryz.prog os ⟨#[.cells #[.string (sentS Rows.laid_strconv_ErrRange)] 254,.cells #[.string (sentS Rows.laid_strconv_ErrSyntax)] 254],#[],[]⟩
  {w0 with heap:=(((((w0.heap.modify 6 fun
      | .cells _ t fr=>.cells (litCells Rows.laid_math_bits_deBruijn32tab) t fr
      | o=>o).modify 7 fun
      | .cells _ t fr=>.cells (litCells Rows.laid_math_bits_deBruijn64tab) t fr
      | o=>o).modify 5 fun
      | .cells _ t fr=>.cells (litCells Rows.laid_internal_strconv_uint64pow10) t fr
      | o=>o).modify 2 fun
      | .cells _ t fr=>.cells #[.iface 252 (.pointer (some ⟨low+0,0,none⟩))] t fr
      | o=>o).modify 1 fun
      | .cells _ t fr=>.cells #[.iface 252 (.pointer (some ⟨low+1,0,none⟩))] t fr
      | o=>o)}
set_option maxRecDepth 100000 in
theorem laidWorld_met (os:Os) (args:Array Value):laidMetH Tryz.prog Rows.fnExactRunReportsRow.laid ((laidWorld os).forCall (fun _ _=>0) ⟨#[],args,[]⟩).memory:=
  laidMetH_of_parts (laidMet_of_run3 8 (by kernel_rfl) (by kernel_rfl) (by kernel_rfl)) (by kernel_rfl)
theorem errStar: "*" ++ "errors.errorString" = "*errors.errorString" :=by decide
theorem errRow (u:TypeId) (h:Tryz.prog.typeName? 3 u=some "*errors.errorString"):u=252:=
  typeName_ptr_named (nm:= "errors.errorString") (by rw [errStar];kernel_rfl) (by kernel_rfl) (by decide) u (by rw [errStar];exact h)
set_option maxRecDepth 100000 in
theorem ErrRange_of {W:World} (h:laidMetH Tryz.prog Rows.fnExactRunReportsRow.laid W):TabsIn W (tabAt Tryz.prog "strconv.ErrRange" isErr):=by
  have h1:=laidMetH.filter (fun x=>x.1 == "strconv.ErrRange") h
  have e1:(Rows.fnExactRunReportsRow.laid.filter fun x=>x.1 == "strconv.ErrRange")=[("strconv.ErrRange",Rows.laid_strconv_ErrRange)]:=by kernel_rfl
  rw [e1,MakeChecks.laidMetH_plain _ _ _ (by kernel_rfl)] at h1
  have h2:laidMet Tryz.prog (("strconv.ErrRange",.iface "*errors.errorString" (.ptr (.agg [.lit (.string (sentS Rows.laid_strconv_ErrRange).data.toList)])))::[]) W:=h1
  obtain ⟨a,_,hv,-,-,-⟩:=laid_sentinel h2 (g:=2) (by kernel_rfl) (by kernel_rfl) Tryz.underlying177 errRow Tryz.underlying252 Tryz.underlying254 rfl rfl Tryz.underlying9 (by kernel_rfl) (by kernel_rfl);exact tabsIn_err (.inr ⟨_,_,hv⟩)
set_option maxRecDepth 100000 in
theorem ErrSyntax_of {W:World} (h:laidMetH Tryz.prog Rows.fnExactRunReportsRow.laid W):TabsIn W (tabAt Tryz.prog "strconv.ErrSyntax" isErr):=by
  have h1:=laidMetH.filter (fun x=>x.1 == "strconv.ErrSyntax") h
  have e1:(Rows.fnExactRunReportsRow.laid.filter fun x=>x.1 == "strconv.ErrSyntax")=[("strconv.ErrSyntax",Rows.laid_strconv_ErrSyntax)]:=by kernel_rfl
  rw [e1,MakeChecks.laidMetH_plain _ _ _ (by kernel_rfl)] at h1
  have h2:laidMet Tryz.prog (("strconv.ErrSyntax",.iface "*errors.errorString" (.ptr (.agg [.lit (.string (sentS Rows.laid_strconv_ErrSyntax).data.toList)])))::[]) W:=h1
  obtain ⟨a,_,hv,-,-,-⟩:=laid_sentinel h2 (g:=1) (by kernel_rfl) (by kernel_rfl) Tryz.underlying177 errRow Tryz.underlying252 Tryz.underlying254 rfl rfl Tryz.underlying9 (by kernel_rfl) (by kernel_rfl);exact tabsIn_err (.inr ⟨_,_,hv⟩)
set_option maxRecDepth 100000 in
theorem tab_of {W:World} (h:laidMetH Tryz.prog Rows.fnExactRunReportsRow.laid W):TabsIn W (tabsOf Tryz.prog):=by
  have h1:=laidMetH.filter (fun x=>x.1 == "internal/strconv.uint64pow10") h
  have e1:(Rows.fnExactRunReportsRow.laid.filter fun x=>x.1 == "internal/strconv.uint64pow10")=[("internal/strconv.uint64pow10",Lib.tabData .u64 Lib.pow10Tab)]:=by kernel_rfl
  rw [e1,MakeChecks.laidMetH_plain _ _ _ (by kernel_rfl)] at h1;exact tabsIn_app (tabsIn_pow (Lib.tabIs_of_head (g:=5) (t:=256) (e:=84) (n:=20) (by kernel_rfl) (by kernel_rfl) (by kernel_rfl) (by kernel_rfl) (by kernel_rfl) (by kernel_rfl) h1)) (tabsIn_app (ErrSyntax_of h) (ErrRange_of h))
set_option maxRecDepth 100000 in
theorem fnExactRunReports_lifted (os:Os) (started:os.Started) (H:Type) (enc:TypeId×Value→H) :
    ReturnsInHanded {} Tryz.checked os 4 .any (fun w args=>(Rows.fnExactRunReportsSpec.pre enc Tryz.prog Tryz.f4 Rows.fnExactRunReportsRow.domain false w args∧laidMetH Tryz.prog Rows.fnExactRunReportsRow.laid w)∧sizedMet enc Tryz.prog Tryz.f4 (OpenSpec.ofChange Rows.fnExactRunReportsSpec) false w args)
      (Rows.fnExactRunReportsSpec.post enc Tryz.prog Tryz.f4 false true false false):=by
  refine returnsInHanded_of_change_and (C:=Tryz.checked) (X:=fun w _=>laidMetH Tryz.prog Rows.fnExactRunReportsRow.laid w) (fun _ _ _ hh h=>h.of_heap hh) Tryz.own started (by kernel_rfl) Tryz.func4
    (ChangeSpec.witness_at (enc:=enc) (C:=Tryz.checked) (os:=os) (X:=fun w _=>laidMetH Tryz.prog Rows.fnExactRunReportsRow.laid w) false (laidWorld os) #[.agg #[Value.int .i64 0,Value.slice none 0 0],.agg #[Value.slice none 0 0,Value.slice none 0 0,Value.slice none 0 0],.slice none 0 0] 8 rfl (by kernel_rfl) (by kernel_rfl) (by kernel_rfl) (by kernel_rfl) (by kernel_rfl) (laidWorld_met os _)) ?_
  intro W base args ds gs before hval hW _ _ hL _;refine law_contract (P:=Tryz.prog) (fn:=Tryz.f4) (s:=Rows.fnExactRunReportsSpec) 8 [(true,[.int .i64,.sl true [.int .i64,.int .i64,.int .i64]]),(true,[.sl true [.str,.int .i64,.int .i64,.int .i64,.int .i64],.sl true [.int .i64,.int .i64,.bool,.sl false [.str]],.sl true [.int .i64,.sl false [.int .i64]]]),(false,[.sl false [.str]])] Tryz.laidOut ?_ (by rfl) rfl Tryz.underlying4 rfl ?_ law4_all (pre:=fun W=>laidMetH Tryz.prog Rows.fnExactRunReportsRow.laid W) (fun _ h=>tab_of h) hL hval hW
  · intro t ht
    have key:(Tryz.f4.params.toList.all fun t=>Tryz.prog.readableRec t && decide (t < Tryz.prog.types.size))=true:=by kernel_rfl
    simpa using qls.1 key t ht
  · intro ds h
    match ds,h with
    | [d0,d1,d2],_=>rfl
theorem fnExactRunReports_row_holds:Rows.FnExactRunReportsSaid:=
  OpenClaim.holds_of_wide 4 Tryz.f4 rfl rfl rfl rfl rfl rfl rfl ⟨rfl,rfl,rfl,rfl,rfl⟩ rfl rfl rfl rfl rfl (by kernel_rfl) Tryz.func4 (by kernel_rfl)
    (of_decide_eq_true (by kernel_rfl)) (by unfold Func.isWrapper;first | (rw [if_pos (by decide +kernel)];kernel_rfl) | (rw [if_neg (by decide +kernel)];exact ⟨rfl,rfl⟩))
    (fun os started H enc _=>fnExactRunReports_lifted os started H enc)
set_option maxRecDepth 100000 in
theorem fnExactRunReports_holds:Rows.FnExactRunReportsCardSaid:=
  Claim7.holds_tied_plain_at .later [] [.data,.data,.data,.sentinel,.sentinel] true (true, "a60f6cf2b6384377d04ff55239d211599ef512fbe39813f7f94041a0941bcb2b") true
    fnExactRunReports_row_holds (fun _ h=>by cases h) (by kernel_rfl) (fun _ h=>by cases h) fnExactRunReports_row_tie rfl ⟨rfl,rfl⟩ (by kernel_rfl) rfl
    (fun f fn hf hfn=>by
      obtain rfl:4=f:=Option.some.inj ((show Tryz.prog.funcNamed "loop.example/g01020/laws.FnExactRunReports" =some 4 by kernel_rfl).symm.trans hf)
      obtain rfl:Tryz.f4=fn:=Option.some.inj (Tryz.func4.symm.trans hfn);exact ⟨by kernel_rfl,fun j t ht=>by
        have hm:t∈Tryz.f4.params.toList:=by
          have:=Array.mem_of_getElem? ht;simpa using this
        have key:(Tryz.f4.params.toList.all fun t=> !Tryz.prog.wantsStandIn t)=true:=by kernel_rfl
        have:=qls.1 key t hm;exact (by simpa using this:Tryz.prog.wantsStandIn t=false)⟩)
    (by kernel_rfl)
end Go.Proofs.YtmhaafinhpopmaaGreatDoor
