/- The program's FnCalls and the reference's return the same, for all arguments: the law FnCalls holds. No condition. -/
import Derived.LaidHandle
import Derived.Deep.DeepLaidRun
import Derived.MakeChecks
import Derived.Stop.LaidErr
import Derived.Test.YtmhaafinhpopmaaGreatDoorTie
import Derived.Test.YtmhaafinhpopmaaGreatDoorCards
import Derived.Test.YtmhaafinhpopmaaGreatDoorX31
set_option linter.unusedSimpArgs false
set_option linter.unusedVariables false
set_option linter.defProp false
namespace Go.Proofs.YtmhaafinhpopmaaGreatDoor
open Go Go.Vm
open Go.ChangeShapes Go.WideShapes Go.ChangeAt Go.RowKit
theorem Tryz.own:ownKnob Tryz.prog.godebug=none:=by kernel_rfl
theorem Tryz.laidOut:laidOutB Tryz.prog=true:=by kernel_rfl
theorem maxLen_le:maxLen≤9223372036854775807:=by unfold maxLen;decide
theorem law3_all:∀vs,argsHave [(false,[.sl false [.int .u8]]),(false,[.sl false [.int .u8]])] vs→Con Tryz.prog 3 vs [] (.bool true) []:=by
  intro vs h;obtain ⟨v1,vs2,rfl,ha3,h4⟩:=args_cons h;obtain ⟨v5,vs6,rfl,ha7,h8⟩:=args_cons h4;obtain rfl:=args_nil h8;obtain ⟨c1,rfl,wc1⟩:=(fun h=>has_sl (f:=(V.int .u8)) (Q:=(fun n=>(Lit.int .u8 n).wf=true)) h (fun h=>has_int h)) (arg_one ha3);obtain ⟨c2,rfl,wc2⟩:=(fun h=>has_sl (f:=(V.int .u8)) (Q:=(fun n=>(Lit.int .u8 n).wf=true)) h (fun h=>has_int h)) (arg_one ha7);exact lawFnCalls_con c1 c2 (u8_all wc1.2) (u8_all wc2.2) (ql1 wc1.1 maxLen_le) (ql1 wc2.1 maxLen_le)
def litCell:DataW Unit→List Value
  | .lit (.int k n)=>[Value.int k n]
  | .agg l=>l.map fun d=>match d with
    | .lit (.int k n)=>Value.int k n
    | _=>undef
  | _=>[undef]
def litCells:DataW Unit→Array Value
  | .agg l=>(l.flatMap litCell).toArray
  | _=>#[]
def sentS:DataW Unit→ByteArray
  | .iface _ (.ptr (.agg [.lit (.string l)]))=>⟨l.toArray⟩
  | _=>⟨#[]⟩
noncomputable def low:Nat:=(World.holding Tryz.prog default ⟨#[],#[],[]⟩).heap.size
noncomputable def laidWorld (os:Os):World:=
  let w0:=World.holding Tryz.prog os ⟨#[.cells #[.string (sentS Rows.laid_strconv_ErrRange)] 254,.cells #[.string (sentS Rows.laid_strconv_ErrSyntax)] 254],#[],[]⟩
  {w0 with heap:=(((((((w0.heap.modify 6 fun
      | .cells _ t fr=>.cells (litCells Rows.laid_math_bits_deBruijn32tab) t fr
      | o=>o).modify 7 fun
      | .cells _ t fr=>.cells (litCells Rows.laid_math_bits_deBruijn64tab) t fr
      | o=>o).modify 5 fun
      | .cells _ t fr=>.cells (litCells Rows.laid_internal_strconv_uint64pow10) t fr
      | o=>o).modify 4 fun
      | .cells _ t fr=>.cells (litCells Rows.laid_unicode_utf8_acceptRanges) t fr
      | o=>o).modify 2 fun
      | .cells _ t fr=>.cells #[.iface 252 (.pointer (some ⟨low+0,0,none⟩))] t fr
      | o=>o).modify 1 fun
      | .cells _ t fr=>.cells #[.iface 252 (.pointer (some ⟨low+1,0,none⟩))] t fr
      | o=>o).modify 3 fun
      | .cells _ t fr=>.cells (litCells Rows.laid_unicode_utf8_first) t fr
      | o=>o)}
set_option maxRecDepth 100000 in
theorem laidWorld_met (os:Os) (args:Array Value):laidMetH Tryz.prog Rows.fnCallsRow.laid ((laidWorld os).forCall (fun _ _=>0) ⟨#[],args,[]⟩).memory:=
  laidMetH_of_parts (laidMet_of_run3 8 (by kernel_rfl) (by kernel_rfl) (by kernel_rfl)) (by kernel_rfl)
theorem errStar: "*" ++ "errors.errorString" = "*errors.errorString" :=by decide
theorem errRow (u:TypeId) (h:Tryz.prog.typeName? 3 u=some "*errors.errorString"):u=252:=
  typeName_ptr_named (nm:= "errors.errorString") (by rw [errStar];kernel_rfl) (by kernel_rfl) (by decide) u (by rw [errStar];exact h)
set_option maxRecDepth 100000 in
theorem ErrRange_of {W:World} (h:laidMetH Tryz.prog Rows.fnCallsRow.laid W):TabsIn W (tabAt Tryz.prog "strconv.ErrRange" isErr):=by
  have h1:=laidMetH.filter (fun x=>x.1 == "strconv.ErrRange") h
  have e1:(Rows.fnCallsRow.laid.filter fun x=>x.1 == "strconv.ErrRange")=[("strconv.ErrRange",Rows.laid_strconv_ErrRange)]:=by kernel_rfl
  rw [e1,MakeChecks.laidMetH_plain _ _ _ (by kernel_rfl)] at h1
  have h2:laidMet Tryz.prog (("strconv.ErrRange",.iface "*errors.errorString" (.ptr (.agg [.lit (.string (sentS Rows.laid_strconv_ErrRange).data.toList)])))::[]) W:=h1
  obtain ⟨a,_,hv,-,-,-⟩:=laid_sentinel h2 (g:=2) (by kernel_rfl) (by kernel_rfl) Tryz.underlying177 errRow Tryz.underlying252 Tryz.underlying254 rfl rfl Tryz.underlying9 (by kernel_rfl) (by kernel_rfl);exact tabsIn_err (.inr ⟨_,_,hv⟩)
set_option maxRecDepth 100000 in
theorem ErrSyntax_of {W:World} (h:laidMetH Tryz.prog Rows.fnCallsRow.laid W):TabsIn W (tabAt Tryz.prog "strconv.ErrSyntax" isErr):=by
  have h1:=laidMetH.filter (fun x=>x.1 == "strconv.ErrSyntax") h
  have e1:(Rows.fnCallsRow.laid.filter fun x=>x.1 == "strconv.ErrSyntax")=[("strconv.ErrSyntax",Rows.laid_strconv_ErrSyntax)]:=by kernel_rfl
  rw [e1,MakeChecks.laidMetH_plain _ _ _ (by kernel_rfl)] at h1
  have h2:laidMet Tryz.prog (("strconv.ErrSyntax",.iface "*errors.errorString" (.ptr (.agg [.lit (.string (sentS Rows.laid_strconv_ErrSyntax).data.toList)])))::[]) W:=h1
  obtain ⟨a,_,hv,-,-,-⟩:=laid_sentinel h2 (g:=1) (by kernel_rfl) (by kernel_rfl) Tryz.underlying177 errRow Tryz.underlying252 Tryz.underlying254 rfl rfl Tryz.underlying9 (by kernel_rfl) (by kernel_rfl);exact tabsIn_err (.inr ⟨_,_,hv⟩)
set_option maxRecDepth 100000 in
theorem tab_of {W:World} (h:laidMetH Tryz.prog Rows.fnCallsRow.laid W):TabsIn W (tabsOf Tryz.prog):=by
  have h1:=laidMetH.filter (fun x=>x.1 == "internal/strconv.uint64pow10") h
  have e1:(Rows.fnCallsRow.laid.filter fun x=>x.1 == "internal/strconv.uint64pow10")=[("internal/strconv.uint64pow10",Lib.tabData .u64 Lib.pow10Tab)]:=by kernel_rfl
  rw [e1,MakeChecks.laidMetH_plain _ _ _ (by kernel_rfl)] at h1;exact tabsIn_app (tabsIn_pow (Lib.tabIs_of_head (g:=5) (t:=256) (e:=84) (n:=20) (by kernel_rfl) (by kernel_rfl) (by kernel_rfl) (by kernel_rfl) (by kernel_rfl) (by kernel_rfl) h1)) (tabsIn_app (ErrSyntax_of h) (ErrRange_of h))
set_option maxRecDepth 100000 in
theorem fnCalls_lifted (os:Os) (started:os.Started) (H:Type) (enc:TypeId×Value→H) :
    ReturnsInHanded {} Tryz.checked os 3 .any (fun w args=>(Rows.fnCallsSpec.pre enc Tryz.prog Tryz.f3 Rows.fnCallsRow.domain false w args∧laidMetH Tryz.prog Rows.fnCallsRow.laid w)∧sizedMet enc Tryz.prog Tryz.f3 (OpenSpec.ofChange Rows.fnCallsSpec) false w args)
      (Rows.fnCallsSpec.post enc Tryz.prog Tryz.f3 false true false false):=by
  refine returnsInHanded_of_change_and (C:=Tryz.checked) (X:=fun w _=>laidMetH Tryz.prog Rows.fnCallsRow.laid w) (fun _ _ _ hh h=>h.of_heap hh) Tryz.own started (by kernel_rfl) Tryz.func3
    (ChangeSpec.witness_at (enc:=enc) (C:=Tryz.checked) (os:=os) (X:=fun w _=>laidMetH Tryz.prog Rows.fnCallsRow.laid w) false (laidWorld os) #[.slice none 0 0,.slice none 0 0] 8 rfl (by kernel_rfl) (by kernel_rfl) (by kernel_rfl) (by kernel_rfl) (by kernel_rfl) (laidWorld_met os _)) ?_
  intro W base args ds gs before hval hW _ _ hL _;refine law_contract (P:=Tryz.prog) (fn:=Tryz.f3) (s:=Rows.fnCallsSpec) 8 [(false,[.sl false [.int .u8]]),(false,[.sl false [.int .u8]])] Tryz.laidOut ?_ (by rfl) rfl Tryz.underlying4 rfl ?_ law3_all (pre:=fun W=>laidMetH Tryz.prog Rows.fnCallsRow.laid W) (fun _ h=>tab_of h) hL hval hW
  · intro t ht
    have key:(Tryz.f3.params.toList.all fun t=>Tryz.prog.readableRec t && decide (t < Tryz.prog.types.size))=true:=by kernel_rfl
    simpa using ql3.1 key t ht
  · intro ds h
    match ds,h with
    | [d0,d1],_=>rfl
theorem fnCalls_row_holds:Rows.FnCallsSaid:=
  OpenClaim.holds_of_wide 3 Tryz.f3 rfl rfl rfl rfl rfl rfl rfl ⟨rfl,rfl,rfl,rfl,rfl⟩ rfl rfl rfl rfl rfl (by kernel_rfl) Tryz.func3 (by kernel_rfl)
    (of_decide_eq_true (by kernel_rfl)) (by unfold Func.isWrapper;first | (rw [if_pos (by decide +kernel)];kernel_rfl) | (rw [if_neg (by decide +kernel)];exact ⟨rfl,rfl⟩))
    (fun os started H enc _=>fnCalls_lifted os started H enc)
set_option maxRecDepth 100000 in
theorem fnCalls_holds:Rows.FnCallsCardSaid:=
  Claim7.holds_tied_plain_at .later [] [.data,.data,.data,.data,.sentinel,.sentinel,.pinned] true (true, "a60f6cf2b6384377d04ff55239d211599ef512fbe39813f7f94041a0941bcb2b") true
    fnCalls_row_holds (fun _ h=>by cases h) (by kernel_rfl) (fun _ h=>by cases h) fnCalls_row_tie rfl ⟨rfl,rfl⟩ (by kernel_rfl) rfl
    (fun f fn hf hfn=>by
      obtain rfl:3=f:=Option.some.inj ((show Tryz.prog.funcNamed "loop.example/g01020/laws.FnCalls" =some 3 by kernel_rfl).symm.trans hf)
      obtain rfl:Tryz.f3=fn:=Option.some.inj (Tryz.func3.symm.trans hfn);exact ⟨by kernel_rfl,fun j t ht=>by
        have hm:t∈Tryz.f3.params.toList:=by
          have:=Array.mem_of_getElem? ht;simpa using this
        have key:(Tryz.f3.params.toList.all fun t=> !Tryz.prog.wantsStandIn t)=true:=by kernel_rfl
        have:=ql3.1 key t hm;exact (by simpa using this:Tryz.prog.wantsStandIn t=false)⟩)
    (by kernel_rfl)
end Go.Proofs.YtmhaafinhpopmaaGreatDoor
