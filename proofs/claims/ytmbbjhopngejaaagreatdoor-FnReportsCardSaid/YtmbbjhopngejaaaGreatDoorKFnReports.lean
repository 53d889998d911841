/- The program's FnReports and the reference's return the same, for all arguments: the law FnReports holds. No condition. -/
import Derived.LaidHandle
import Derived.Deep.DeepLaidRun
import Derived.MakeChecks
import Derived.Stop.LaidErr
import Derived.Test.YtmbbjhopngejaaaGreatDoorUmH
import Derived.Test.YtmbbjhopngejaaaGreatDoorTie
import Derived.Test.YtmbbjhopngejaaaGreatDoorCards
import Derived.Test.YtmbbjhopngejaaaGreatDoorX38
set_option linter.unusedSimpArgs false
set_option linter.unusedVariables false
set_option linter.defProp false
namespace Go.Proofs.YtmbbjhopngejaaaGreatDoor
open Go Go.Vm
open Go.ChangeShapes Go.WideShapes Go.ChangeAt Go.RowKit
theorem Tryz.own:ownKnob Tryz.prog.godebug=none:=by kernel_rfl
theorem Tryz.laidOut:laidOutB Tryz.prog=true:=by kernel_rfl
theorem d29:maxLen≤9223372036854775807:=by unfold maxLen;decide
theorem f57:∀vs,b90 [(false,[.sl false [.int .u8]]),(false,[.sl false [.int .u8]])] vs→Con Tryz.prog 3 vs [] (.bool true) []:=by
  intro vs h;obtain ⟨v1,vs2,rfl,ha3,h4⟩:=d40 h;obtain ⟨v5,vs6,rfl,ha7,h8⟩:=d40 h4;obtain rfl:=f4r h8;obtain ⟨c1,rfl,wc1⟩:=(fun h=>f6n (f:=(V.int .u8)) (Q:=(fun n=>(Lit.int .u8 n).wf=true)) h (fun h=>f2a h)) (f1g ha3);obtain ⟨c2,rfl,wc2⟩:=(fun h=>f6n (f:=(V.int .u8)) (Q:=(fun n=>(Lit.int .u8 n).wf=true)) h (fun h=>f2a h)) (f1g ha7);exact c6i c1 c2 (f6q wc1.2) (f6q wc2.2) (ql6 wc1.1 d29) (ql6 wc2.1 d29)
def f7k:DataW Unit→List Value
  | .lit (.int k n)=>[Value.int k n]
  | .agg l=>l.map fun d=>match d with
    | .lit (.int k n)=>Value.int k n
    | _=>undef
  | _=>[undef]
def d1j:DataW Unit→Array Value
  | .agg l=>(l.flatMap f7k).toArray
  | _=>#[]
def f4g:DataW Unit→ByteArray
  | .iface _ (.ptr (.agg [.lit (.string l)]))=>⟨l.toArray⟩
  | _=>⟨#[]⟩
noncomputable def low:Nat:=(World.holding Tryz.prog default ⟨#[],#[],[]⟩).heap.size
noncomputable def laidWorld (os:Os):World:=
  let w0:=World.holding Tryz.prog os ⟨#[.cells #[.string (f4g Rows.laid_strconv_ErrRange)] 230,.cells #[.string (f4g Rows.laid_strconv_ErrSyntax)] 230],#[],[]⟩
  {w0 with heap:=(((((w0.heap.modify 4 fun
      | .cells _ t fr=>.cells (d1j Rows.laid_math_bits_deBruijn32tab) t fr
      | o=>o).modify 5 fun
      | .cells _ t fr=>.cells (d1j Rows.laid_math_bits_deBruijn64tab) t fr
      | o=>o).modify 3 fun
      | .cells _ t fr=>.cells (d1j Rows.laid_internal_strconv_uint64pow10) t fr
      | o=>o).modify 2 fun
      | .cells _ t fr=>.cells #[.iface 228 (.pointer (some ⟨low+0,0,none⟩))] t fr
      | o=>o).modify 1 fun
      | .cells _ t fr=>.cells #[.iface 228 (.pointer (some ⟨low+1,0,none⟩))] t fr
      | o=>o)}
set_option maxRecDepth 100000 in
theorem d1x (os:Os) (args:Array Value):laidMetH Tryz.prog Rows.fnReportsRow.laid ((laidWorld os).forCall (fun _ _=>0) ⟨#[],args,[]⟩).memory:=
  laidMetH_of_parts (laidMet_of_run3 8 (by kernel_rfl) (by kernel_rfl) (by kernel_rfl)) (by kernel_rfl)
theorem f30: "*" ++ "errors.errorString" = "*errors.errorString" :=by decide
theorem f6t (u:TypeId) (h:Tryz.prog.typeName? 3 u=some "*errors.errorString"):u=228:=
  typeName_ptr_named (nm:= "errors.errorString") (by rw [f30];kernel_rfl) (by kernel_rfl) (by decide) u (by rw [f30];exact h)
set_option maxRecDepth 100000 in
theorem d5n {W:World} (h:laidMetH Tryz.prog Rows.fnReportsRow.laid W):b6h W (c40 Tryz.prog "strconv.ErrRange" d5j):=by
  have h1:=laidMetH.filter (fun x=>x.1 == "strconv.ErrRange") h
  have e1:(Rows.fnReportsRow.laid.filter fun x=>x.1 == "strconv.ErrRange")=[("strconv.ErrRange",Rows.laid_strconv_ErrRange)]:=by kernel_rfl
  rw [e1,MakeChecks.laidMetH_plain _ _ _ (by kernel_rfl)] at h1
  have h2:laidMet Tryz.prog (("strconv.ErrRange",.iface "*errors.errorString" (.ptr (.agg [.lit (.string (f4g Rows.laid_strconv_ErrRange).data.toList)])))::[]) W:=h1
  obtain ⟨a,_,hv,-,-,-⟩:=laid_sentinel h2 (g:=2) (by kernel_rfl) (by kernel_rfl) Tryz.underlying134 f6t Tryz.underlying228 Tryz.underlying230 rfl rfl Tryz.underlying9 (by kernel_rfl) (by kernel_rfl);exact d0k (.inr ⟨_,_,hv⟩)
set_option maxRecDepth 100000 in
theorem d43 {W:World} (h:laidMetH Tryz.prog Rows.fnReportsRow.laid W):b6h W (c40 Tryz.prog "strconv.ErrSyntax" d5j):=by
  have h1:=laidMetH.filter (fun x=>x.1 == "strconv.ErrSyntax") h
  have e1:(Rows.fnReportsRow.laid.filter fun x=>x.1 == "strconv.ErrSyntax")=[("strconv.ErrSyntax",Rows.laid_strconv_ErrSyntax)]:=by kernel_rfl
  rw [e1,MakeChecks.laidMetH_plain _ _ _ (by kernel_rfl)] at h1
  have h2:laidMet Tryz.prog (("strconv.ErrSyntax",.iface "*errors.errorString" (.ptr (.agg [.lit (.string (f4g Rows.laid_strconv_ErrSyntax).data.toList)])))::[]) W:=h1
  obtain ⟨a,_,hv,-,-,-⟩:=laid_sentinel h2 (g:=1) (by kernel_rfl) (by kernel_rfl) Tryz.underlying134 f6t Tryz.underlying228 Tryz.underlying230 rfl rfl Tryz.underlying9 (by kernel_rfl) (by kernel_rfl);exact d0k (.inr ⟨_,_,hv⟩)
set_option maxRecDepth 100000 in
theorem f8n {W:World} (h:laidMetH Tryz.prog Rows.fnReportsRow.laid W):b6h W (b6b Tryz.prog):=by
  have h1:=laidMetH.filter (fun x=>x.1 == "internal/strconv.uint64pow10") h
  have e1:(Rows.fnReportsRow.laid.filter fun x=>x.1 == "internal/strconv.uint64pow10")=[("internal/strconv.uint64pow10",Lib.tabData .u64 Lib.pow10Tab)]:=by kernel_rfl
  rw [e1,MakeChecks.laidMetH_plain _ _ _ (by kernel_rfl)] at h1;exact d0a (d9j (Lib.tabIs_of_head (g:=3) (t:=223) (e:=69) (n:=20) (by kernel_rfl) (by kernel_rfl) (by kernel_rfl) (by kernel_rfl) (by kernel_rfl) (by kernel_rfl) h1)) (d0a (d43 h) (d5n h))
set_option maxRecDepth 100000 in
theorem c6g (os:Os) (started:os.Started) (H:Type) (enc:TypeId×Value→H) :
    ReturnsInHanded {} Tryz.checked os 3 .any (fun w args=>(Rows.fnReportsSpec.pre enc Tryz.prog Tryz.f3 Rows.fnReportsRow.domain false w args∧laidMetH Tryz.prog Rows.fnReportsRow.laid w)∧sizedMet enc Tryz.prog Tryz.f3 (OpenSpec.ofChange Rows.fnReportsSpec) false w args)
      (Rows.fnReportsSpec.post enc Tryz.prog Tryz.f3 false true false false):=by
  refine returnsInHanded_of_change_and (C:=Tryz.checked) (X:=fun w _=>laidMetH Tryz.prog Rows.fnReportsRow.laid w) (fun _ _ _ hh h=>h.of_heap hh) Tryz.own started (by kernel_rfl) Tryz.func3
    (ChangeSpec.witness_at (enc:=enc) (C:=Tryz.checked) (os:=os) (X:=fun w _=>laidMetH Tryz.prog Rows.fnReportsRow.laid w) false (laidWorld os) #[.slice none 0 0,.slice none 0 0] 8 rfl (by kernel_rfl) (by kernel_rfl) (by kernel_rfl) (by kernel_rfl) (by kernel_rfl) (d1x os _)) ?_
  intro W base args ds gs before hval hW _ _ hL _;refine d3f (P:=Tryz.prog) (fn:=Tryz.f3) (s:=Rows.fnReportsSpec) 8 [(false,[.sl false [.int .u8]]),(false,[.sl false [.int .u8]])] Tryz.laidOut ?_ (by rfl) rfl Tryz.underlying4 rfl ?_ f57 (pre:=fun W=>laidMetH Tryz.prog Rows.fnReportsRow.laid W) (fun _ h=>f8n h) hL hval hW
  · intro t ht
    have key:(Tryz.f3.params.toList.all fun t=>Tryz.prog.readableRec t && decide (t < Tryz.prog.types.size))=true:=by kernel_rfl
    simpa using qlf.1 key t ht
  · intro ds h
    match ds,h with
    | [d0,d1],_=>rfl
theorem fnReports_row_holds:Rows.FnReportsSaid:=
  OpenClaim.holds_of_wide 3 Tryz.f3 rfl rfl rfl rfl rfl rfl rfl ⟨rfl,rfl,rfl,rfl,rfl⟩ rfl rfl rfl rfl rfl (by kernel_rfl) Tryz.func3 (by kernel_rfl)
    (of_decide_eq_true (by kernel_rfl)) (by unfold Func.isWrapper;first | (rw [if_pos (by decide +kernel)];kernel_rfl) | (rw [if_neg (by decide +kernel)];exact ⟨rfl,rfl⟩))
    (fun os started H enc _=>c6g os started H enc)
set_option maxRecDepth 100000 in
theorem fnReports_holds:Rows.FnReportsCardSaid:=
  Claim7.holds_tied_plain_at .later [] [.data,.data,.data,.sentinel,.sentinel] true (true, "306709d88bcde065ba7569de05ad4408bea804b0846f13b6cad06f1539418f78") true
    fnReports_row_holds (fun _ h=>by cases h) (by kernel_rfl) (fun _ h=>by cases h) fnReports_row_tie rfl ⟨rfl,rfl⟩ (by kernel_rfl) rfl
    (fun f fn hf hfn=>by
      obtain rfl:3=f:=Option.some.inj ((show Tryz.prog.funcNamed "loop.example/g01020/laws.FnReports" =some 3 by kernel_rfl).symm.trans hf)
      obtain rfl:Tryz.f3=fn:=Option.some.inj (Tryz.func3.symm.trans hfn);exact ⟨by kernel_rfl,fun j t ht=>by
        have hm:t∈Tryz.f3.params.toList:=by
          have:=Array.mem_of_getElem? ht;simpa using this
        have key:(Tryz.f3.params.toList.all fun t=> !Tryz.prog.wantsStandIn t)=true:=by kernel_rfl
        have:=qlf.1 key t hm;exact (by simpa using this:Tryz.prog.wantsStandIn t=false)⟩)
    (by kernel_rfl)
end Go.Proofs.YtmbbjhopngejaaaGreatDoor
