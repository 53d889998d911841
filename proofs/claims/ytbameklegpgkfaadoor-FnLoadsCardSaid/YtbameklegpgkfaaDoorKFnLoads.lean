/- The program's FnLoads and the reference's return the same, for all arguments: the law FnLoads holds. No condition. -/
import Derived.SevenTiedAt
import Derived.LaidHandle
import Derived.LaidSub
import Derived.Lib.LaidTab
import Derived.MakeChecks
import Derived.Test.YtbameklegpgkfaaDoorRows
import Derived.Test.YtbameklegpgkfaaDoorUmH
import Derived.Test.YtbameklegpgkfaaDoorTie
import Derived.Test.YtbameklegpgkfaaDoorCards
import Derived.Test.YtbameklegpgkfaaDoorX15
set_option linter.unusedSimpArgs false
set_option linter.unusedVariables false
set_option linter.defProp false
namespace Go.Proofs.YtbameklegpgkfaaDoor
open Go Go.Vm
open Go.ChangeShapes Go.WideShapes Go.ChangeAt Go.RowKit
theorem Tryd.own:ownKnob Tryd.prog.godebug=none:=by kernel_rfl
theorem Tryd.laidOut:laidOutB Tryd.prog=true:=by kernel_rfl
theorem maxLen_le:maxLen≤9223372036854775807:=by unfold maxLen;decide
theorem law5_all:∀vs,argsHave [(false,[.sl false [.int .u8]]),(false,[.sl false [.int .u8]])] vs→Con Tryd.prog 5 vs [] (.bool true) []:=by
  intro vs h
  obtain ⟨v1,vs2,rfl,ha3,h4⟩:=args_cons h
  obtain ⟨v5,vs6,rfl,ha7,h8⟩:=args_cons h4
  obtain rfl:=args_nil h8
  obtain ⟨c1,rfl,wc1⟩:=(fun h=>has_sl (f:=(V.int .u8)) (Q:=(fun n=>(Lit.int .u8 n).wf=true)) h (fun h=>has_int h)) (arg_one ha3)
  obtain ⟨c2,rfl,wc2⟩:=(fun h=>has_sl (f:=(V.int .u8)) (Q:=(fun n=>(Lit.int .u8 n).wf=true)) h (fun h=>has_int h)) (arg_one ha7)
  exact lawFnLoads_con c1 c2 (u8_all wc1.2) (u8_all wc2.2) (Nat.le_trans wc1.1 maxLen_le) (Nat.le_trans wc2.1 maxLen_le)
def litCells:DataW Unit→Array Value
  | .agg l=>(l.map fun d=>match d with
    | .lit (.int k n)=>Value.int k n
    | _=>undef).toArray
  | _=>#[]
noncomputable def laidWorld (os:Os):World:=
  let w0:=World.holding Tryd.prog os ⟨#[],#[],[]⟩
  {w0 with heap:=(((w0.heap.modify 2 fun
      | .cells _ t fr=>.cells (litCells Rows.laid_math_bits_deBruijn32tab) t fr
      | o=>o).modify 3 fun
      | .cells _ t fr=>.cells (litCells Rows.laid_math_bits_deBruijn64tab) t fr
      | o=>o).modify 0 fun
      | .cells _ t fr=>.cells (litCells Rows.laid_internal_strconv_uint64pow10) t fr
      | o=>o)}
set_option maxRecDepth 100000 in
theorem laidWorld_met (os:Os) (args:Array Value):laidMetH Tryd.prog Rows.fnLoadsRow.laid ((laidWorld os).forCall (fun _ _=>0) ⟨#[],args,[]⟩).memory:=
  laidMetH_of_parts (laidMet_of_run' 8 (by kernel_rfl) (by kernel_rfl)) (by kernel_rfl)
set_option maxRecDepth 100000 in
theorem tab_of {W:World} (h:laidMetH Tryd.prog Rows.fnLoadsRow.laid W):∀p∈tabsOf Tryd.prog,∃t fr,W.heap[p.1]? =some (.cells p.2 t fr):=by
  have h1:=laidMetH.filter (fun x=>x.1 == "internal/strconv.uint64pow10") h
  have e1:(Rows.fnLoadsRow.laid.filter fun x=>x.1 == "internal/strconv.uint64pow10")=[("internal/strconv.uint64pow10",Lib.tabData .u64 Lib.pow10Tab)]:=by kernel_rfl
  rw [e1,MakeChecks.laidMetH_plain _ _ _ (by kernel_rfl)] at h1
  exact tabs_of_tabIs (Lib.tabIs_of_head (g:=0) (t:=198) (e:=96) (n:=20) (by kernel_rfl) (by kernel_rfl) (by kernel_rfl) (by kernel_rfl) (by kernel_rfl) (by kernel_rfl) h1)
set_option maxRecDepth 100000 in
theorem fnLoads_lifted (os:Os) (started:os.Started) (H:Type) (enc:TypeId×Value→H) :
    ReturnsInHanded {} Tryd.checked os 5 .any (fun w args=>(Rows.fnLoadsSpec.pre enc Tryd.prog Tryd.f5 Rows.fnLoadsRow.domain false w args∧laidMetH Tryd.prog Rows.fnLoadsRow.laid w)∧sizedMet enc Tryd.prog Tryd.f5 (OpenSpec.ofChange Rows.fnLoadsSpec) false w args)
      (Rows.fnLoadsSpec.post enc Tryd.prog Tryd.f5 false true false false):=by
  refine returnsInHanded_of_change_and (C:=Tryd.checked) (X:=fun w _=>laidMetH Tryd.prog Rows.fnLoadsRow.laid w) (fun _ _ _ hh h=>h.of_heap hh) Tryd.own started (by kernel_rfl) Tryd.func5
    (ChangeSpec.witness_at (enc:=enc) (C:=Tryd.checked) (os:=os) (X:=fun w _=>laidMetH Tryd.prog Rows.fnLoadsRow.laid w) false (laidWorld os) #[.slice none 0 0,.slice none 0 0] 8 rfl (by kernel_rfl) (by kernel_rfl) (by kernel_rfl) (by kernel_rfl) (by kernel_rfl) (laidWorld_met os _)) ?_
  intro W base args ds gs before hval hW _ _ hL _
  refine law_contract (P:=Tryd.prog) (fn:=Tryd.f5) (s:=Rows.fnLoadsSpec) 8 [(false,[.sl false [.int .u8]]),(false,[.sl false [.int .u8]])] Tryd.laidOut ?_ (by rfl) rfl Tryd.underlying4 rfl ?_ law5_all (pre:=fun W=>laidMetH Tryd.prog Rows.fnLoadsRow.laid W) (fun _ h=>tab_of h) hL hval hW
  · intro t ht
    have key:(Tryd.f5.params.toList.all fun t=>Tryd.prog.readableRec t && decide (t < Tryd.prog.types.size))=true:=by kernel_rfl
    simpa using List.all_eq_true.1 key t ht
  · intro ds h
    match ds,h with
    | [d0,d1],_=>rfl
theorem fnLoads_row_holds:Rows.FnLoadsSaid:=
  OpenClaim.holds_of_wide 5 Tryd.f5 rfl rfl rfl rfl rfl rfl rfl ⟨rfl,rfl,rfl,rfl,rfl⟩ rfl rfl rfl rfl rfl (by kernel_rfl) Tryd.func5 (by kernel_rfl)
    (of_decide_eq_true (by kernel_rfl)) (by unfold Func.isWrapper;first | (rw [if_pos (by decide +kernel)];kernel_rfl) | (rw [if_neg (by decide +kernel)];exact ⟨rfl,rfl⟩))
    (fun os started H enc _=>fnLoads_lifted os started H enc)
set_option maxRecDepth 100000 in
theorem fnLoads_holds:Rows.FnLoadsCardSaid:=
  Claim7.holds_tied_plain_at .later [] [.data,.data,.data] true (true, "362c60745574123c3cd2ae6b22c0983c9c2e077e3cc1ac4b5ca86126e12968c0") false
    fnLoads_row_holds (fun _ h=>by cases h) (by kernel_rfl) (fun _ h=>by cases h) fnLoads_row_tie rfl ⟨rfl,rfl⟩ (by kernel_rfl) rfl
    (fun f fn hf hfn=>by
      obtain rfl:5=f:=Option.some.inj ((show Tryd.prog.funcNamed "loop.example/g01020/laws.FnLoads" =some 5 by kernel_rfl).symm.trans hf)
      obtain rfl:Tryd.f5=fn:=Option.some.inj (Tryd.func5.symm.trans hfn)
      exact ⟨by kernel_rfl,fun j t ht=>by
        have hm:t∈Tryd.f5.params.toList:=by
          have:=Array.mem_of_getElem? ht
          simpa using this
        have key:(Tryd.f5.params.toList.all fun t=> !Tryd.prog.wantsStandIn t)=true:=by kernel_rfl
        have:=List.all_eq_true.1 key t hm
        exact (by simpa using this:Tryd.prog.wantsStandIn t=false)⟩)
    (by kernel_rfl)
end Go.Proofs.YtbameklegpgkfaaDoor
