/- The program's FnControlRoom and the reference's return the same, for all arguments: the law FnControlRoom holds. No condition. -/
import Derived.Test.YtmbbjhopngejaaaGreatRows
import Derived.Test.YtmbbjhopngejaaaGreatX30
set_option linter.all false
namespace Go.Proofs.YtmbbjhopngejaaaGreat
open Go Go.Vm
open Go.ChangeShapes Go.WideShapes Go.ChangeAt Go.RowKit
theorem Tryz.own:ownKnob Tryz.prog.godebug=none:=by kernel_rfl
theorem Tryz.laidOut:laidOutB Tryz.prog=true:=by kernel_rfl
theorem d35:maxLen≤9223372036854775807:=by unfold maxLen;decide
theorem f7t:∀vs,c0k [(false,[.sl false [.int .u8]]),(false,[.sl false [.int .u8]])] vs→Con Tryz.prog 3 vs [] (.bool true) []:=by
  intro vs h;obtain ⟨v1,vs2,rfl,ha3,h4⟩:=d4e h;obtain ⟨v5,vs6,rfl,ha7,h8⟩:=d4e h4;obtain rfl:=f8e h8;obtain ⟨c1,rfl,wc1⟩:=(fun h=>f8i (f:=(V.int .u8)) (Q:=(fun n=>(Lit.int .u8 n).wf=true)) h (fun h=>f3d h)) (f2b ha3);obtain ⟨c2,rfl,wc2⟩:=(fun h=>f8i (f:=(V.int .u8)) (Q:=(fun n=>(Lit.int .u8 n).wf=true)) h (fun h=>f3d h)) (f2b ha7);exact c2w c1 c2 (f8p wc1.2) (f8p wc2.2) (ql7 wc1.1 d35) (ql7 wc2.1 d35)
set_option maxRecDepth 100000 in
theorem c2x (os:Os) (started:os.Started) (H:Type) (enc:TypeId×Value→H) :
    ReturnsInHanded {} Tryz.checked os 3 .any (Rows.fnControlRoomSpec.pre6 enc Tryz.prog Tryz.f3 Rows.fnControlRoomRow.domain false) (Rows.fnControlRoomSpec.post enc Tryz.prog Tryz.f3 false true false false):=by
  refine returnsInHanded_of_change (C:=Tryz.checked) Tryz.own started (by kernel_rfl) Tryz.func3
    (ChangeSpec.witness6 (enc:=enc) (C:=Tryz.checked) false ⟨#[],#[.slice none 0 0,.slice none 0 0],[]⟩ 8 (by kernel_rfl) (by kernel_rfl) (by kernel_rfl) (by kernel_rfl)) ?_
  intro _ _ _ ds _ _ hval hW _ _;refine d5b (P:=Tryz.prog) (fn:=Tryz.f3) (s:=Rows.fnControlRoomSpec) 8 [(false,[.sl false [.int .u8]]),(false,[.sl false [.int .u8]])] Tryz.laidOut ?_ (by rfl) rfl Tryz.underlying4 rfl ?_ f7t (pre:=fun _=>True) (fun _ _=>f5q (by kernel_rfl) (by kernel_rfl) (by kernel_rfl)) trivial hval hW
  · intro t ht
    have key:(Tryz.f3.params.toList.all fun t=>Tryz.prog.readableRec t && decide (t < Tryz.prog.types.size))=true:=by kernel_rfl
    simpa using qlk.1 key t ht
  · intro ds h
    match ds,h with
    | [d0,d1],_=>rfl
theorem fnControlRoom_holds:Rows.FnControlRoomSaid:=
  OpenClaim.holds_of_wide 3 Tryz.f3 rfl rfl rfl rfl rfl rfl rfl ⟨rfl,rfl,rfl,rfl,rfl⟩ rfl rfl rfl rfl rfl (by kernel_rfl) Tryz.func3 (by kernel_rfl)
    (of_decide_eq_true (by kernel_rfl)) (by unfold Func.isWrapper;first | (rw [if_pos (by decide +kernel)];kernel_rfl) | (rw [if_neg (by decide +kernel)];exact ⟨rfl,rfl⟩))
    (fun os started H enc _=>c2x os started H enc)
end Go.Proofs.YtmbbjhopngejaaaGreat
