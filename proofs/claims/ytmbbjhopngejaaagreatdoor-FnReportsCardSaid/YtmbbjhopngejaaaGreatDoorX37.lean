/- What functions compute. No condition. -/
import Derived.Test.YtmbbjhopngejaaaGreatDoorX1
set_option linter.unusedSimpArgs false
set_option linter.unusedVariables false
set_option linter.defProp false
namespace Go.Proofs.YtmbbjhopngejaaaGreatDoor
open Go Go.Vm
set_option maxHeartbeats 8000000
theorem f67 (l:List Int) (x:Int) (hl:l.length≤1048576):Con Tryz.prog 10 [.sl (l.map (V.int .i64)),.int .i64 x] [] (.bool (decide (x∈l))) []:=by
 refine zcn [.tmp 4] [] Tryz.func10 Tryz.ntmps10 ⟨?_⟩;intro Q0 n0 r0;have T:=tq2 Ty.t3 Ty.t35;have F:=Fc.mk True.intro;refine yR [0,1] ⟨?_⟩;refine b0e ?_;intros;refine yR [1,7,8,9] ⟨?_⟩;refine b0i ?_;intros;refine b08 (fun i=>⟨[(1,.int .i64 x),(7,.sl (l.map (V.int .i64))),(8,.int .i64 l.length),(9,.int .i64 (Nat.cast i))],[],false,17,0⟩) (fun i=>i≤l.length∧(x∈l.drop i↔x∈l)) (fun i=>l.length - i) 0 ?_ ?_ ?_
 ·refine b2a [1,7,8,9] ?_;simp only [b02,b0n,b0l,b0j,b0u,Nat.reduceEqDiff,reduceIte];rfl
 ·exact ⟨qle _,Iff.rfl⟩
 ·rintro i hok5 Q5 n5 e5 r5;obtain ⟨hi1,hR⟩:=hok5;refine yR [1,7,8,9,10] ⟨?_⟩;refine b0e ?_;intros;refine b0a _ rfl ?_ ?_
  ·intro hc0;have hlt:i < l.length:=by omega
   obtain ⟨y,hy⟩:∃y,l[i]? =some y:=⟨l[i],qla hlt⟩;have hst:x∈l.drop i↔(x=y∨x∈l.drop (i+1)):=by rw [b1h hy,qlt]
   refine zn [1,7,8,9] ⟨?_⟩;refine b0e ?_;intros;refine b0i ?_;intros;have F:=Fc.mk (gdm hy);refine yR [1,6,7,8,9] ⟨?_⟩;refine yR [1,7,8,9,15] ⟨?_⟩;refine b0a _ rfl ?_ ?_
   ·intro hc1;refine yR [4] ⟨?_⟩;refine zr ⟨?_⟩;exact b0g rfl (by rw [decide_eq_true (hR.1 (hst.2 (.inl hc1.symm)))]) (.inl rfl)
   ·intro hc1;refine zn [1,7,8,9] ⟨?_⟩;refine yV ⟨?_⟩;refine n5 _ (i+1) ?_ ?_ ?_
    ·refine b2a [1,7,8,9] ?_;simp only [b02,b0n,b0l,b0j,b0u,Nat.reduceEqDiff,reduceIte];rfl
    ·exact ⟨by omega,hR.symm.trans (hst.trans ⟨fun h=>h.elim (fun q=>absurd q.symm hc1) id,.inr⟩) |>.symm⟩
    ·show _ < _;omega
  ·intro hc0;refine zn [] ⟨?_⟩;refine yR [4] ⟨?_⟩;refine zr ⟨?_⟩;exact b0g rfl (by rw [decide_eq_false (fun h=>by have:=hR.2 h;rw [ql5 (by omega)] at this;cases this)]) (.inl rfl)
end Go.Proofs.YtmbbjhopngejaaaGreatDoor
