/- What functions compute. No condition. -/
import Derived.Test.YtmhaafinhpopmaaGreatX1
set_option linter.unusedSimpArgs false
set_option linter.unusedVariables false
set_option linter.defProp false
namespace Go.Proofs.YtmhaafinhpopmaaGreat
open Go Go.Vm
set_option maxHeartbeats 8000000
theorem l1All_con (l:List Int) (lo hi:Int) (hl:l.length≤1048576):Con Tryz.prog 69 [.sl (l.map (V.int .i64)),.int .i64 lo,.int .i64 hi] [] (.bool (l.all (fun x=>inR x lo hi))) []:=by
 refine v_con [.tmp 6] [] Tryz.func69 rfl rfl rfl (by simp [Tryz.ntmps69]) ?_;intro Q0 n0 r0;simp only [Tryz.ntmps69,envFrom,Nat.reduceAdd];have T:=Tys.mk (ai Ty.t3 (ai Ty.t4 Ty.t28));have F:=Fc.mk True.intro;refine yR [0,1,2] ⟨?_⟩;refine v_seq ?_;intros;refine yR [1,2,9,10,11] ⟨?_⟩;refine v_block ?_;intros;refine v_loop (fun i=>⟨[(1,.int .i64 lo),(2,.int .i64 hi),(9,.sl (l.map (V.int .i64))),(10,.int .i64 l.length),(11,.int .i64 (Nat.cast i))],[],false,21,0⟩) (fun i=>i≤l.length∧l.all (fun x=>inR x lo hi)=(l.drop i).all (fun x=>inR x lo hi)) (fun i=>l.length - i) 0 ?_ ?_ ?_
 ·refine weak_of [1,2,9,10,11] ?_;simp only [keep_mk,keepE_nil,keepE_cons,look_cons,look_nil,Nat.reduceEqDiff,reduceIte];rfl
 ·exact ⟨qlk _,by simp⟩
 ·rintro i hok5 Q5 n5 e5 r5;obtain ⟨hi1,hR⟩:=hok5;refine yR [1,2,9,10,11,12] ⟨?_⟩;refine v_seq ?_;intros;refine v_condS _ rfl ?_ ?_
  ·intro hc0;have hlt:i < l.length:=by omega
   obtain ⟨x,hx⟩:∃x,l[i]? =some x:=⟨l[i],qla hlt⟩;have hst:=all_drop (f:=(fun x=>inR x lo hi)) hx;refine zn [1,2,9,10,11] ⟨?_⟩;refine v_seq ?_;intros;refine v_block ?_;intros;have F:=Fc.mk (gdm hx);refine yR [1,2,8,9,10,11] ⟨?_⟩;refine yRc [1,2,9,10,11,19] (l1In_con _ _ _) ⟨?_⟩;refine v_condS _ rfl ?_ ?_
   ·intro hc1;have hb:inR x lo hi=false:=by cases hq:inR x lo hi with | false=>rfl | true=>(exfalso;simp [inR] at hq;have:=hc1 hq.1;omega)
    refine yR [6] ⟨?_⟩;refine zr ⟨?_⟩;exact ret_pure rfl (by rw [hR,hst,hb];rfl) (.inl rfl)
   ·intro hc1;have hb:inR x lo hi=true:=by rw [inR,decide_eq_true hc1.1,decide_eq_true hc1.2];rfl
    refine zn [1,2,9,10,11] ⟨?_⟩;refine yV ⟨?_⟩;refine n5 _ (i+1) ?_ ?_ ?_
    ·refine weak_of [1,2,9,10,11] ?_;simp only [keep_mk,keepE_nil,keepE_cons,look_cons,look_nil,Nat.reduceEqDiff,reduceIte];rfl
    ·exact ⟨by omega,by rw [hR,hst,hb];simp⟩
    ·show _ < _;omega
  ·intro hc0;refine zn [] ⟨?_⟩;refine yR [6] ⟨?_⟩;refine zr ⟨?_⟩;exact ret_pure rfl (by rw [hR,qlt (by omega)];rfl) (.inl rfl)
end Go.Proofs.YtmhaafinhpopmaaGreat
