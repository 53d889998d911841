/- What functions compute. No condition. -/
import Derived.Test.YtmhaafinhpopmaaGreatDoorX5
import Derived.Test.YtmhaafinhpopmaaGreatDoorX7
import Derived.Test.YtmhaafinhpopmaaGreatDoorX8
set_option linter.unusedSimpArgs false
set_option linter.unusedVariables false
set_option linter.defProp false
namespace Go.Proofs.YtmhaafinhpopmaaGreatDoor
open Go Go.Vm
set_option maxHeartbeats 8000000
theorem ap_kind {x:TA} (h:apOK x=true):0≤x.2.1∧x.2.1≤3∧0≤x.2.2.1∧x.2.2.1≤13:=by
  simp only [apOK,Bool.and_eq_true,decide_eq_true_eq] at h;omega
theorem indexFuncAppliance_con (l:List TA) (g:Nat) (caps:List V) (p:TA→Bool) (hl:l.length≤1048576) (hc:Caps caps) (hg:∀x0 x1 x2 x3 x4,(x0,x1,x2,x3,x4)∈l→Con Tryz.prog g (V.agg [V.str x0,V.int .i64 x1,V.int .i64 x2,V.int .i64 x3,V.int .i64 x4]::caps) [] (.bool (p (x0,x1,x2,x3,x4))) []):Con Tryz.prog 185 [.sl (l.map (fun t:TA=>V.agg [V.str t.1,V.int .i64 t.2.1,V.int .i64 t.2.2.1,V.int .i64 t.2.2.2.1,V.int .i64 t.2.2.2.2])),.fn g caps] [] (.int .i64 (firstP p 0 l)) []:=by
 refine v_con [.tmp 4] [] Tryz.func185 rfl rfl rfl (by simp [Tryz.ntmps185]) ?_;intro Q0 n0 r0;simp only [Tryz.ntmps185,envFrom,Nat.reduceAdd];have T:=Tys.mk (ai Ty.t3 (ai Ty.t4 (ai Ty.t9 (ai Ty.t63 Ty.t156))));have F:=Fc.mk True.intro;refine yR [0,1] ⟨?_⟩;refine v_seq ?_;intros;refine yR [0,1,7,8] ⟨?_⟩;refine v_block ?_;intro Q4 n4 x4 e4 r4;refine v_loop (fun i=>⟨[(0,.sl (l.map (fun t:TA=>V.agg [V.str t.1,V.int .i64 t.2.1,V.int .i64 t.2.2.1,V.int .i64 t.2.2.2.1,V.int .i64 t.2.2.2.2]))),(1,.fn g caps),(7,.int .i64 l.length),(8,.int .i64 (Nat.cast i))],[],false,19,0⟩) (fun i=>i≤l.length∧firstP p i (l.drop i)=firstP p 0 l) (fun i=>l.length - i) 0 ?_ ?_ ?_
 ·refine weak_of [0,1,7,8] ?_;simp only [keep_mk,keepE_nil,keepE_cons,look_cons,look_nil,Nat.reduceEqDiff,reduceIte];rfl
 ·exact ⟨qld _,rfl⟩
 ·rintro i hok5 Q5 n5 e5 r5;obtain ⟨hi1,hR⟩:=hok5;refine yR [0,1,7,8,9] ⟨?_⟩;refine v_seq ?_;intros;refine v_condS _ rfl ?_ ?_
  ·intro hc0;have hlt:i < l.length:=by omega
   obtain ⟨⟨x0,x1,x2,x3,x4⟩,hx⟩:∃x:TA,l[i]? =some x:=⟨l[i]'(by omega),qla (by omega)⟩;have hst:=first_step (p:=p) hx;refine zn [0,1,7,8] ⟨?_⟩;refine v_seq ?_;intros;refine v_block ?_;intros;have F:=Fc.mk (gdm hx);refine yR [0,1,5,7,8] ⟨?_⟩;refine v_seqR [0,1,5,7,8,16] ?_;intro K12 k12;refine zq4 ⟨?_⟩;refine zMove ⟨?_⟩;refine zIndexAddr ⟨?_⟩;refine zLoad ⟨?_⟩;refine zcc (hg x0 x1 x2 x3 x4 (qlb hx)) ⟨?_⟩;refine k12 _ ?_;refine zk ⟨?_⟩;refine v_condS _ rfl ?_ ?_
   ·intro hc1;refine yR [4] ⟨?_⟩;refine zr ⟨?_⟩;exact ret_pure rfl (by rw [←hR,hst,if_pos hc1]) (.inl rfl)
   ·intro hc1;refine zn [0,1,7,8] ⟨?_⟩;refine yV ⟨?_⟩;refine n5 _ (i+1) ?_ ?_ ?_
    ·refine weak_bothC [0,1,7,8] [] ⟨?_⟩;rfl
    ·exact ⟨by omega,by rw [←hR,hst,if_neg (by simp [hc1])]⟩
    ·show _ < _;omega
  ·intro hc0;refine zn [] ⟨?_⟩;refine yR [4] ⟨?_⟩;refine zr ⟨?_⟩;exact ret_pure rfl (by rw [←hR,first_end (by omega)]) (.inl rfl)
theorem containsFuncAppliance_con (l:List TA) (g:Nat) (caps:List V) (p:TA→Bool) (hl:l.length≤1048576) (hc:Caps caps) (hg:∀x0 x1 x2 x3 x4,(x0,x1,x2,x3,x4)∈l→Con Tryz.prog g (V.agg [V.str x0,V.int .i64 x1,V.int .i64 x2,V.int .i64 x3,V.int .i64 x4]::caps) [] (.bool (p (x0,x1,x2,x3,x4))) []):Con Tryz.prog 182 [.sl (l.map (fun t:TA=>V.agg [V.str t.1,V.int .i64 t.2.1,V.int .i64 t.2.2.1,V.int .i64 t.2.2.2.1,V.int .i64 t.2.2.2.2])),.fn g caps] [] (.bool (l.any p)) []:=by
 refine v_con [.tmp 4] [] Tryz.func182 rfl rfl rfl (by simp [Tryz.ntmps182]) ?_;intro Q0 n0 r0;simp only [Tryz.ntmps182,envFrom,Nat.reduceAdd];have T:=Tys.mk (ai Ty.t3 (ai Ty.t9 (ai Ty.t63 (ai Ty.t156 Ty.t173))));have F:=Fc.mk True.intro;refine yR [0,1] ⟨?_⟩;refine v_seqR [4] ?_;intro K2 k2;refine zq4 ⟨?_⟩;refine zcc (indexFuncAppliance_con l g caps p hl hc hg) ⟨?_⟩;refine zBinOp ⟨?_⟩;refine zAssign ⟨?_⟩;refine k2 _ ?_;refine zk ⟨?_⟩;refine zr ⟨?_⟩;exact ret_pure rfl (by rw [first_any]) (.inl rfl)
theorem cloneAppliance_con (l:List TA) (hl:l.length≤1048576):Con Tryz.prog 147 [.sl (l.map (fun t:TA=>V.agg [V.str t.1,V.int .i64 t.2.1,V.int .i64 t.2.2.1,V.int .i64 t.2.2.2.1,V.int .i64 t.2.2.2.2]))] [] (.ref 0) [.arr (l.map (fun t:TA=>V.agg [V.str t.1,V.int .i64 t.2.1,V.int .i64 t.2.2.1,V.int .i64 t.2.2.2.1,V.int .i64 t.2.2.2.2])) .flat]:=by
 have hns:(l.map (fun t:TA=>V.agg [V.str t.1,V.int .i64 t.2.1,V.int .i64 t.2.2.1,V.int .i64 t.2.2.2.1,V.int .i64 t.2.2.2.2])).all V.noSl=true:=by rw [List.all_map,qls];intro a _;rfl
 refine v_con [.tmp 2] [] Tryz.func147 rfl rfl rfl (by simp [Tryz.ntmps147]) ?_;intro Q0 n0 r0;simp only [Tryz.ntmps147,envFrom,Nat.reduceAdd];have T:=Tys.mk (ai Ty.t3 (ai Ty.t9 (ai Ty.t63 Ty.t156)));have F:=Fc.mk True.intro;have F:=Fc.mk hns;refine yR [0] ⟨?_⟩;refine v_seq ?_;intros;refine v_seqR [0,4] ?_;intro K3 k3;refine zMove ⟨?_⟩;refine zNil ⟨?_⟩;intro nb4 hnb4;refine k3 _ ?_;refine zk ⟨?_⟩;refine v_condS _ rfl ?_ ?_
 ·intro hc0;have hnil:l=[]:=by cases l with | nil=>rfl | cons a b=>have:=hnb4 (by simp);rw [hc0] at this;cases this
  refine yR [2] ⟨?_⟩;refine zr ⟨?_⟩;rw [hnil];exact ret_refK rfl rfl rfl
 ·intro hc0;refine zn [0] ⟨?_⟩;refine yR [2] ⟨?_⟩;refine zr ⟨?_⟩;exact ret_refK rfl rfl (by simp)
end Go.Proofs.YtmhaafinhpopmaaGreatDoor
