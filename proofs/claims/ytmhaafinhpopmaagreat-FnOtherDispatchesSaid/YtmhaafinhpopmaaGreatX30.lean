/- What functions compute. No condition. -/
import Derived.Test.YtmhaafinhpopmaaGreatX17
set_option linter.unusedSimpArgs false
set_option linter.unusedVariables false
set_option linter.defProp false
namespace Go.Proofs.YtmhaafinhpopmaaGreat
open Go Go.Vm
set_option maxHeartbeats 8000000
set_option maxRecDepth 8000 in
theorem namesOf_con (code:List Int) (a s:Int) (fl:List TA) (hfl:fl.length≤13) (hcode:∀x∈code,0≤x∧x≤255) (hcl:code.length≤9223372036854775807) (ha:0≤a∧a < 16000000000):ConX Tryz.prog 50 [.ptr 0 0 0,.sl (fl.map (fun t:TA=>V.agg [V.str t.1,V.int .i64 t.2.1,V.int .i64 t.2.2.1,V.int .i64 t.2.2.2.1,V.int .i64 t.2.2.2.2]))] [.box (.agg [.sl (code.map (V.int .u8)),.int .i64 a,.int .u64 s]) .shal] (fun r O'=>∃(l:List ByteArray) (a' s':Int),(l.length≤14)∧(a≤a'∧a'≤a+60)∧r=.ref 1∧O'=[.box (.agg [.sl (code.map (V.int .u8)),.int .i64 a',.int .u64 s']) .shal,.arr (l.map V.str) .flat]):=by
 refine v_conX [.tmp 4] [(55,[0,1]),(23,[0]),(22,[0]),(81,[0,1])] Tryz.func50 rfl rfl rfl (by simp [Tryz.ntmps50]) ?_;intro Q0 n0 r0;simp only [Tryz.ntmps50,envFrom,Nat.reduceAdd];have T:=Tys.mk (ai Ty.t3 (ai Ty.t4 (ai Ty.t5 (ai Ty.t9 (ai Ty.t22 (ai Ty.t27 (ai Ty.t38 (ai Ty.t47 (ai Ty.t48 (ai Ty.t50 Ty.t72))))))))));have F:=Fc.mk True.intro;refine yR [0,1] ⟨?_⟩;refine yR [0,1,5] ⟨?_⟩;refine v_seq ?_;intros;refine yR [0,5,8,9,10] ⟨?_⟩;refine v_block ?_;intros;refine v_loop (fun p=>⟨[(0,.ptr 0 0 0),(5,.ref 1),(8,.sl (fl.map (fun t:TA=>V.agg [V.str t.1,V.int .i64 t.2.1,V.int .i64 t.2.2.1,V.int .i64 t.2.2.2.1,V.int .i64 t.2.2.2.2]))),(9,.int .i64 fl.length),(10,.int .i64 (Nat.cast p.1))],[.box (.agg [.sl (code.map (V.int .u8)),.int .i64 p.2.2.1,.int .u64 p.2.2.2]) .shal,.arr (p.2.1.map V.str) .flat],false,35,0⟩) (fun p=>p.1≤fl.length∧p.2.1.length≤p.1∧a≤p.2.2.1∧p.2.2.1≤a+2 * (p.1:Int)) (fun p=>fl.length - p.1) ((0,[],a,s):Nat×List ByteArray×Int×Int) ?_ ?_ ?_
 ·refine weak_both [0,5,8,9,10] [0,2] (by decide) (by simp) ?_ ?_ ?_
  ·simp [keep_mk,keepE_nil,keepE_cons,look_cons,V.only,V.onlyL,idx]<;>(first | rfl | decide)
  ·simp [Blk.kindIs,fillK_mix,thK_mix]
  simp only [keep_mk,keepE_nil,keepE_cons,look_cons,look_nil,Nat.reduceEqDiff,reduceIte,St.comp,List.map_cons,List.map_nil,V.ren,V.renL,idx,List.getD_cons_zero,List.getD_cons_succ,Nat.reduceBEq,cond_true,cond_false,Option.map_some,Option.getD_some,Nat.reduceAdd,Nat.beq_eq_true_eq];all_goals rfl
 ·exact ⟨qlk _,qlk _,by simp⟩
 ·rintro ⟨i,acc,a1,s1⟩ hok6 Q6 n6 e6 r6;obtain ⟨hi1,hal,ha1⟩:=hok6;simp only [] at hi1 hal ha1⊢;refine yR [0,5,8,9,10,11] ⟨?_⟩;refine v_seq ?_;intros;refine v_condS _ rfl ?_ ?_
  ·intro hc0;have hlt:i < fl.length:=by omega
   obtain ⟨⟨x0,x1,x2,x3,x4⟩,hx⟩:∃x:TA,fl[i]? =some x:=⟨fl[i]'(by omega),qla (by omega)⟩;refine zn [0,5,8,9,10] ⟨?_⟩;refine v_seq ?_;intros;refine v_block ?_;intros;have F:=Fc.mk (gdm hx);refine yR [0,5,7,8,9,10] ⟨?_⟩;refine v_seqR [0,5,7,8,9,10,15] ?_;intro K13 k13;refine zMove ⟨?_⟩;refine zxl (one_con code a1 s1 (2) hcode hcl (by omega)) ⟨?_⟩;rintro _ _ ⟨v15,a15,s15,h15,k15,rfl,rfl⟩;refine zEl ⟨?_⟩;refine k13 _ ?_;refine zk ⟨?_⟩;refine v_condS _ rfl ?_ ?_
   ·intro hc1;refine yQ [0,5,8,9,10] ⟨?_⟩;refine yV ⟨?_⟩;refine n6 _ (i+1,acc++[x0],a15,s15) ?_ ?_ ?_
    ·refine weak_bothS [0,5,8,9,10] [0,4] ⟨?_⟩;rw [ql1];rfl
    ·exact ⟨hlt,by show (acc++[x0]).length≤i+1;simp;omega,by show a≤a15∧a15≤a+2 * ((i+1:Nat):Int);omega⟩
    ·show _ < _;show fl.length - (i+1) < fl.length - i;omega
   ·intro hc1;refine zn [0,5,8,9,10] ⟨?_⟩;refine yV ⟨?_⟩;refine n6 _ (i+1,acc,a15,s15) ?_ ?_ ?_
    ·refine weak_both [0,5,8,9,10] [0,1] (by decide) (by simp) ?_ ?_ ?_
     ·simp [keep_mk,keepE_nil,keepE_cons,look_cons,V.only,V.onlyL,idx]<;>(first | rfl | decide)
     ·simp [Blk.kindIs,fillK_mix,thK_mix]
     simp only [keep_mk,keepE_nil,keepE_cons,look_cons,look_nil,Nat.reduceEqDiff,reduceIte,St.comp,List.map_cons,List.map_nil,V.ren,V.renL,idx,List.getD_cons_zero,List.getD_cons_succ,Nat.reduceBEq,cond_true,cond_false,Option.map_some,Option.getD_some,Nat.reduceAdd,Nat.beq_eq_true_eq];all_goals rfl
    ·exact ⟨hlt,by show acc.length≤i+1;omega,by show a≤a15∧a15≤a+2 * ((i+1:Nat):Int);omega⟩
    ·show _ < _;show fl.length - (i+1) < fl.length - i;omega
  ·intro hc0;refine zn [0,5] ⟨?_⟩;refine v_seq ?_;intros;refine v_seqR [0,5,23] ?_;intro K19 k19;refine zMove ⟨?_⟩;refine zxl (pick_con code a1 s1 (16) hcode hcl (by omega)) ⟨?_⟩;rintro _ _ ⟨v23,a23,s23,h23,k23,rfl,rfl⟩;refine zEl ⟨?_⟩;refine k19 _ ?_;refine zk ⟨?_⟩;refine v_block ?_;intros;refine yR [0,5,23,24] ⟨?_⟩;refine v_condS _ rfl ?_ ?_
   ·intro hc2;refine v_seqR [4] ?_;intro K23 k23;refine zq2 ⟨?_⟩;refine zBuildSlice ⟨?_⟩;refine zxt (of_con code a23 s23 [(⟨#[122,122]⟩:ByteArray),(⟨#[97]⟩:ByteArray),.empty] (by simp) hcode hcl (by omega)) ⟨?_⟩;rintro _ _ ⟨v29,a29,s29,h29,k29,rfl,rfl⟩;refine zEt ⟨?_⟩;refine zBuildSlice ⟨?_⟩;refine zAppend ⟨?_⟩;refine zAssign ⟨?_⟩;refine k23 _ ?_;refine zq1 ⟨?_⟩;refine ret_viewX ?_;exact ⟨acc++[v29],a29,s29,by simp;omega,by omega,rfl,by rw [ql1];rfl⟩
   ·intro hc2;refine yR [5,32] ⟨?_⟩;refine v_condS _ rfl ?_ ?_
    ·intro hc3;refine yR [4] ⟨?_⟩;refine zr ⟨?_⟩;refine ret_viewX ?_;exact ⟨[],_,_,by simp,by omega,rfl,rfl⟩
    ·intro hc3;refine zn [5] ⟨?_⟩;refine yR [4] ⟨?_⟩;refine zr ⟨?_⟩;refine ret_viewX ?_;exact ⟨acc,_,_,by omega,by omega,rfl,rfl⟩
end Go.Proofs.YtmhaafinhpopmaaGreat
