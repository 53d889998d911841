/- What functions compute. No condition. -/
import Derived.Test.YtmhaafinhpopmaaGreatDoorX30
import Derived.Test.YtmhaafinhpopmaaGreatDoorX20
import Derived.Test.YtmhaafinhpopmaaGreatDoorX17
import Derived.Test.YtmhaafinhpopmaaGreatDoorX16
import Derived.Test.YtmhaafinhpopmaaGreatDoorX18
import Derived.Test.YtmhaafinhpopmaaGreatDoorX19
import Derived.Test.YtmhaafinhpopmaaGreatDoorX28
import Derived.Test.YtmhaafinhpopmaaGreatDoorX27
set_option linter.unusedSimpArgs false
set_option linter.unusedVariables false
set_option linter.defProp false
namespace Go.Proofs.YtmhaafinhpopmaaGreatDoor
open Go Go.Vm
set_option maxHeartbeats 8000000
set_option maxRecDepth 100000 in
theorem lawFnCalls_con (c1 c2:List Int) (hc1:∀x∈c1,0≤x∧x≤255) (hc2:∀x∈c2,0≤x∧x≤255) (hn1:c1.length≤9223372036854775807) (hn2:c2.length≤9223372036854775807):Con Tryz.prog 3 [.sl (c1.map (V.int .u8)),.sl (c2.map (V.int .u8))] [] (.bool true) []:=by
 refine v_con [.tmp 4] [] Tryz.func3 rfl rfl rfl (by simp [Tryz.ntmps3]) ?_;intro Q0 n0 r0;simp only [Tryz.ntmps3,envFrom,Nat.reduceAdd];have T:=Tys.mk (ai Ty.t3 (ai Ty.t4 (ai Ty.t5 (ai Ty.t9 (ai Ty.t22 (ai Ty.t24 (ai Ty.t26 Ty.t35)))))));have F:=Fc.mk True.intro;refine yR [0,1] ⟨?_⟩;refine v_seq ?_;intros;refine yRc [0,1,55] (big_con c1 c2 hn1 hn2) ⟨?_⟩;refine v_condS _ rfl ?_ ?_
 ·intro hc0;refine yR [4] ⟨?_⟩;refine zr ⟨?_⟩;exact ret_pure rfl rfl (.inl rfl)
 ·intro hc0;refine zn [0,1] ⟨?_⟩;refine v_seqR [1,5,6] ?_;intro K6 k6;refine zMove ⟨?_⟩;refine zxn (drawAddCall_con c1 hc1 hn1) ⟨?_⟩;rintro _ _ ⟨l,m0,m1,m2,m3,m4,hll,rfl,rfl⟩;refine zEn ⟨?_⟩;have hal:=adR_len l (m0,m1,m2,m3,m4);refine zMove ⟨?_⟩;refine zExtract ⟨?_⟩;refine zExtract ⟨?_⟩;refine zAlloc ⟨?_⟩;refine zAssign ⟨?_⟩;refine zStore ⟨?_⟩;refine k6 _ ?_;refine zk ⟨?_⟩;refine yRc [1,5,6,7,8] (implAddCall_con l (by omega) m0 m1 m2 m3 m4) ⟨?_⟩;refine yRc [1,5,6,7,8,9,10] (specAddCall_con l (by omega) m0 m1 m2 m3 m4) ⟨?_⟩;refine v_seq ?_;intros;refine yRg [1,5,6,7,8,9,81] (pSameCalls_con (adR l (m0,m1,m2,m3,m4)) (by omega)) ⟨?_⟩;refine v_cond _ rfl ?_ ?_
  ·intro hc1;exfalso;simp at hc1
  ·intro hc1;try simp only [zC,reduceCtorEq] at hc1
   skip;refine zn [1,5,6,7,8,9] ⟨?_⟩;refine v_join (A:=Unit) (fun u0=>⟨[(1,.sl (c2.map (V.int .u8)))],[],false,318,0⟩) (fun u0=>True) ?_ ?_
   ·intro Q12 n12 e12 r12;refine yR [1,5,6,7,9,82] ⟨?_⟩;refine v_condS _ rfl ?_ ?_
    ·intro hc2;have hB:(adB l (m0,m1,m2,m3,m4))=true:=hc2;have hRa:(adR l (m0,m1,m2,m3,m4))=(addL l (m0,m1,m2,m3,m4)):=adR_yes hB;rw [hRa];have hgd:=add_good hB;have hln:=addL_len l (m0,m1,m2,m3,m4);have hmm:=addL_mem l (m0,m1,m2,m3,m4);have hq20:=cs_len hgd;refine yR [1,5,6,7,9,11] ⟨?_⟩;refine v_seq ?_;intros;refine yR [1,5,6,7,9,11,83,84,85] ⟨?_⟩;refine v_block ?_;intros;refine v_loop (fun q=>⟨[(1,.sl (c2.map (V.int .u8))),(5,.ref 0),(6,.ptr 1 0 0),(7,.ref 2),(9,.ref 3),(11,.bool q.2),(83,.ref 3),(84,.int .i64 (addL l (m0,m1,m2,m3,m4)).length),(85,.int .i64 (Nat.cast q.1))],[.arr (l.map (fun t:Int×Int×Int×Int×Int=>V.agg [V.int .i64 t.1,V.int .i64 t.2.1,V.int .i64 t.2.2.1,V.int .i64 t.2.2.2.1,V.int .i64 t.2.2.2.2])) .flat,.box (.agg [V.int .i64 m0,V.int .i64 m1,V.int .i64 m2,V.int .i64 m3,V.int .i64 m4]) .flat,.arr ((addL l (m0,m1,m2,m3,m4)).map (fun t:Int×Int×Int×Int×Int=>V.agg [V.int .i64 t.1,V.int .i64 t.2.1,V.int .i64 t.2.2.1,V.int .i64 t.2.2.2.1,V.int .i64 t.2.2.2.2])) .flat,.arr ((addL l (m0,m1,m2,m3,m4)).map (fun t:Int×Int×Int×Int×Int=>V.agg [V.int .i64 t.1,V.int .i64 t.2.1,V.int .i64 t.2.2.1,V.int .i64 t.2.2.2.1,V.int .i64 t.2.2.2.2])) .flat],false,318,0⟩) (fun q=>q.1≤(addL l (m0,m1,m2,m3,m4)).length∧q.2=decide ((m0,m1,m2,m3,m4)∈(addL l (m0,m1,m2,m3,m4)).take q.1)) (fun q=>(addL l (m0,m1,m2,m3,m4)).length - q.1) ((0,false):Nat×Bool) ?_ ?_ ?_
     ·refine weak_bothS [1,5,6,7,9,11,83,84,85] [0,1,2,3] ⟨?_⟩;rfl
     ·exact ⟨qlo _,by simp⟩
     ·rintro ⟨i,b⟩ hok19 Q19 n19 e19 r19;obtain ⟨hi1,hfo⟩:=hok19;simp only [] at hi1 hfo⊢;refine yR [1,5,6,7,9,11,83,84,85,86] ⟨?_⟩;refine v_seq ?_;intros;refine v_condS _ rfl ?_ ?_
      ·intro hc3;have hlt:i < (addL l (m0,m1,m2,m3,m4)).length:=by omega
       obtain ⟨⟨x0,x1,x2,x3,x4⟩,hx⟩:∃x:Int×Int×Int×Int×Int,(addL l (m0,m1,m2,m3,m4))[i]? =some x:=⟨(addL l (m0,m1,m2,m3,m4))[i]'(by omega),qla (by omega)⟩;have hth:=take_has (c:=(m0,m1,m2,m3,m4)) hx;have hce:=cells_call (x0,x1,x2,x3,x4) (m0,m1,m2,m3,m4);dsimp only at hce;rcases Bool.eq_false_or_eq_true b with hb | hb
       ·skip;subst hb;refine zn [1,5,6,7,9,11,83,84,85] ⟨?_⟩;refine v_seq ?_;intros;refine v_block ?_;intros;have F:=Fc.mk (gdm hx);refine yR [1,5,6,7,9,11,13,83,84,85] ⟨?_⟩;refine yQ [1,5,6,7,9,11,83,84,85] ⟨?_⟩;refine yV ⟨?_⟩;refine n19 _ (i+1,true) ?_ ?_ ?_
        ·refine weak_bothS [1,5,6,7,9,11,83,84,85] [0,1,2,3] ⟨?_⟩;rfl
        ·exact ⟨hlt,by show true=_;rw [hth,←hfo];rfl⟩
        ·show _ < _;show (addL l (m0,m1,m2,m3,m4)).length - (i+1) < (addL l (m0,m1,m2,m3,m4)).length - i;omega
       ·skip;subst hb;refine zn [1,5,6,7,9,11,83,84,85] ⟨?_⟩;refine v_seq ?_;intros;refine v_block ?_;intros;have F:=Fc.mk (gdm hx);refine yR [1,5,6,7,9,11,13,83,84,85] ⟨?_⟩;refine yQ [1,5,6,7,9,11,83,84,85] ⟨?_⟩;refine yV ⟨?_⟩;refine n19 _ (i+1,cellsEq [.int .i64 x0,.int .i64 x1,.int .i64 x2,.int .i64 x3,.int .i64 x4] [.int .i64 m0,.int .i64 m1,.int .i64 m2,.int .i64 m3,.int .i64 m4]) ?_ ?_ ?_
        ·refine weak_bothS [1,5,6,7,9,11,83,84,85] [0,1,2,3] ⟨?_⟩;rfl
        ·exact ⟨hlt,by show cellsEq _ _=_;rw [hth,←hfo,hce];rfl⟩
        ·show _ < _;show (addL l (m0,m1,m2,m3,m4)).length - (i+1) < (addL l (m0,m1,m2,m3,m4)).length - i;omega
      ·intro hc3;have hie:(addL l (m0,m1,m2,m3,m4)).take i=(addL l (m0,m1,m2,m3,m4)):=List.take_of_length_le (by omega);rw [hie,decide_eq_true hmm] at hfo;subst hfo;refine zn [1,5,7,9,11] ⟨?_⟩;have F:=Fc.mk (ai hgd hln);refine yRc [1,110] (implAreCalls_con (addL l (m0,m1,m2,m3,m4)) (by omega)) ⟨?_⟩;refine v_cond _ rfl ?_ ?_
       ·intro hc4;exfalso;simp [hgd,hln] at hc4
       ·intro hc4;try simp only [zC,reduceCtorEq] at hc4
        refine v_skip ?_;refine n12 () _ ?_ ?_
        ·trivial
        ·refine weak_both [1] [] (by decide) (by simp) ?_ ?_ ?_
         ·simp [keep_mk,keepE_nil,keepE_cons,look_cons,V.only,V.onlyL,idx]<;>(first | rfl | decide)
         ·simp [Blk.kindIs,fillK_mix,thK_mix]
         simp only [keep_mk,keepE_nil,keepE_cons,look_cons,look_nil,Nat.reduceEqDiff,reduceIte,St.comp,List.map_cons,List.map_nil,V.ren,V.renL,idx,List.getD_cons_zero,List.getD_cons_succ,Nat.reduceBEq,cond_true,cond_false,Option.map_some,Option.getD_some,Nat.reduceAdd,Nat.beq_eq_true_eq];all_goals rfl
    ·intro hc2;refine v_skip ?_;refine n12 () _ ?_ ?_
     ·trivial
     ·refine weak_both [1] [] (by decide) (by simp) ?_ ?_ ?_
      ·simp [keep_mk,keepE_nil,keepE_cons,look_cons,V.only,V.onlyL,idx]<;>(first | rfl | decide)
      ·simp [Blk.kindIs,fillK_mix,thK_mix]
      simp only [keep_mk,keepE_nil,keepE_cons,look_cons,look_nil,Nat.reduceEqDiff,reduceIte,St.comp,List.map_cons,List.map_nil,V.ren,V.renL,idx,List.getD_cons_zero,List.getD_cons_succ,Nat.reduceBEq,cond_true,cond_false,Option.map_some,Option.getD_some,Nat.reduceAdd,Nat.beq_eq_true_eq];all_goals rfl
   ·rintro u0 hok12;have _hu:True:=hok12;refine v_seqR [1,14,15] ?_;intro K35 k35;have F:=Fc.mk True.intro;refine zMove ⟨?_⟩;refine zxn (drawRepeatedCalls_con c2 hc2 hn2) ⟨?_⟩;rintro _ _ ⟨u,wn,hul,rfl,rfl⟩;refine zEn ⟨?_⟩;have hrl0:=rpR_len u wn;refine zMove ⟨?_⟩;refine zExtract ⟨?_⟩;refine zExtract ⟨?_⟩;refine zAssign ⟨?_⟩;refine zAssign ⟨?_⟩;refine k35 _ ?_;refine zk ⟨?_⟩;refine yRc [1,14,15,16,17] (implRepeated_con u (by omega) wn) ⟨?_⟩;refine yRc [1,14,15,16,17,18,19] (specRepeated_con u (by omega) wn) ⟨?_⟩;refine v_seq ?_;intros;refine yRg [1,14,15,17,18,136] (sameInts_con (rpR u wn) (by omega)) ⟨?_⟩;refine v_cond _ rfl ?_ ?_
    ·intro hc5;exfalso;simp at hc5
    ·intro hc5;try simp only [zC,reduceCtorEq] at hc5
     refine zn [1,14,15,17,18] ⟨?_⟩;refine v_join (A:=Unit) (fun u0=>⟨[(1,.sl (c2.map (V.int .u8)))],[],false,318,0⟩) (fun u0=>True) ?_ ?_
     ·intro Q41 n41 e41 r41;refine yR [1,14,15,18,137] ⟨?_⟩;refine v_condS _ rfl ?_ ?_
      ·intro hc6;have hB:rpB u wn=true:=hc6;have hq:=hB;rw [rpB,qlc] at hq;have hea:=cs_each hq.1;have hrl:=rpR_len u wn;refine yR [1,14,15,18,138,139,140] ⟨?_⟩;refine v_block ?_;intros;refine v_loop (fun i=>⟨[(1,.sl (c2.map (V.int .u8))),(14,.ref 0),(15,.int .i64 wn),(18,.ref 1),(138,.ref 0),(139,.int .i64 u.length),(140,.int .i64 (Nat.cast i))],[.arr (u.map (fun t:Int×Int×Int×Int×Int=>V.agg [V.int .i64 t.1,V.int .i64 t.2.1,V.int .i64 t.2.2.1,V.int .i64 t.2.2.2.1,V.int .i64 t.2.2.2.2])) .flat,.arr ((rpR u wn).map (V.int .i64)) .flat],false,318,0⟩) (fun i=>i≤u.length) (fun i=>u.length - i) (0:Nat) ?_ ?_ ?_
       ·refine weak_bothS [1,14,15,18,138,139,140] [0,2] ⟨?_⟩;rfl
       ·exact qlo _
       ·rintro i hok46 Q46 n46 e46 r46;have hi1:i≤u.length:=hok46;refine yR [1,14,15,18,138,139,140,141] ⟨?_⟩;refine v_seq ?_;intros;refine v_condS _ rfl ?_ ?_
        ·intro hc7;have hlt:i < u.length:=by omega
         obtain ⟨⟨x0,x1,x2,x3,x4⟩,hx⟩:∃x:Int×Int×Int×Int×Int,u[i]? =some x:=⟨u[i]'(by omega),qla (by omega)⟩;have hxo:=c_bounds (hea _ (qlb hx));simp only [] at hxo;have hrh:=rpR_has hB hx;have htk:(u.take i).length=i:=by rw [qlk];omega
         refine zn [1,14,15,18,138,139,140] ⟨?_⟩;refine v_seq ?_;intros;refine v_block ?_;intros;have F:=Fc.mk (ai (gdm hx) htk);refine yR [1,14,15,18,20,21,138,139,140] ⟨?_⟩;refine yR [1,14,15,18,20,21,22,138,139,140] ⟨?_⟩;refine v_seq ?_;intros;refine yR [1,14,15,18,20,21,22,138,139,140,147,148,149] ⟨?_⟩;refine v_block ?_;intros;refine v_loop (fun q=>⟨[(1,.sl (c2.map (V.int .u8))),(14,.ref 0),(15,.int .i64 wn),(18,.ref 1),(20,.int .i64 (Nat.cast i)),(21,.ptr 2 0 0),(22,.bool q.2),(138,.ref 0),(139,.int .i64 u.length),(140,.int .i64 (Nat.cast i)),(147,.sub 0 0 i),(148,.int .i64 (Nat.cast i)),(149,.int .i64 (Nat.cast q.1))],[.arr (u.map (fun t:Int×Int×Int×Int×Int=>V.agg [V.int .i64 t.1,V.int .i64 t.2.1,V.int .i64 t.2.2.1,V.int .i64 t.2.2.2.1,V.int .i64 t.2.2.2.2])) .flat,.arr ((rpR u wn).map (V.int .i64)) .flat,.box (.agg [V.int .i64 x0,V.int .i64 x1,V.int .i64 x2,V.int .i64 x3,V.int .i64 x4]) .flat],false,318,0⟩) (fun q=>q.1≤i∧q.2=((u.take i).take q.1).any (befB wn (x0,x1,x2,x3,x4))) (fun q=>i - q.1) ((0,false):Nat×Bool) ?_ ?_ ?_
         ·refine weak_bothS [1,14,15,18,20,21,22,138,139,140,147,148,149] [0,1,2] ⟨?_⟩;rfl
         ·exact ⟨qlo _,rfl⟩
         ·rintro ⟨kk,b⟩ hok57 Q57 n57 e57 r57;obtain ⟨hk1,hbe⟩:=hok57;simp only [] at hk1 hbe⊢;refine yR [1,14,15,18,20,21,22,138,139,140,147,148,149,150] ⟨?_⟩;refine v_seq ?_;intros;refine v_condS _ rfl ?_ ?_
          ·intro hc8;have hltk:kk < i:=by omega
           obtain ⟨⟨y0,y1,y2,y3,y4⟩,hy⟩:∃x:Int×Int×Int×Int×Int,(u.take i)[kk]? =some x:=⟨(u.take i)[kk]'(by omega),qla (by omega)⟩;have hyo:=c_bounds (hea _ (qlv (qlb hy)));simp only [] at hyo;have hst:((u.take i).take (kk+1)).any (befB wn (x0,x1,x2,x3,x4))=(((u.take i).take kk).any (befB wn (x0,x1,x2,x3,x4)) || befB wn (x0,x1,x2,x3,x4) (y0,y1,y2,y3,y4)):=by rw [List.take_add_one,hy,List.any_append];simp
           have hbf:befB wn (x0,x1,x2,x3,x4) (y0,y1,y2,y3,y4)=(decide (y4=x4) && decide (x0 - y0≤wn)):=rfl;have hyu:u[kk]? =some (y0,y1,y2,y3,y4):=by rw [ql0 hltk] at hy;exact hy
           have hz0:0+kk=kk:=Nat.zero_add kk;rcases (show b=true∨(b=false∧y4=x4)∨(b=false∧¬y4=x4) from by cases b<;>simp [Decidable.em]) with hb | ⟨hb,hy4⟩ | ⟨hb,hy4⟩
           ·skip;subst hb;refine zn [1,14,15,18,20,21,22,138,139,140,147,148,149] ⟨?_⟩;refine v_seq ?_;intros;refine v_block ?_;intros;have F:=Fc.mk (ai (gdm hx) (ai htk (ai (gdm hyu) hz0)));refine yR [1,14,15,18,20,21,22,24,138,139,140,147,148,149] ⟨?_⟩;refine yQ [1,14,15,18,20,21,22,138,139,140,147,148,149] ⟨?_⟩;refine yV ⟨?_⟩;refine n57 _ (kk+1,true) ?_ ?_ ?_
            ·refine weak_bothS [1,14,15,18,20,21,22,138,139,140,147,148,149] [0,1,2] ⟨?_⟩;rfl
            ·exact ⟨hltk,by show true=_;rw [hst,←hbe];rfl⟩
            ·show _ < _;show i - (kk+1) < i - kk;omega
           ·skip;subst hb;refine zn [1,14,15,18,20,21,22,138,139,140,147,148,149] ⟨?_⟩;refine v_seq ?_;intros;refine v_block ?_;intros;have F:=Fc.mk (ai (gdm hx) (ai htk (ai (gdm hyu) (ai hz0 hy4))));refine yR [1,14,15,18,20,21,22,24,138,139,140,147,148,149] ⟨?_⟩;refine yQ [1,14,15,18,20,21,22,138,139,140,147,148,149] ⟨?_⟩;refine yV ⟨?_⟩;refine n57 _ (kk+1,decide (x0 - y0≤wn)) ?_ ?_ ?_
            ·refine weak_bothS [1,14,15,18,20,21,22,138,139,140,147,148,149] [0,1,2] ⟨?_⟩;rfl
            ·exact ⟨hltk,by show decide (x0 - y0≤wn)=_;rw [hst,←hbe,hbf,decide_eq_true hy4];rfl⟩
            ·show _ < _;show i - (kk+1) < i - kk;omega
           ·skip;subst hb;refine zn [1,14,15,18,20,21,22,138,139,140,147,148,149] ⟨?_⟩;refine v_seq ?_;intros;refine v_block ?_;intros;have F:=Fc.mk (ai (gdm hx) (ai htk (ai (gdm hyu) (ai hz0 hy4))));refine yR [1,14,15,18,20,21,22,24,138,139,140,147,148,149] ⟨?_⟩;refine yQ [1,14,15,18,20,21,22,138,139,140,147,148,149] ⟨?_⟩;refine yV ⟨?_⟩;refine n57 _ (kk+1,false) ?_ ?_ ?_
            ·refine weak_bothS [1,14,15,18,20,21,22,138,139,140,147,148,149] [0,1,2] ⟨?_⟩;rfl
            ·exact ⟨hltk,by show false=_;rw [hst,←hbe,hbf,decide_eq_false hy4];rfl⟩
            ·show _ < _;show i - (kk+1) < i - kk;omega
          ·intro hc8;have hke:kk=i:=by omega
           rw [hke,List.take_of_length_le (by omega)] at hbe;refine zn [1,14,15,18,20,22,138,139,140] ⟨?_⟩;refine yRc [1,14,15,18,138,139,140,175] (pIn_con (rpR u wn) (i:Int) (by omega)) ⟨?_⟩;refine v_cond _ rfl ?_ ?_
           ·intro hc9;exfalso;simp [hrh,hbe] at hc9
           ·intro hc9;try simp only [zC,reduceCtorEq] at hc9
            refine zn [1,14,15,18,138,139,140] ⟨?_⟩;refine yV ⟨?_⟩;refine n46 _ (i+1) ?_ ?_ ?_
            ·refine weak_bothS [1,14,15,18,138,139,140] [0,1] ⟨?_⟩;rfl
            ·exact hlt
            ·show _ < _;omega
        ·intro hc7;refine zx ⟨?_⟩;refine n41 () _ ?_ ?_
         ·trivial
         ·refine weak_both [1] [] (by decide) (by simp) ?_ ?_ ?_
          ·simp [keep_mk,keepE_nil,keepE_cons,look_cons,V.only,V.onlyL,idx]<;>(first | rfl | decide)
          ·simp [Blk.kindIs,fillK_mix,thK_mix]
          simp only [keep_mk,keepE_nil,keepE_cons,look_cons,look_nil,Nat.reduceEqDiff,reduceIte,St.comp,List.map_cons,List.map_nil,V.ren,V.renL,idx,List.getD_cons_zero,List.getD_cons_succ,Nat.reduceBEq,cond_true,cond_false,Option.map_some,Option.getD_some,Nat.reduceAdd,Nat.beq_eq_true_eq];all_goals rfl
      ·intro hc6;refine v_skip ?_;refine n41 () _ ?_ ?_
       ·trivial
       ·refine weak_both [1] [] (by decide) (by simp) ?_ ?_ ?_
        ·simp [keep_mk,keepE_nil,keepE_cons,look_cons,V.only,V.onlyL,idx]<;>(first | rfl | decide)
        ·simp [Blk.kindIs,fillK_mix,thK_mix]
        simp only [keep_mk,keepE_nil,keepE_cons,look_cons,look_nil,Nat.reduceEqDiff,reduceIte,St.comp,List.map_cons,List.map_nil,V.ren,V.renL,idx,List.getD_cons_zero,List.getD_cons_succ,Nat.reduceBEq,cond_true,cond_false,Option.map_some,Option.getD_some,Nat.reduceAdd,Nat.beq_eq_true_eq];all_goals rfl
     ·rintro u0 hok41;have _hu:True:=hok41;refine v_seqR [1,25,26] ?_;intro K79 k79;have F:=Fc.mk True.intro;refine zMove ⟨?_⟩;refine zxn (drawBusiestWindow_con c2 hc2 hn2) ⟨?_⟩;rintro _ _ ⟨v,n,hvl,rfl,rfl⟩;refine zEn ⟨?_⟩;refine zMove ⟨?_⟩;refine zExtract ⟨?_⟩;refine zExtract ⟨?_⟩;refine zAssign ⟨?_⟩;refine zAssign ⟨?_⟩;refine k79 _ ?_;refine zk ⟨?_⟩;refine yRc [1,25,26,27,28,29] (implBusiest_con v (by omega) n) ⟨?_⟩;refine yRc [1,25,27,28,29,30,31,32] (specBusiest_con v (by omega) n) ⟨?_⟩;refine v_seq ?_;intros;refine yR [1,221] ⟨?_⟩;refine v_cond _ rfl ?_ ?_
      ·intro hc10;exfalso;cases hq:bwB v n with
       |false=>simp [hq] at hc10
       |true=>(have h2:=bwV_facts hq;simp [hq] at hc10;omega)
      ·intro hc10;try simp only [zC,reduceCtorEq] at hc10
       refine zn [1] ⟨?_⟩;refine v_seqR [1,33,34] ?_;intro K85 k85;refine zMove ⟨?_⟩;refine zxn (drawDistanceOf_con c2 hc2 hn2) ⟨?_⟩;rintro _ _ ⟨p0,p1,p2,p3,p4,q0,q1,q2,q3,q4,_,rfl,rfl⟩;refine zEn ⟨?_⟩;refine zMove ⟨?_⟩;refine zExtract ⟨?_⟩;refine zExtract ⟨?_⟩;refine zAlloc ⟨?_⟩;refine zAlloc ⟨?_⟩;refine zStore ⟨?_⟩;refine zStore ⟨?_⟩;refine k85 _ ?_;refine zk ⟨?_⟩;refine yRc [1,33,34,35,36] (implDistance_con p0 p1 p2 p3 p4 q0 q1 q2 q3 q4) ⟨?_⟩;refine yRc [1,33,34,35,36,37,38] (specDistance_con p0 p1 p2 p3 p4 q0 q1 q2 q3 q4) ⟨?_⟩;refine yRc [1,35,36,37,38,39,40] (implDistance_con q0 q1 q2 q3 q4 p0 p1 p2 p3 p4) ⟨?_⟩;refine v_seq ?_;intros;refine yR [1,262] ⟨?_⟩;refine v_cond _ rfl ?_ ?_
       ·intro hc11;exfalso;simp [diV_comm,diB_comm] at hc11
       ·intro hc11;try simp only [zC,reduceCtorEq] at hc11
        refine zn [1] ⟨?_⟩;refine v_seqR [1,41] ?_;intro K92 k92;refine zMove ⟨?_⟩;refine zxn (drawCallsText_con c2 hc2 hn2) ⟨?_⟩;rintro _ _ ⟨z,hzl,rfl,rfl⟩;refine zEn ⟨?_⟩;refine zAssign ⟨?_⟩;refine k92 _ ?_;refine zk ⟨?_⟩;refine yRc [1,41,42,43] (implCallsText_con z (by omega)) ⟨?_⟩;refine yRc [1,41,42,43,44,45] (specCallsText_con z (by omega)) ⟨?_⟩;refine v_seqR [41,42,43,44,45,46] ?_;intro K95 k95;refine zMove ⟨?_⟩;refine zxn (drawParseCalls_con c2 hc2 hn2) ⟨?_⟩;rintro _ _ ⟨sv,hsv,rfl,rfl⟩;refine zEn ⟨?_⟩;have hpr:=pcR_len sv;refine zAssign ⟨?_⟩;refine k95 _ ?_;refine zk ⟨?_⟩;refine yRc [41,42,43,44,45,46,47,48] (implParse_con sv (by omega)) ⟨?_⟩;refine yRc [41,42,43,44,45,47,48,49,50] (specParse_con sv (by omega)) ⟨?_⟩;refine v_seq ?_;intros;refine yRg [41,42,43,305] (pSameCalls_con (pcR sv) (by omega)) ⟨?_⟩;refine v_cond _ rfl ?_ ?_
        ·intro hc12;exfalso;simp at hc12
        ·intro hc12;try simp only [zC,reduceCtorEq] at hc12
         refine zn [41,42,43] ⟨?_⟩;refine v_seq ?_;intros;refine yR [41,42,306] ⟨?_⟩;refine v_condS _ rfl ?_ ?_
         ·intro hc13;have hz:csB z=true:=hc13;have hpz:=pc_ctx hz;have hpz1:=hpz.1;rw [if_pos hz];have F:=Fc.mk hpz1;refine yRc [41,51,52] (implParse_con (ctx z) (by have:=ctTo_size (cs_each hz) z.length;rw [ctx];omega)) ⟨?_⟩;refine yRg [4] ((by rw [hpz.2];exact pSameCalls_con z (by omega):Con _ _ [.sl ((pcR (ctx z)).map (fun t:Int×Int×Int×Int×Int=>V.agg [V.int .i64 t.1,V.int .i64 t.2.1,V.int .i64 t.2.2.1,V.int .i64 t.2.2.2.1,V.int .i64 t.2.2.2.2])),.sl (z.map (fun t:Int×Int×Int×Int×Int=>V.agg [V.int .i64 t.1,V.int .i64 t.2.1,V.int .i64 t.2.2.1,V.int .i64 t.2.2.2.1,V.int .i64 t.2.2.2.2]))] _ _ _)) ⟨?_⟩;refine zr ⟨?_⟩;exact ret_pure rfl rfl (.inl rfl)
         ·intro hc13;refine zn [] ⟨?_⟩;refine yR [4] ⟨?_⟩;refine zr ⟨?_⟩;exact ret_pure rfl rfl (.inl rfl)
end Go.Proofs.YtmhaafinhpopmaaGreatDoor
