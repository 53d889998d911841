/- What functions compute. No condition. -/
import Derived.Test.YtaefoaghpehbpaaGreatDoorUz
import Derived.Test.YtaefoaghpehbpaaGreatDoorUty
import Derived.Test.YtaefoaghpehbpaaGreatDoorUmG
import Derived.Test.YtaefoaghpehbpaaGreatDoorX21
import Derived.Test.YtaefoaghpehbpaaGreatDoorX27
import Derived.Test.YtaefoaghpehbpaaGreatDoorX32
import Derived.Test.YtaefoaghpehbpaaGreatDoorX24
import Derived.Test.YtaefoaghpehbpaaGreatDoorX23
import Derived.Test.YtaefoaghpehbpaaGreatDoorX30
import Derived.Test.YtaefoaghpehbpaaGreatDoorX4
import Derived.Test.YtaefoaghpehbpaaGreatDoorX9
import Derived.Test.YtaefoaghpehbpaaGreatDoorX1
import Derived.Test.YtaefoaghpehbpaaGreatDoorX22
import Derived.Test.YtaefoaghpehbpaaGreatDoorX25
set_option linter.unusedSimpArgs false
set_option linter.unusedVariables false
set_option linter.defProp false
namespace Go.Proofs.YtaefoaghpehbpaaGreatDoor
open Go Go.Vm
set_option maxHeartbeats 8000000
theorem lawRunReports_con (nss:Int) (ss:List TS) (flc:List TA) (inc:List TI) (wsc:List TW) (rs:List ByteArray) (hss:ss.length≤9223372036854775807) (hfc:flc.length≤9223372036854775807) (hfsc:∀t∈flc,t.1.size≤9223372036854775807) (hic:inc.length≤9223372036854775807) (hisc:∀t∈inc,t.2.2.2.length≤9223372036854775807∧∀s∈t.2.2.2,s.size≤9223372036854775807) (hwc:wsc.length≤9223372036854775807) (hwsc:∀t∈wsc,t.2.length≤9223372036854775807) (hrs:rs.length≤9223372036854775807) (hsrs:∀s∈rs,s.size≤9223372036854775807):Con Tryz.prog 4 [.agg [.int .i64 nss,.sl (ss.map (fun t:TS=>V.agg [V.int .i64 t.1,V.int .i64 t.2.1,V.int .i64 t.2.2]))],.agg [.sl (flc.map (fun t:TA=>V.agg [V.str t.1,V.int .i64 t.2.1,V.int .i64 t.2.2.1,V.int .i64 t.2.2.2.1,V.int .i64 t.2.2.2.2])),.sl (inc.map (fun t:TI=>V.agg [V.int .i64 t.1,V.int .i64 t.2.1,V.bool t.2.2.1,V.sl (t.2.2.2.map V.str)])),.sl (wsc.map (fun t:TW=>V.agg [V.int .i64 t.1,V.sl (t.2.map (V.int .i64))]))],.sl (rs.map V.str)] [] (.bool true) []:=by
 refine v_con [.tmp 6] [(20,[0]),(21,[0]),(22,[0]),(23,[0])] Tryz.func4 rfl rfl rfl (by simp [Tryz.ntmps4]) ?_
 intro Q0 n0 r0
 simp only [Tryz.ntmps4,envFrom,Nat.reduceAdd]
 have T:=Tys.mk (ai Ty.t3 (ai Ty.t4 (ai Ty.t9 (ai Ty.t22 (ai Ty.t24 (ai Ty.t25 (ai Ty.t26 (ai Ty.t27 (ai Ty.t29 (ai Ty.t34 (ai Ty.t36 (ai Ty.t38 (ai Ty.t39 (ai Ty.t40 (ai Ty.t42 (ai Ty.t47 (ai Ty.t49 (ai Ty.t76 (ai Ty.t78 (ai Ty.t95 (ai Ty.t145 (ai Ty.t147 (ai Ty.t149 (ai Ty.t153 Ty.t155))))))))))))))))))))))))
 have F:=Fc.mk True.intro
 refine yR [2,3,4] ⟨?_⟩;refine yR [2,3,4,7] ⟨?_⟩;refine yRc [2,3,4,7] (szTown_con nss ss (1048576:Int) (⟨by omega,by omega⟩:(0:Int)≤1048576∧(1048576:Int)≤1048576) hss) ⟨?_⟩;refine v_seq ?_;intros;refine yR [2,3,4,7,27] ⟨?_⟩;refine v_condS _ rfl ?_ ?_
 ·intro hc0
  refine yR [6] ⟨?_⟩;refine zr ⟨?_⟩
  exact ret_pure rfl rfl (.inl rfl)
 ·intro hc0
  obtain ⟨bss,q1⟩:=szIf (⟨by omega,by omega⟩:(0:Int)≤1048576∧(1048576:Int)≤1048576).2 hc0
  refine zn [2,3,4,7] ⟨?_⟩;refine yRc [2,3,4,7] (szControl_con (if (1048576:Int) - (ss.length:Int) < 0 then -1 else (1048576:Int) - (ss.length:Int)) flc inc wsc q1 hfc hfsc hic hisc hwc hwsc) ⟨?_⟩;refine v_seq ?_;intros;refine yR [2,3,4,7,32] ⟨?_⟩;refine v_condS _ rfl ?_ ?_
  ·intro hc1
   refine yR [6] ⟨?_⟩;refine zr ⟨?_⟩
   exact ret_pure rfl rfl (.inl rfl)
  ·intro hc1
   obtain ⟨bfc,bic,binc,bwc,bwnc,q2⟩:=szIfC q1.1 q1.2 hc1
   have tic:=totIncident_le binc
   have twc:=totWant_le bwnc
   have pic:=totIncident_pos inc
   have pwc:=totWant_pos wsc
   refine zn [2,3,4,7] ⟨?_⟩;refine yRc [2,3,4,7] (szStringS_con (szCtl (if (1048576:Int) - (ss.length:Int) < 0 then -1 else (1048576:Int) - (ss.length:Int)) flc inc wsc) rs q2 hrs hsrs) ⟨?_⟩;refine v_seq ?_;intros;refine yR [2,3,4,37] ⟨?_⟩;refine v_condS _ rfl ?_ ?_
   ·intro hc2
    refine yR [6] ⟨?_⟩;refine zr ⟨?_⟩
    exact ret_pure rfl rfl (.inl rfl)
   ·intro hc2
    obtain ⟨brs,q3⟩:=szIfL (f:=szStr1) szStr1_le q2.1 q2.2 hc2
    have bzrs:=szStr_sz q2.1 q2.2 hc2
    obtain ⟨hT1,hT2,hT3,hT4,hT5,hT6⟩:=run_T nss ss flc inc wsc rs bwc bwnc brs
    have tr1:=totIncident_pos (orNil (runB nss ss flc inc wsc rs) (runTo flc inc rs rs.length).2.1)
    have tr2:=totWant_pos (orNil (runB nss ss flc inc wsc rs) wsc)
    have tr3:totIncident (orNil (runB nss ss flc inc wsc rs) (runTo flc inc rs rs.length).2.1)≤_:=totIncident_le hT3
    have tr4:totWant (orNil (runB nss ss flc inc wsc rs) wsc)≤_:=totWant_le hT5
    have c1:=toTown_con nss ss bss
    have c2:=toControl_con flc inc wsc bfc bic binc bwc bwnc
    have c3:=toStringS_con rs brs
    have c4:=specRun_con nss ss flc inc wsc rs brs bzrs bss bfc hfsc bic binc (fun x h=>(hisc x h).2) bwc bwnc
    have c5:=implRun_con nss ss flc inc wsc rs brs bzrs bss bfc hfsc bic binc (fun x h=>(hisc x h).2) bwc bwnc
    have c6:=eqControl_con (orNil (runB nss ss flc inc wsc rs) (runTo flc inc rs rs.length).1) (orNil (runB nss ss flc inc wsc rs) (runTo flc inc rs rs.length).2.1) (orNil (runB nss ss flc inc wsc rs) wsc) hT1 hT2 hT3 hT4 hT5
    have c7:=eqIntS_con (orNil (runB nss ss flc inc wsc rs) (runTo flc inc rs rs.length).2.2) (orNil (runB nss ss flc inc wsc rs) (runTo flc inc rs rs.length).2.2) hT6
    have c8:=eqTown_con nss ss bss
    have c9:=eqControl_con flc inc wsc bfc bic binc bwc bwnc
    have c10:=eqStringS_con rs rs brs
    have c11:=markTown_con nss ss (1) bss (by omega)
    have c12:=markControl_con flc inc wsc (1+3 * ss.length) bfc bic binc bwc bwnc (by omega)
    have c13:=markStringS_con rs (1+3 * ss.length+5 * flc.length+totIncident inc+totWant wsc) brs (by omega)
    have c14:=markControl_con (orNil (runB nss ss flc inc wsc rs) (runTo flc inc rs rs.length).1) (orNil (runB nss ss flc inc wsc rs) (runTo flc inc rs rs.length).2.1) (orNil (runB nss ss flc inc wsc rs) wsc) (1) hT1 hT2 hT3 hT4 hT5 (by omega)
    have c15:=markIntS_con (orNil (runB nss ss flc inc wsc rs) (runTo flc inc rs rs.length).2.2) (1+5 * (orNil (runB nss ss flc inc wsc rs) (runTo flc inc rs rs.length).1).length+totIncident (orNil (runB nss ss flc inc wsc rs) (runTo flc inc rs rs.length).2.1)+totWant (orNil (runB nss ss flc inc wsc rs) wsc)) hT6 (by omega)
    have c16:=heldControl_con (orNil (runB nss ss flc inc wsc rs) (runTo flc inc rs rs.length).1) (orNil (runB nss ss flc inc wsc rs) (runTo flc inc rs rs.length).2.1) (orNil (runB nss ss flc inc wsc rs) wsc) (1) hT1 hT2 hT3 hT4 hT5 (by omega)
    have c17:=heldIntS_con (1+5 * (orNil (runB nss ss flc inc wsc rs) (runTo flc inc rs rs.length).1).length+totIncident (orNil (runB nss ss flc inc wsc rs) (runTo flc inc rs rs.length).2.1)+totWant (orNil (runB nss ss flc inc wsc rs) wsc)) (orNil (runB nss ss flc inc wsc rs) (runTo flc inc rs rs.length).2.2).length hT6 (by omega)
    generalize (markStreet (1) ss.length).map (fun t:TS=>V.agg [V.int .i64 t.1,V.int .i64 t.2.1,V.int .i64 t.2.2])=L1 at c1 c2 c3 c4 c5 c6 c7 c8 c9 c10 c11 c12 c13 c14 c15 c16 c17⊢
    generalize (markAppliance (1+3 * ss.length) flc.length).map (fun t:TA=>V.agg [V.str t.1,V.int .i64 t.2.1,V.int .i64 t.2.2.1,V.int .i64 t.2.2.2.1,V.int .i64 t.2.2.2.2])=L2 at c1 c2 c3 c4 c5 c6 c7 c8 c9 c10 c11 c12 c13 c14 c15 c16 c17⊢
    generalize (markIncidents ((1+3 * ss.length)+5 * flc.length) inc).map (fun t:TI=>V.agg [V.int .i64 t.1,V.int .i64 t.2.1,V.bool t.2.2.1,V.sl (t.2.2.2.map V.str)])=L3 at c1 c2 c3 c4 c5 c6 c7 c8 c9 c10 c11 c12 c13 c14 c15 c16 c17⊢
    generalize (markWants (((1+3 * ss.length)+5 * flc.length)+totIncident inc) wsc).map (fun t:TW=>V.agg [V.int .i64 t.1,V.sl (t.2.map (V.int .i64))])=L4 at c1 c2 c3 c4 c5 c6 c7 c8 c9 c10 c11 c12 c13 c14 c15 c16 c17⊢
    generalize (markStr (1+3 * ss.length+5 * flc.length+totIncident inc+totWant wsc) rs.length).map V.str=L5 at c1 c2 c3 c4 c5 c6 c7 c8 c9 c10 c11 c12 c13 c14 c15 c16 c17⊢
    generalize (markAppliance (1) (orNil (runB nss ss flc inc wsc rs) (runTo flc inc rs rs.length).1).length).map (fun t:TA=>V.agg [V.str t.1,V.int .i64 t.2.1,V.int .i64 t.2.2.1,V.int .i64 t.2.2.2.1,V.int .i64 t.2.2.2.2])=L6 at c1 c2 c3 c4 c5 c6 c7 c8 c9 c10 c11 c12 c13 c14 c15 c16 c17⊢
    generalize (markIncidents ((1)+5 * (orNil (runB nss ss flc inc wsc rs) (runTo flc inc rs rs.length).1).length) (orNil (runB nss ss flc inc wsc rs) (runTo flc inc rs rs.length).2.1)).map (fun t:TI=>V.agg [V.int .i64 t.1,V.int .i64 t.2.1,V.bool t.2.2.1,V.sl (t.2.2.2.map V.str)])=L7 at c1 c2 c3 c4 c5 c6 c7 c8 c9 c10 c11 c12 c13 c14 c15 c16 c17⊢
    generalize (markWants (((1)+5 * (orNil (runB nss ss flc inc wsc rs) (runTo flc inc rs rs.length).1).length)+totIncident (orNil (runB nss ss flc inc wsc rs) (runTo flc inc rs rs.length).2.1)) (orNil (runB nss ss flc inc wsc rs) wsc)).map (fun t:TW=>V.agg [V.int .i64 t.1,V.sl (t.2.map (V.int .i64))])=L8 at c1 c2 c3 c4 c5 c6 c7 c8 c9 c10 c11 c12 c13 c14 c15 c16 c17⊢
    generalize (markRow (1+5 * (orNil (runB nss ss flc inc wsc rs) (runTo flc inc rs rs.length).1).length+totIncident (orNil (runB nss ss flc inc wsc rs) (runTo flc inc rs rs.length).2.1)+totWant (orNil (runB nss ss flc inc wsc rs) wsc)) (orNil (runB nss ss flc inc wsc rs) (runTo flc inc rs rs.length).2.2).length).map (V.int .i64)=L9 at c1 c2 c3 c4 c5 c6 c7 c8 c9 c10 c11 c12 c13 c14 c15 c16 c17⊢
    generalize ss.map (fun t:TS=>V.agg [V.int .i64 t.1,V.int .i64 t.2.1,V.int .i64 t.2.2])=L10 at c1 c2 c3 c4 c5 c6 c7 c8 c9 c10 c11 c12 c13 c14 c15 c16 c17⊢
    generalize flc.map (fun t:TA=>V.agg [V.str t.1,V.int .i64 t.2.1,V.int .i64 t.2.2.1,V.int .i64 t.2.2.2.1,V.int .i64 t.2.2.2.2])=L11 at c1 c2 c3 c4 c5 c6 c7 c8 c9 c10 c11 c12 c13 c14 c15 c16 c17⊢
    generalize inc.map (fun t:TI=>V.agg [V.int .i64 t.1,V.int .i64 t.2.1,V.bool t.2.2.1,V.sl (t.2.2.2.map V.str)])=L12 at c1 c2 c3 c4 c5 c6 c7 c8 c9 c10 c11 c12 c13 c14 c15 c16 c17⊢
    generalize wsc.map (fun t:TW=>V.agg [V.int .i64 t.1,V.sl (t.2.map (V.int .i64))])=L13 at c1 c2 c3 c4 c5 c6 c7 c8 c9 c10 c11 c12 c13 c14 c15 c16 c17⊢
    generalize rs.map V.str=L14 at c1 c2 c3 c4 c5 c6 c7 c8 c9 c10 c11 c12 c13 c14 c15 c16 c17⊢
    generalize (orNil (runB nss ss flc inc wsc rs) (runTo flc inc rs rs.length).1).map (fun t:TA=>V.agg [V.str t.1,V.int .i64 t.2.1,V.int .i64 t.2.2.1,V.int .i64 t.2.2.2.1,V.int .i64 t.2.2.2.2])=L15 at c1 c2 c3 c4 c5 c6 c7 c8 c9 c10 c11 c12 c13 c14 c15 c16 c17⊢
    generalize (orNil (runB nss ss flc inc wsc rs) (runTo flc inc rs rs.length).2.1).map (fun t:TI=>V.agg [V.int .i64 t.1,V.int .i64 t.2.1,V.bool t.2.2.1,V.sl (t.2.2.2.map V.str)])=L16 at c1 c2 c3 c4 c5 c6 c7 c8 c9 c10 c11 c12 c13 c14 c15 c16 c17⊢
    generalize (orNil (runB nss ss flc inc wsc rs) wsc).map (fun t:TW=>V.agg [V.int .i64 t.1,V.sl (t.2.map (V.int .i64))])=L17 at c1 c2 c3 c4 c5 c6 c7 c8 c9 c10 c11 c12 c13 c14 c15 c16 c17⊢
    generalize (orNil (runB nss ss flc inc wsc rs) (runTo flc inc rs rs.length).2.2).map (V.int .i64)=L18 at c1 c2 c3 c4 c5 c6 c7 c8 c9 c10 c11 c12 c13 c14 c15 c16 c17⊢
    refine zn [2,3,4] ⟨?_⟩
    apply v_seq1
    ·intro Q18 n18 e18 r18
     refine v_draw (by kernel_rfl) ?_;intro K19 q19 k19
     show aAny _ _ _ _ 15 (Array.replicate 15 false) _
     refine zdLoadZ q19 true 0 39 ?_;refine zdLoadZ q19 true 2 41 ?_;refine zdMove q19 true 4 43 ?_;refine aAny_two 1 11 rfl rfl (by kernel_rfl) ?_ ?_
     ·refine zsc (c1) ⟨?_⟩
      refine aAny_two 3 11 rfl rfl (by kernel_rfl) ?_ ?_
      ·refine zsc (c2) ⟨?_⟩
       refine aAny_two 5 11 rfl rfl (by kernel_rfl) ?_ ?_
       ·refine zsc (c3) ⟨?_⟩
        refine aAny_two 6 11 rfl rfl (by kernel_rfl) ?_ ?_
        ·refine zsc (c4) ⟨?_⟩
         refine zdMove q19 true 7 38 ?_;refine zdExtract q19 true 8 46 ?_;refine zdExtract q19 false 9 47 ?_;refine zdExtract q19 false 10 48 ?_;refine zoAlloc 11 ⟨?_⟩;refine zoStore 12 ⟨?_⟩;refine zoAssign 13 ⟨?_⟩;refine zoAssign 14 ⟨?_⟩;refine aAny_done (by kernel_rfl) ?_;refine k19 _ ?_;refine n18 _ ?_
         exact weak_one [2,3,4,8,9,10] [0,1,2,3,4,5,6,7,8,9,10,11,12,13,14]
        ·refine zsAlloc ⟨?_⟩
         refine zoc 6 (c4) ⟨?_⟩;refine zdMove q19 true 7 38 ?_;refine zdExtract q19 true 8 46 ?_;refine zdExtract q19 false 9 47 ?_;refine zdExtract q19 false 10 48 ?_;refine zoStore 12 ⟨?_⟩;refine zoAssign 13 ⟨?_⟩;refine zoAssign 14 ⟨?_⟩;refine aAny_done (by kernel_rfl) ?_;refine k19 _ ?_;refine n18 _ ?_
         exact weak_same [2,3,4,8,9,10] [0,1,2,3,4,5,6,11,12,13,14,7,8,9,10]
       ·refine zsAlloc ⟨?_⟩
        refine zoc 5 (c3) ⟨?_⟩;refine zoc 6 (c4) ⟨?_⟩;refine zdMove q19 true 7 38 ?_;refine zdExtract q19 true 8 46 ?_;refine zdExtract q19 false 9 47 ?_;refine zdExtract q19 false 10 48 ?_;refine zoStore 12 ⟨?_⟩;refine zoAssign 13 ⟨?_⟩;refine zoAssign 14 ⟨?_⟩;refine aAny_done (by kernel_rfl) ?_;refine k19 _ ?_;refine n18 _ ?_
        exact weak_same [2,3,4,8,9,10] [0,1,2,3,4,5,10,11,12,13,14,6,7,8,9]
      ·refine zsAlloc ⟨?_⟩
       refine zoc 3 (c2) ⟨?_⟩;refine zoc 5 (c3) ⟨?_⟩;refine zoc 6 (c4) ⟨?_⟩;refine zdMove q19 true 7 38 ?_;refine zdExtract q19 true 8 46 ?_;refine zdExtract q19 false 9 47 ?_;refine zdExtract q19 false 10 48 ?_;refine zoStore 12 ⟨?_⟩;refine zoAssign 13 ⟨?_⟩;refine zoAssign 14 ⟨?_⟩;refine aAny_done (by kernel_rfl) ?_;refine k19 _ ?_;refine n18 _ ?_
       exact weak_same [2,3,4,8,9,10] [0,1,2,7,8,9,10,11,12,13,14,3,4,5,6]
     ·refine zsAlloc ⟨?_⟩
      refine zoc 1 (c1) ⟨?_⟩;refine zoc 3 (c2) ⟨?_⟩;refine zoc 5 (c3) ⟨?_⟩;refine zoc 6 (c4) ⟨?_⟩;refine zdMove q19 true 7 38 ?_;refine zdExtract q19 true 8 46 ?_;refine zdExtract q19 false 9 47 ?_;refine zdExtract q19 false 10 48 ?_;refine zoStore 12 ⟨?_⟩;refine zoAssign 13 ⟨?_⟩;refine zoAssign 14 ⟨?_⟩;refine aAny_done (by kernel_rfl) ?_;refine k19 _ ?_;refine n18 _ ?_
      exact weak_same [2,3,4,8,9,10] [0,1,6,7,8,9,10,11,12,13,14,2,3,4,5]
    ·refine zkm ⟨?_⟩
     have F:=Fc.mk True.intro
     refine yRc [2,3,4,8,9,10,11] (c1) ⟨?_⟩;refine yRc [2,3,4,8,9,10,11,12] (c2) ⟨?_⟩;refine yRc [2,3,4,8,9,10,11,12,13] (c3) ⟨?_⟩;refine yRc [2,3,4,8,9,10,11,12,13,14,15,16] (c5) ⟨?_⟩;refine v_seq ?_;intros;refine yRcg [2,3,4,8,9,10,11,12,13,14,15,16,77] (c6) (c7) ⟨?_⟩;refine v_cond _ rfl ?_ ?_
     ·intro hc3
      exfalso;first | (simp at hc3;done) | (simp at hc3;omega)
     ·intro hc3
      try simp only [zC,reduceCtorEq] at hc3
      refine zn [2,3,4,8,9,10,11,12,13,14,15,16] ⟨?_⟩;refine v_seq ?_;intros;refine v_seq ?_;intro Q28 n28 e28 r28;refine v_draw (by kernel_rfl) ?_;intro K29 q29 k29
      show aAny _ _ _ _ 5 (Array.replicate 5 false) _
      refine zdLoadZ q29 true 0 78 ?_;refine zdLoadZ q29 true 1 79 ?_;refine zoc 2 (c1) ⟨?_⟩;refine zoc 3 (c8) ⟨?_⟩;refine zdUnOp q29 true 4 82 ?_;refine aAny_done (by kernel_rfl) ?_;refine k29 _ ?_;refine n28 _ _ (weak_keep [2,3,4,8,9,10,11,12,13,14,15,16,82] _) ?_;refine zk ⟨?_⟩;refine v_cond _ rfl ?_ ?_
      ·intro hc4
       exfalso;first | (simp at hc4;done) | (simp at hc4;omega)
      ·intro hc4
       try simp only [zC,reduceCtorEq] at hc4
       refine zn [2,3,4,8,9,10,11,12,13,14,15,16] ⟨?_⟩;refine v_seq ?_;intros;refine v_seq ?_;intro Q32 n32 e32 r32;refine v_draw (by kernel_rfl) ?_;intro K33 q33 k33
       show aAny _ _ _ _ 5 (Array.replicate 5 false) _
       refine zdLoadZ q33 true 0 83 ?_;refine zdLoadZ q33 true 1 84 ?_;refine zoc 2 (c2) ⟨?_⟩;refine zoc 3 (c9) ⟨?_⟩;refine zdUnOp q33 true 4 87 ?_;refine aAny_done (by kernel_rfl) ?_;refine k33 _ ?_;refine n32 _ _ (weak_keep [2,3,4,8,9,10,11,12,13,14,15,16,87] _) ?_;refine zk ⟨?_⟩;refine v_cond _ rfl ?_ ?_
       ·intro hc5
        exfalso;first | (simp at hc5;done) | (simp at hc5;omega)
       ·intro hc5
        try simp only [zC,reduceCtorEq] at hc5
        refine zn [2,3,4,8,9,10,11,12,13,14,15,16] ⟨?_⟩;refine v_seq ?_;intros;refine yRcc [2,3,4,8,9,10,11,12,13,14,15,16,92] (c3) (c10) ⟨?_⟩;refine v_cond _ rfl ?_ ?_
        ·intro hc6
         exfalso;first | (simp at hc6;done) | (simp at hc6;omega)
        ·intro hc6
         try simp only [zC,reduceCtorEq] at hc6
         refine zn [2,3,4,8,9,10,11,12,13,14,15,16] ⟨?_⟩;refine yR [2,3,4,8,9,10,11,12,13,14,15,16,17] ⟨?_⟩;refine yRl [2,3,4,8,9,10,12,13,14,15,16,17] (c11) ⟨?_⟩;refine yR3 [2,3,4,8,9,10,13,14,15,16,17] (c12) ⟨?_⟩;refine yRl [2,3,4,8,9,10,14,15,16,17] (c13) ⟨?_⟩;refine v_seq ?_;intros;refine yRgg [2,3,4,8,9,10,14,15,120] (c6) (c7) ⟨?_⟩;refine v_cond _ rfl ?_ ?_
         ·intro hc7
          exfalso;first | (simp at hc7;done) | (simp at hc7;omega)
         ·intro hc7
          try simp only [zC,reduceCtorEq] at hc7
          refine zn [2,3,4,8,9,10,14,15] ⟨?_⟩;refine yR [2,3,4,8,9,10,14,15,18] ⟨?_⟩;refine yR3 [2,3,4,8,9,10,14,15,18] (c14) ⟨?_⟩;refine yRl [2,3,4,8,9,10,14,15,18] (c15) ⟨?_⟩;refine yR [2,3,4,8,9,10,14,15,18,19] ⟨?_⟩;refine yRc [2,3,4,8,9,10,14,15,18,19] (c16) ⟨?_⟩;refine v_seq ?_;intros;refine yR [2,3,4,8,9,10,14,15,18,19,131] ⟨?_⟩;refine v_cond _ rfl ?_ ?_
          ·intro hc8
           exfalso;first | (simp at hc8;done) | (simp at hc8;omega)
          ·intro hc8
           try simp only [zC,reduceCtorEq] at hc8
           refine zn [2,3,4,8,9,10,14,15,18,19] ⟨?_⟩;refine yRc [2,3,4,8,9,10,14,15,18,19] (c17) ⟨?_⟩;refine v_seq ?_;intros;refine yR [2,3,4,8,9,10,14,15,18,19,136] ⟨?_⟩;refine v_cond _ rfl ?_ ?_
           ·intro hc9
            exfalso;first | (simp at hc9;done) | (simp at hc9;omega)
           ·intro hc9
            try simp only [zC,reduceCtorEq] at hc9
            refine zn [2,3,4,8,9,10,14,15,18,19] ⟨?_⟩;refine v_seq ?_;intros;refine yR [2,3,4,8,9,10,14,15,18,139] ⟨?_⟩;refine v_cond _ rfl ?_ ?_
            ·intro hc10
             exfalso;first | (simp at hc10;done) | (simp at hc10;omega)
            ·intro hc10
             try simp only [zC,reduceCtorEq] at hc10
             refine zn [2,3,4,8,9,10,14,15,18] ⟨?_⟩
             apply v_seq1
             ·intro Q60 n60 e60 r60
              refine v_draw (by kernel_rfl) ?_;intro K61 q61 k61
              show aAny _ _ _ _ 15 (Array.replicate 15 false) _
              refine zdLoadZ q61 true 0 141 ?_;refine zdLoadZ q61 true 2 143 ?_;refine zdMove q61 true 4 145 ?_;refine aAny_two 1 11 rfl rfl (by kernel_rfl) ?_ ?_
              ·refine zsc (c1) ⟨?_⟩
               refine aAny_two 3 11 rfl rfl (by kernel_rfl) ?_ ?_
               ·refine zsc (c2) ⟨?_⟩
                refine aAny_two 5 11 rfl rfl (by kernel_rfl) ?_ ?_
                ·refine zsc (c3) ⟨?_⟩
                 refine aAny_two 6 11 rfl rfl (by kernel_rfl) ?_ ?_
                 ·refine zsc (c5) ⟨?_⟩
                  refine zdMove q61 true 7 140 ?_;refine zdExtract q61 true 8 148 ?_;refine zdExtract q61 false 9 149 ?_;refine zdExtract q61 false 10 150 ?_;refine zoAlloc 11 ⟨?_⟩;refine zoStore 12 ⟨?_⟩;refine zoAssign 13 ⟨?_⟩;refine zoAssign 14 ⟨?_⟩;refine aAny_done (by kernel_rfl) ?_;refine k61 _ ?_;refine n60 _ ?_
                  exact weak_one [8,9,10,14,15,18,20,21,22] [0,1,2,3,4,5,6,7,8,9,10,11,12,13,14,15,16,17,18,19,20,21,22,23,24,25,26,27,28,29,30,31,32,33,34,35,36,37,38,39,40,41,42,43,44,45,46,47,48,49,50,51]
                 ·refine zsAlloc ⟨?_⟩
                  refine zoc 6 (c5) ⟨?_⟩;refine zdMove q61 true 7 140 ?_;refine zdExtract q61 true 8 148 ?_;refine zdExtract q61 false 9 149 ?_;refine zdExtract q61 false 10 150 ?_;refine zoStore 12 ⟨?_⟩;refine zoAssign 13 ⟨?_⟩;refine zoAssign 14 ⟨?_⟩;refine aAny_done (by kernel_rfl) ?_;refine k61 _ ?_;refine n60 _ ?_
                  exact weak_same [8,9,10,14,15,18,20,21,22] [0,1,2,3,4,5,6,7,8,9,10,11,12,13,14,15,16,17,18,19,20,21,22,23,24,25,26,27,28,29,30,31,32,33,34,35,36,37,38,39,40,41,42,43,48,49,50,51,44,45,46,47]
                ·refine zsAlloc ⟨?_⟩
                 refine zoc 5 (c3) ⟨?_⟩;refine zoc 6 (c5) ⟨?_⟩;refine zdMove q61 true 7 140 ?_;refine zdExtract q61 true 8 148 ?_;refine zdExtract q61 false 9 149 ?_;refine zdExtract q61 false 10 150 ?_;refine zoStore 12 ⟨?_⟩;refine zoAssign 13 ⟨?_⟩;refine zoAssign 14 ⟨?_⟩;refine aAny_done (by kernel_rfl) ?_;refine k61 _ ?_;refine n60 _ ?_
                 exact weak_same [8,9,10,14,15,18,20,21,22] [0,1,2,3,4,5,6,7,8,9,10,11,12,13,14,15,16,17,18,19,20,21,22,23,24,25,26,27,28,29,30,31,32,33,34,35,36,37,38,39,40,41,42,47,48,49,50,51,43,44,45,46]
               ·refine zsAlloc ⟨?_⟩
                refine zoc 3 (c2) ⟨?_⟩;refine zoc 5 (c3) ⟨?_⟩;refine zoc 6 (c5) ⟨?_⟩;refine zdMove q61 true 7 140 ?_;refine zdExtract q61 true 8 148 ?_;refine zdExtract q61 false 9 149 ?_;refine zdExtract q61 false 10 150 ?_;refine zoStore 12 ⟨?_⟩;refine zoAssign 13 ⟨?_⟩;refine zoAssign 14 ⟨?_⟩;refine aAny_done (by kernel_rfl) ?_;refine k61 _ ?_;refine n60 _ ?_
                exact weak_same [8,9,10,14,15,18,20,21,22] [0,1,2,3,4,5,6,7,8,9,10,11,12,13,14,15,16,17,18,19,20,21,22,23,24,25,26,27,28,29,30,31,32,33,34,35,36,37,38,39,44,45,46,47,48,49,50,51,40,41,42,43]
              ·refine zsAlloc ⟨?_⟩
               refine zoc 1 (c1) ⟨?_⟩;refine zoc 3 (c2) ⟨?_⟩;refine zoc 5 (c3) ⟨?_⟩;refine zoc 6 (c5) ⟨?_⟩;refine zdMove q61 true 7 140 ?_;refine zdExtract q61 true 8 148 ?_;refine zdExtract q61 false 9 149 ?_;refine zdExtract q61 false 10 150 ?_;refine zoStore 12 ⟨?_⟩;refine zoAssign 13 ⟨?_⟩;refine zoAssign 14 ⟨?_⟩;refine aAny_done (by kernel_rfl) ?_;refine k61 _ ?_;refine n60 _ ?_
               exact weak_same [8,9,10,14,15,18,20,21,22] [0,1,2,3,4,5,6,7,8,9,10,11,12,13,14,15,16,17,18,19,20,21,22,23,24,25,26,27,28,29,30,31,32,33,34,35,36,37,38,43,44,45,46,47,48,49,50,51,39,40,41,42]
             ·refine zkm ⟨?_⟩
              refine v_seq ?_;intros
              have F:=Fc.mk True.intro
              refine yRcg [14,15,18,165] (c6) (c7) ⟨?_⟩;refine v_cond _ rfl ?_ ?_
              ·intro hc11
               exfalso;first | (simp at hc11;done) | (simp at hc11;omega)
              ·intro hc11
               try simp only [zC,reduceCtorEq] at hc11
               refine zn [14,15,18] ⟨?_⟩;refine yR [14,15,18,19] ⟨?_⟩;refine yRc [15,18,19] (c16) ⟨?_⟩;refine v_seq ?_;intros;refine yR [15,18,19,170] ⟨?_⟩;refine v_cond _ rfl ?_ ?_
               ·intro hc12
                exfalso;first | (simp at hc12;done) | (simp at hc12;omega)
               ·intro hc12
                try simp only [zC,reduceCtorEq] at hc12
                refine zn [15,18,19] ⟨?_⟩;refine yRc [18,19] (c17) ⟨?_⟩;refine v_seq ?_;intros;refine yR [18,19,175] ⟨?_⟩;refine v_cond _ rfl ?_ ?_
                ·intro hc13
                 exfalso;first | (simp at hc13;done) | (simp at hc13;omega)
                ·intro hc13
                 try simp only [zC,reduceCtorEq] at hc13
                 refine zn [18,19] ⟨?_⟩;refine v_seq ?_;intros;refine yR [178] ⟨?_⟩;refine v_cond _ rfl ?_ ?_
                 ·intro hc14
                  exfalso;first | (simp at hc14;done) | (simp at hc14;omega)
                 ·intro hc14
                  try simp only [zC,reduceCtorEq] at hc14
                  refine zn [] ⟨?_⟩;refine yR [6] ⟨?_⟩;refine zr ⟨?_⟩
                  exact ret_pure rfl rfl (.inl rfl)
end Go.Proofs.YtaefoaghpehbpaaGreatDoor
