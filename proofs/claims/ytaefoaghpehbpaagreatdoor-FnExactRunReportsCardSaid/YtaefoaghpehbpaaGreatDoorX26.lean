/- What functions compute. No condition. -/
import Derived.Test.YtaefoaghpehbpaaGreatDoorUz
import Derived.Test.YtaefoaghpehbpaaGreatDoorUty
import Derived.Test.YtaefoaghpehbpaaGreatDoorUmG
import Derived.Test.YtaefoaghpehbpaaGreatDoorX25
import Derived.Test.YtaefoaghpehbpaaGreatDoorX13
import Derived.Test.YtaefoaghpehbpaaGreatDoorX11
set_option linter.unusedSimpArgs false
set_option linter.unusedVariables false
set_option linter.defProp false
namespace Go.Proofs.YtaefoaghpehbpaaGreatDoor
open Go Go.Vm
set_option maxHeartbeats 8000000
theorem cloneStr_con (l:List ByteArray) (hl:l.length≤1048576):Con Tryz.prog 197 [.sl (l.map V.str)] [] (.ref 0) [.arr (l.map V.str) .flat]:=by
 have hns:(l.map V.str).all V.noSl=true:=by rw [List.all_map,List.all_eq_true];intro a _;rfl
 refine v_con [.tmp 2] [] Tryz.func197 rfl rfl rfl (by simp [Tryz.ntmps197]) ?_
 intro Q0 n0 r0
 simp only [Tryz.ntmps197,envFrom,Nat.reduceAdd]
 have T:=Tys.mk (ai Ty.t9 Ty.t47)
 have F:=Fc.mk True.intro
 have F:=Fc.mk hns
 refine yR [0] ⟨?_⟩;refine v_seq ?_;intros;refine v_seqR [0,4] ?_;intro K3 k3;refine zMove ⟨?_⟩;refine zNil ⟨?_⟩
 intro nb4 hnb4
 refine k3 _ ?_;refine zk ⟨?_⟩;refine v_condS _ rfl ?_ ?_
 ·intro hc0
  have hnil:l=[]:=by cases l with | nil=>rfl | cons a b=>have:=hnb4 (by simp);rw [hc0] at this;cases this
  refine yR [2] ⟨?_⟩;refine zr ⟨?_⟩
  rw [hnil];exact ret_refK rfl rfl rfl
 ·intro hc0
  refine zn [0] ⟨?_⟩;refine yR [2] ⟨?_⟩;refine zr ⟨?_⟩
  exact ret_refK rfl rfl (by simp)
theorem copyIncidents_con (l:List TI) (hl:l.length≤1048576) (hls:∀t∈l,t.2.2.2.length≤1048576):Con Tryz.prog 150 [.sl (l.map (fun t:TI=>V.agg [V.int .i64 t.1,V.int .i64 t.2.1,V.bool t.2.2.1,V.sl (t.2.2.2.map V.str)]))] [] (.ref 0) [.arr (l.map (fun t:TI=>V.agg [V.int .i64 t.1,V.int .i64 t.2.1,V.bool t.2.2.1,V.sl (t.2.2.2.map V.str)])) (fillK l.length)]:=by
 refine v_con [.tmp 2] [] Tryz.func150 rfl rfl rfl (by simp [Tryz.ntmps150]) ?_
 intro Q0 n0 r0
 simp only [Tryz.ntmps150,envFrom,Nat.reduceAdd]
 have T:=Tys.mk (ai Ty.t3 (ai Ty.t4 (ai Ty.t9 (ai Ty.t39 (ai Ty.t47 Ty.t78)))))
 have F:=Fc.mk True.intro
 refine yR [0] ⟨?_⟩;refine yR [0,3] ⟨?_⟩;refine v_seq ?_;intros;refine yR [3,6,7,8] ⟨?_⟩;refine v_block ?_;intros;refine v_loop (fun i=>⟨[(3,.ref 0),(6,.sl (l.map (fun t:TI=>V.agg [V.int .i64 t.1,V.int .i64 t.2.1,V.bool t.2.2.1,V.sl (t.2.2.2.map V.str)]))),(7,.int .i64 l.length),(8,.int .i64 (Nat.cast i))],[.arr ((l.take i).map (fun t:TI=>V.agg [V.int .i64 t.1,V.int .i64 t.2.1,V.bool t.2.2.1,V.sl (t.2.2.2.map V.str)])) (fillK i)],false,22,0⟩) (fun i=>i≤l.length) (fun i=>l.length - i) 0 ?_ ?_ ?_
 ·refine weak_bothS [3,6,7,8] [1] ⟨?_⟩
  rfl
 ·exact Nat.zero_le _
 ·rintro i hok6 Q6 n6 e6 r6
  have hi1:i≤l.length:=hok6
  refine yR [3,6,7,8,9] ⟨?_⟩;refine v_seq ?_;intros;refine v_condS _ rfl ?_ ?_
  ·intro hc0
   have hlt:i < l.length:=by omega
   obtain ⟨⟨x0,x1,x2,x3⟩,hx⟩:∃x:TI,l[i]? =some x:=⟨l[i]'(by omega),List.getElem?_eq_getElem (by omega)⟩
   have hlx:=hls _ (List.mem_of_getElem? hx)
   simp only [] at hlx
   have hsn:(l.take i).map (fun t:TI=>V.agg [V.int .i64 t.1,V.int .i64 t.2.1,V.bool t.2.2.1,V.sl (t.2.2.2.map V.str)])++[V.agg [V.int .i64 x0,V.int .i64 x1,V.bool x2,V.sl (x3.map V.str)]]=(l.take (i+1)).map (fun t:TI=>V.agg [V.int .i64 t.1,V.int .i64 t.2.1,V.bool t.2.2.1,V.sl (t.2.2.2.map V.str)]):=(take_map_step (f:=(fun t:TI=>V.agg [V.int .i64 t.1,V.int .i64 t.2.1,V.bool t.2.2.1,V.sl (t.2.2.2.map V.str)])) hx).symm
   have hti:(l.take i).length=i:=by rw [List.length_take];omega
   refine zn [3,6,7,8] ⟨?_⟩;refine v_seq ?_;intros;refine v_block ?_;intros
   have F:=Fc.mk (ai (gdm hx) hti)
   refine yR [3,5,6,7,8] ⟨?_⟩;refine yRc [3,5,6,7,8] (cloneStr_con x3 hlx) ⟨?_⟩;refine yQ [3,6,7,8] ⟨?_⟩;refine yV ⟨?_⟩;refine n6 _ (i+1) ?_ ?_ ?_
   ·refine weak_bothS [3,6,7,8] [5] ⟨?_⟩
    rw [←hsn];rfl
   ·exact hlt
   ·show _ < _;omega
  ·intro hc0
   have hend:i=l.length:=by omega
   subst hend
   refine zn [3] ⟨?_⟩;refine yR [2] ⟨?_⟩;refine zr ⟨?_⟩
   rw [List.take_length]
   exact ret_refK rfl (by unfold fillK;split<;>rfl) rfl
theorem ixOwn_con (l:List TI) (hl:l.length≤1048576) (hls:∀t∈l,t.2.2.2.length≤1048576):Con Tryz.prog 145 [.sl (l.map (fun t:TI=>V.agg [V.int .i64 t.1,V.int .i64 t.2.1,V.bool t.2.2.1,V.sl (t.2.2.2.map V.str)]))] [] (.ref 0) [.arr (l.map (fun t:TI=>V.agg [V.int .i64 t.1,V.int .i64 t.2.1,V.bool t.2.2.1,V.sl (t.2.2.2.map V.str)])) (fillK l.length)]:=by
 refine v_con [.tmp 2] [] Tryz.func145 rfl rfl rfl (by simp [Tryz.ntmps145]) ?_
 intro Q0 n0 r0
 simp only [Tryz.ntmps145,envFrom,Nat.reduceAdd]
 have T:=Tys.mk (ai Ty.t3 (ai Ty.t4 (ai Ty.t9 (ai Ty.t39 (ai Ty.t47 Ty.t78)))))
 have F:=Fc.mk True.intro
 refine yR [0] ⟨?_⟩;refine yR [0,3] ⟨?_⟩;refine v_seq ?_;intros;refine yR [3,6,7,8] ⟨?_⟩;refine v_block ?_;intros;refine v_loop (fun i=>⟨[(3,.ref 0),(6,.sl (l.map (fun t:TI=>V.agg [V.int .i64 t.1,V.int .i64 t.2.1,V.bool t.2.2.1,V.sl (t.2.2.2.map V.str)]))),(7,.int .i64 l.length),(8,.int .i64 (Nat.cast i))],[.arr ((l.take i).map (fun t:TI=>V.agg [V.int .i64 t.1,V.int .i64 t.2.1,V.bool t.2.2.1,V.sl (t.2.2.2.map V.str)])) (fillK i)],false,23,0⟩) (fun i=>i≤l.length) (fun i=>l.length - i) 0 ?_ ?_ ?_
 ·refine weak_bothS [3,6,7,8] [1] ⟨?_⟩
  rfl
 ·exact Nat.zero_le _
 ·rintro i hok6 Q6 n6 e6 r6
  have hi1:i≤l.length:=hok6
  refine yR [3,6,7,8,9] ⟨?_⟩;refine v_seq ?_;intros;refine v_condS _ rfl ?_ ?_
  ·intro hc0
   have hlt:i < l.length:=by omega
   obtain ⟨⟨x0,x1,x2,x3⟩,hx⟩:∃x:TI,l[i]? =some x:=⟨l[i]'(by omega),List.getElem?_eq_getElem (by omega)⟩
   have hlx:=hls _ (List.mem_of_getElem? hx)
   simp only [] at hlx
   have hsn:(l.take i).map (fun t:TI=>V.agg [V.int .i64 t.1,V.int .i64 t.2.1,V.bool t.2.2.1,V.sl (t.2.2.2.map V.str)])++[V.agg [V.int .i64 x0,V.int .i64 x1,V.bool x2,V.sl (x3.map V.str)]]=(l.take (i+1)).map (fun t:TI=>V.agg [V.int .i64 t.1,V.int .i64 t.2.1,V.bool t.2.2.1,V.sl (t.2.2.2.map V.str)]):=(take_map_step (f:=(fun t:TI=>V.agg [V.int .i64 t.1,V.int .i64 t.2.1,V.bool t.2.2.1,V.sl (t.2.2.2.map V.str)])) hx).symm
   have hti:(l.take i).length=i:=by rw [List.length_take];omega
   have hns:(x3.map V.str).all V.noSl=true:=by rw [List.all_map,List.all_eq_true];intro a _;rfl
   refine zn [3,6,7,8] ⟨?_⟩;refine v_seq ?_;intros;refine v_block ?_;intros
   have F:=Fc.mk (ai (gdm hx) (ai hti hns))
   refine yR [3,5,6,7,8] ⟨?_⟩;refine yR [3,5,6,7,8] ⟨?_⟩;refine yQ [3,6,7,8] ⟨?_⟩;refine yV ⟨?_⟩;refine n6 _ (i+1) ?_ ?_ ?_
   ·refine weak_bothS [3,6,7,8] [6] ⟨?_⟩
    rw [←hsn];rfl
   ·exact hlt
   ·show _ < _;omega
  ·intro hc0
   have hend:i=l.length:=by omega
   subst hend
   refine zn [3] ⟨?_⟩;refine yR [2] ⟨?_⟩;refine zr ⟨?_⟩
   rw [List.take_length]
   exact ret_refK rfl (by unfold fillK;split<;>rfl) rfl
theorem roWants_con (l:List TW) (hl:l.length≤1048576) (hls:∀t∈l,t.2.length≤1048576):Con Tryz.prog 146 [.sl (l.map (fun t:TW=>V.agg [V.int .i64 t.1,V.sl (t.2.map (V.int .i64))]))] [] (.ref 0) [.arr (l.map (fun t:TW=>V.agg [V.int .i64 t.1,V.sl (t.2.map (V.int .i64))])) (fillK l.length)]:=by
 refine v_con [.tmp 2] [] Tryz.func146 rfl rfl rfl (by simp [Tryz.ntmps146]) ?_
 intro Q0 n0 r0
 simp only [Tryz.ntmps146,envFrom,Nat.reduceAdd]
 have T:=Tys.mk (ai Ty.t3 (ai Ty.t40 (ai Ty.t49 Ty.t95)))
 have F:=Fc.mk True.intro
 refine yR [0] ⟨?_⟩;refine yR [0,3] ⟨?_⟩;refine v_seq ?_;intros;refine yR [3,6,7,8] ⟨?_⟩;refine v_block ?_;intros;refine v_loop (fun i=>⟨[(3,.ref 0),(6,.sl (l.map (fun t:TW=>V.agg [V.int .i64 t.1,V.sl (t.2.map (V.int .i64))]))),(7,.int .i64 l.length),(8,.int .i64 (Nat.cast i))],[.arr ((l.take i).map (fun t:TW=>V.agg [V.int .i64 t.1,V.sl (t.2.map (V.int .i64))])) (fillK i)],false,23,0⟩) (fun i=>i≤l.length) (fun i=>l.length - i) 0 ?_ ?_ ?_
 ·refine weak_bothS [3,6,7,8] [1] ⟨?_⟩
  rfl
 ·exact Nat.zero_le _
 ·rintro i hok6 Q6 n6 e6 r6
  have hi1:i≤l.length:=hok6
  refine yR [3,6,7,8,9] ⟨?_⟩;refine v_seq ?_;intros;refine v_condS _ rfl ?_ ?_
  ·intro hc0
   have hlt:i < l.length:=by omega
   obtain ⟨⟨x0,x1⟩,hx⟩:∃x:TW,l[i]? =some x:=⟨l[i]'(by omega),List.getElem?_eq_getElem (by omega)⟩
   have hlx:=hls _ (List.mem_of_getElem? hx)
   simp only [] at hlx
   have hsn:(l.take i).map (fun t:TW=>V.agg [V.int .i64 t.1,V.sl (t.2.map (V.int .i64))])++[V.agg [V.int .i64 x0,V.sl (x1.map (V.int .i64))]]=(l.take (i+1)).map (fun t:TW=>V.agg [V.int .i64 t.1,V.sl (t.2.map (V.int .i64))]):=(take_map_step (f:=(fun t:TW=>V.agg [V.int .i64 t.1,V.sl (t.2.map (V.int .i64))])) hx).symm
   have hti:(l.take i).length=i:=by rw [List.length_take];omega
   refine zn [3,6,7,8] ⟨?_⟩;refine v_seq ?_;intro Q10 n10 e10 r10;refine v_block ?_;intro Q11 n11 x11 e11 r11
   have F:=Fc.mk (ai (gdm hx) hti)
   refine yR [3,5,6,7,8] ⟨?_⟩;refine v_draw (by kernel_rfl) ?_;intro K13 q13 k13
   show aAny _ _ _ _ 10 (Array.replicate 10 false) _
   refine zdMove q13 true 0 12 ?_;refine zdFieldAddr q13 true 1 13 ?_;refine zdLoad q13 true 2 14 ?_;refine zdFieldAddr q13 true 3 15 ?_;refine zdLoad q13 true 4 16 ?_;refine zoc 5 (l1Own_con x1 hlx) ⟨?_⟩;refine zdBuild q13 true 6 18 ?_;refine zoBuildSlice 7 ⟨?_⟩;refine zoAppend 8 ⟨?_⟩;refine zoAssign 9 ⟨?_⟩;refine aAny_done (by kernel_rfl) ?_;refine k13 _ ?_;refine n11 _ ?_;refine n10 _ _ (weak_keep [3,6,7,8] _) ?_;refine zk ⟨?_⟩;refine yV ⟨?_⟩;refine n6 _ (i+1) ?_ ?_ ?_
   ·refine weak_bothS [3,6,7,8] [5] ⟨?_⟩
    rw [←hsn];rfl
   ·exact hlt
   ·show _ < _;omega
  ·intro hc0
   have hend:i=l.length:=by omega
   subst hend
   refine zn [3] ⟨?_⟩;refine yR [2] ⟨?_⟩;refine zr ⟨?_⟩
   rw [List.take_length]
   exact ret_refK rfl (by unfold fillK;split<;>rfl) rfl
set_option maxRecDepth 8000 in
theorem copyControl_con (fl:List TA) (ins:List TI) (ws:List TW) (hl:fl.length≤1048576) (hil:ins.length≤1048576) (hin:∀x∈ins,x.2.2.2.length≤1048576) (hwl:ws.length≤1048576) (hwn:∀x∈ws,x.2.length≤1048576):Con Tryz.prog 76 [.pv [.agg [.sl (fl.map (fun t:TA=>V.agg [V.str t.1,V.int .i64 t.2.1,V.int .i64 t.2.2.1,V.int .i64 t.2.2.2.1,V.int .i64 t.2.2.2.2])),.sl (ins.map (fun t:TI=>V.agg [V.int .i64 t.1,V.int .i64 t.2.1,V.bool t.2.2.1,V.sl (t.2.2.2.map V.str)])),.sl (ws.map (fun t:TW=>V.agg [V.int .i64 t.1,V.sl (t.2.map (V.int .i64))]))]] 0 0] [] (.agg [.ref 0,.ref 1,.ref 2]) [.arr (fl.map (fun t:TA=>V.agg [V.str t.1,V.int .i64 t.2.1,V.int .i64 t.2.2.1,V.int .i64 t.2.2.2.1,V.int .i64 t.2.2.2.2])) .flat,.arr (ins.map (fun t:TI=>V.agg [V.int .i64 t.1,V.int .i64 t.2.1,V.bool t.2.2.1,V.sl (t.2.2.2.map V.str)])) (fillK ins.length),.arr (ws.map (fun t:TW=>V.agg [V.int .i64 t.1,V.sl (t.2.map (V.int .i64))])) (fillK ws.length)]:=by
 refine v_con [.cell 2 42] [] Tryz.func76 rfl rfl rfl (by simp [Tryz.ntmps76]) ?_
 intro Q0 n0 r0
 simp only [Tryz.ntmps76,envFrom,Nat.reduceAdd]
 have T:=Tys.mk (ai Ty.t3 (ai Ty.t4 (ai Ty.t9 (ai Ty.t38 (ai Ty.t39 (ai Ty.t40 (ai Ty.t42 (ai Ty.t47 (ai Ty.t49 (ai Ty.t76 (ai Ty.t78 Ty.t95)))))))))))
 have F:=Fc.mk True.intro
 refine yR [0,2] ⟨?_⟩;refine v_seq ?_;intro Q2 n2 e2 r2;refine v_draw (by kernel_rfl) ?_;intro K3 q3 k3
 show aAny _ _ _ _ 13 (Array.replicate 13 false) _
 refine zdMove q3 true 0 6 ?_;refine zdNilCheck q3 true 1 7 ?_;refine zdFieldAddr q3 true 2 8 ?_;refine zdLoadX q3 true 3 9 ?_;refine zdMove q3 true 5 11 ?_;refine zdNilCheck q3 true 6 12 ?_;refine zdFieldAddr q3 true 7 13 ?_;refine zdLoadX q3 true 8 14 ?_;refine aAny_two 4 11 rfl rfl (by kernel_rfl) ?_ ?_
 ·refine zsc (cloneAppliance_con fl hl) ⟨?_⟩
  refine aAny_two 9 11 rfl rfl (by kernel_rfl) ?_ ?_
  ·refine zsc (copyIncidents_con ins hil hin) ⟨?_⟩
   refine zdBuild q3 true 10 16 ?_;refine zoAlloc 11 ⟨?_⟩;refine zoStore 12 ⟨?_⟩;refine aAny_done (by kernel_rfl) ?_;refine k3 _ ?_;refine n2 _ _ (weak_keep [0,2,3] _) ?_;refine zk ⟨?_⟩;refine v_seq ?_;intros;refine yR [2,3,20,21,22] ⟨?_⟩;refine v_block ?_;intros;refine v_loop (fun i=>⟨[(2,.ptr 3 0 0),(3,.ptr 7 0 0),(20,.sl (ws.map (fun t:TW=>V.agg [V.int .i64 t.1,V.sl (t.2.map (V.int .i64))]))),(21,.int .i64 ws.length),(22,.int .i64 (Nat.cast i))],[.arr [] .flat,.arr [] .flat,.arr [] .flat,.box (.agg [.ref 0,.ref 1,.ref 2]) .mix,.arr (fl.map (fun t:TA=>V.agg [V.str t.1,V.int .i64 t.2.1,V.int .i64 t.2.2.1,V.int .i64 t.2.2.2.1,V.int .i64 t.2.2.2.2])) .flat,.arr (ins.map (fun t:TI=>V.agg [V.int .i64 t.1,V.int .i64 t.2.1,V.bool t.2.2.1,V.sl (t.2.2.2.map V.str)])) (fillK ins.length),.arr ((ws.take i).map (fun t:TW=>V.agg [V.int .i64 t.1,V.sl (t.2.map (V.int .i64))])) (fillK i),.box (.agg [.ref 4,.ref 5,.ref 6]) .mix],false,39,0⟩) (fun i=>i≤ws.length) (fun i=>ws.length - i) 0 ?_ ?_ ?_
   ·refine weak_bothN [2,3,20,21,22] [0,1,2,3,4,5,10,9] ⟨?_⟩
    rfl
   ·exact Nat.zero_le _
   ·rintro i hok7 Q7 n7 e7 r7
    have hi1:i≤ws.length:=hok7
    refine yR [2,3,20,21,22,23] ⟨?_⟩;refine v_seq ?_;intros;refine v_condS _ rfl ?_ ?_
    ·intro hc0
     have hlt:i < ws.length:=by omega
     obtain ⟨⟨x0,x1⟩,hx⟩:∃x:TW,ws[i]? =some x:=⟨ws[i]'(by omega),List.getElem?_eq_getElem (by omega)⟩
     have hlx:=hwn _ (List.mem_of_getElem? hx)
     simp only [] at hlx
     have hsn:(ws.take i).map (fun t:TW=>V.agg [V.int .i64 t.1,V.sl (t.2.map (V.int .i64))])++[V.agg [V.int .i64 x0,V.sl (x1.map (V.int .i64))]]=(ws.take (i+1)).map (fun t:TW=>V.agg [V.int .i64 t.1,V.sl (t.2.map (V.int .i64))]):=(take_map_step (f:=(fun t:TW=>V.agg [V.int .i64 t.1,V.sl (t.2.map (V.int .i64))])) hx).symm
     have hti:(ws.take i).length=i:=by rw [List.length_take];omega
     refine zn [2,3,20,21,22] ⟨?_⟩;refine v_seq ?_;intro Q11 n11 e11 r11;refine v_block ?_;intro Q12 n12 x12 e12 r12
     have F:=Fc.mk (ai (gdm hx) hti)
     refine yR [2,3,5,20,21,22] ⟨?_⟩;refine v_draw (by kernel_rfl) ?_;intro K14 q14 k14
     show aAny _ _ _ _ 12 (Array.replicate 12 false) _
     refine zdFieldAddr q14 true 0 26 ?_;refine zdLoadX q14 true 1 27 ?_;refine zdFieldAddr q14 true 2 28 ?_;refine zdLoadX q14 true 3 29 ?_;refine zdFieldAddr q14 true 4 30 ?_;refine zdLoadX q14 true 5 31 ?_;refine zoc 6 (cloneInt_con x1 hlx) ⟨?_⟩;refine zdBuild q14 true 7 33 ?_;refine zoBuildSlice 8 ⟨?_⟩;refine zoAppend 9 ⟨?_⟩;refine zdFieldAddr q14 true 10 36 ?_;refine zoStore 11 ⟨?_⟩;refine aAny_done (by kernel_rfl) ?_;refine k14 _ ?_;refine n12 _ ?_;refine n11 _ _ (weak_keep [2,3,20,21,22] _) ?_;refine zk ⟨?_⟩;refine yV ⟨?_⟩;refine n7 _ (i+1) ?_ ?_ ?_
     ·refine weak_bothN [2,3,20,21,22] [0,1,2,3,4,5,12,7] ⟨?_⟩
      rw [←hsn];rfl
     ·exact hlt
     ·show _ < _;omega
    ·intro hc0
     have hend:i=ws.length:=by omega
     subst hend
     refine zn [2,3] ⟨?_⟩;refine yR [2] ⟨?_⟩;refine zq1 ⟨?_⟩
     rw [List.take_length]
     exact rta
  ·refine zsAlloc ⟨?_⟩
   refine zoc 9 (copyIncidents_con ins hil hin) ⟨?_⟩;refine zdBuild q3 true 10 16 ?_;refine zoStore 12 ⟨?_⟩;refine aAny_done (by kernel_rfl) ?_;refine k3 _ ?_;refine n2 _ _ (weak_keep [0,2,3] _) ?_;refine zk ⟨?_⟩;refine v_seq ?_;intros;refine yR [2,3,20,21,22] ⟨?_⟩;refine v_block ?_;intros;refine v_loop (fun i=>⟨[(2,.ptr 3 0 0),(3,.ptr 7 0 0),(20,.sl (ws.map (fun t:TW=>V.agg [V.int .i64 t.1,V.sl (t.2.map (V.int .i64))]))),(21,.int .i64 ws.length),(22,.int .i64 (Nat.cast i))],[.arr [] .flat,.arr [] .flat,.arr [] .flat,.box (.agg [.ref 0,.ref 1,.ref 2]) .mix,.arr (fl.map (fun t:TA=>V.agg [V.str t.1,V.int .i64 t.2.1,V.int .i64 t.2.2.1,V.int .i64 t.2.2.2.1,V.int .i64 t.2.2.2.2])) .flat,.arr (ins.map (fun t:TI=>V.agg [V.int .i64 t.1,V.int .i64 t.2.1,V.bool t.2.2.1,V.sl (t.2.2.2.map V.str)])) (fillK ins.length),.arr ((ws.take i).map (fun t:TW=>V.agg [V.int .i64 t.1,V.sl (t.2.map (V.int .i64))])) (fillK i),.box (.agg [.ref 4,.ref 5,.ref 6]) .mix],false,39,0⟩) (fun i=>i≤ws.length) (fun i=>ws.length - i) 0 ?_ ?_ ?_
   ·refine weak_bothN [2,3,20,21,22] [0,1,2,3,4,9,10,8] ⟨?_⟩
    rfl
   ·exact Nat.zero_le _
   ·rintro i hok20 Q20 n20 e20 r20
    have hi1:i≤ws.length:=hok20
    refine yR [2,3,20,21,22,23] ⟨?_⟩;refine v_seq ?_;intros;refine v_condS _ rfl ?_ ?_
    ·intro hc0
     have hlt:i < ws.length:=by omega
     obtain ⟨⟨x0,x1⟩,hx⟩:∃x:TW,ws[i]? =some x:=⟨ws[i]'(by omega),List.getElem?_eq_getElem (by omega)⟩
     have hlx:=hwn _ (List.mem_of_getElem? hx)
     simp only [] at hlx
     have hsn:(ws.take i).map (fun t:TW=>V.agg [V.int .i64 t.1,V.sl (t.2.map (V.int .i64))])++[V.agg [V.int .i64 x0,V.sl (x1.map (V.int .i64))]]=(ws.take (i+1)).map (fun t:TW=>V.agg [V.int .i64 t.1,V.sl (t.2.map (V.int .i64))]):=(take_map_step (f:=(fun t:TW=>V.agg [V.int .i64 t.1,V.sl (t.2.map (V.int .i64))])) hx).symm
     have hti:(ws.take i).length=i:=by rw [List.length_take];omega
     refine zn [2,3,20,21,22] ⟨?_⟩;refine v_seq ?_;intro Q24 n24 e24 r24;refine v_block ?_;intro Q25 n25 x25 e25 r25
     have F:=Fc.mk (ai (gdm hx) hti)
     refine yR [2,3,5,20,21,22] ⟨?_⟩;refine v_draw (by kernel_rfl) ?_;intro K27 q27 k27
     show aAny _ _ _ _ 12 (Array.replicate 12 false) _
     refine zdFieldAddr q27 true 0 26 ?_;refine zdLoadX q27 true 1 27 ?_;refine zdFieldAddr q27 true 2 28 ?_;refine zdLoadX q27 true 3 29 ?_;refine zdFieldAddr q27 true 4 30 ?_;refine zdLoadX q27 true 5 31 ?_;refine zoc 6 (cloneInt_con x1 hlx) ⟨?_⟩;refine zdBuild q27 true 7 33 ?_;refine zoBuildSlice 8 ⟨?_⟩;refine zoAppend 9 ⟨?_⟩;refine zdFieldAddr q27 true 10 36 ?_;refine zoStore 11 ⟨?_⟩;refine aAny_done (by kernel_rfl) ?_;refine k27 _ ?_;refine n25 _ ?_;refine n24 _ _ (weak_keep [2,3,20,21,22] _) ?_;refine zk ⟨?_⟩;refine yV ⟨?_⟩;refine n20 _ (i+1) ?_ ?_ ?_
     ·refine weak_bothN [2,3,20,21,22] [0,1,2,3,4,5,12,7] ⟨?_⟩
      rw [←hsn];rfl
     ·exact hlt
     ·show _ < _;omega
    ·intro hc0
     have hend:i=ws.length:=by omega
     subst hend
     refine zn [2,3] ⟨?_⟩;refine yR [2] ⟨?_⟩;refine zq1 ⟨?_⟩
     rw [List.take_length]
     exact rta
 ·refine zsAlloc ⟨?_⟩
  refine zoc 4 (cloneAppliance_con fl hl) ⟨?_⟩;refine zoc 9 (copyIncidents_con ins hil hin) ⟨?_⟩;refine zdBuild q3 true 10 16 ?_;refine zoStore 12 ⟨?_⟩;refine aAny_done (by kernel_rfl) ?_;refine k3 _ ?_;refine n2 _ _ (weak_keep [0,2,3] _) ?_;refine zk ⟨?_⟩;refine v_seq ?_;intros;refine yR [2,3,20,21,22] ⟨?_⟩;refine v_block ?_;intros;refine v_loop (fun i=>⟨[(2,.ptr 3 0 0),(3,.ptr 7 0 0),(20,.sl (ws.map (fun t:TW=>V.agg [V.int .i64 t.1,V.sl (t.2.map (V.int .i64))]))),(21,.int .i64 ws.length),(22,.int .i64 (Nat.cast i))],[.arr [] .flat,.arr [] .flat,.arr [] .flat,.box (.agg [.ref 0,.ref 1,.ref 2]) .mix,.arr (fl.map (fun t:TA=>V.agg [V.str t.1,V.int .i64 t.2.1,V.int .i64 t.2.2.1,V.int .i64 t.2.2.2.1,V.int .i64 t.2.2.2.2])) .flat,.arr (ins.map (fun t:TI=>V.agg [V.int .i64 t.1,V.int .i64 t.2.1,V.bool t.2.2.1,V.sl (t.2.2.2.map V.str)])) (fillK ins.length),.arr ((ws.take i).map (fun t:TW=>V.agg [V.int .i64 t.1,V.sl (t.2.map (V.int .i64))])) (fillK i),.box (.agg [.ref 4,.ref 5,.ref 6]) .mix],false,39,0⟩) (fun i=>i≤ws.length) (fun i=>ws.length - i) 0 ?_ ?_ ?_
  ·refine weak_bothN [2,3,20,21,22] [0,1,2,3,8,9,10,7] ⟨?_⟩
   rfl
  ·exact Nat.zero_le _
  ·rintro i hok33 Q33 n33 e33 r33
   have hi1:i≤ws.length:=hok33
   refine yR [2,3,20,21,22,23] ⟨?_⟩;refine v_seq ?_;intros;refine v_condS _ rfl ?_ ?_
   ·intro hc0
    have hlt:i < ws.length:=by omega
    obtain ⟨⟨x0,x1⟩,hx⟩:∃x:TW,ws[i]? =some x:=⟨ws[i]'(by omega),List.getElem?_eq_getElem (by omega)⟩
    have hlx:=hwn _ (List.mem_of_getElem? hx)
    simp only [] at hlx
    have hsn:(ws.take i).map (fun t:TW=>V.agg [V.int .i64 t.1,V.sl (t.2.map (V.int .i64))])++[V.agg [V.int .i64 x0,V.sl (x1.map (V.int .i64))]]=(ws.take (i+1)).map (fun t:TW=>V.agg [V.int .i64 t.1,V.sl (t.2.map (V.int .i64))]):=(take_map_step (f:=(fun t:TW=>V.agg [V.int .i64 t.1,V.sl (t.2.map (V.int .i64))])) hx).symm
    have hti:(ws.take i).length=i:=by rw [List.length_take];omega
    refine zn [2,3,20,21,22] ⟨?_⟩;refine v_seq ?_;intro Q37 n37 e37 r37;refine v_block ?_;intro Q38 n38 x38 e38 r38
    have F:=Fc.mk (ai (gdm hx) hti)
    refine yR [2,3,5,20,21,22] ⟨?_⟩;refine v_draw (by kernel_rfl) ?_;intro K40 q40 k40
    show aAny _ _ _ _ 12 (Array.replicate 12 false) _
    refine zdFieldAddr q40 true 0 26 ?_;refine zdLoadX q40 true 1 27 ?_;refine zdFieldAddr q40 true 2 28 ?_;refine zdLoadX q40 true 3 29 ?_;refine zdFieldAddr q40 true 4 30 ?_;refine zdLoadX q40 true 5 31 ?_;refine zoc 6 (cloneInt_con x1 hlx) ⟨?_⟩;refine zdBuild q40 true 7 33 ?_;refine zoBuildSlice 8 ⟨?_⟩;refine zoAppend 9 ⟨?_⟩;refine zdFieldAddr q40 true 10 36 ?_;refine zoStore 11 ⟨?_⟩;refine aAny_done (by kernel_rfl) ?_;refine k40 _ ?_;refine n38 _ ?_;refine n37 _ _ (weak_keep [2,3,20,21,22] _) ?_;refine zk ⟨?_⟩;refine yV ⟨?_⟩;refine n33 _ (i+1) ?_ ?_ ?_
    ·refine weak_bothN [2,3,20,21,22] [0,1,2,3,4,5,12,7] ⟨?_⟩
     rw [←hsn];rfl
    ·exact hlt
    ·show _ < _;omega
   ·intro hc0
    have hend:i=ws.length:=by omega
    subst hend
    refine zn [2,3] ⟨?_⟩;refine yR [2] ⟨?_⟩;refine zq1 ⟨?_⟩
    rw [List.take_length]
    exact rta
theorem roOwn_con (fl:List TA) (ins:List TI) (ws:List TW) (hl:fl.length≤1048576) (hil:ins.length≤1048576) (hin:∀x∈ins,x.2.2.2.length≤1048576) (hwl:ws.length≤1048576) (hwn:∀x∈ws,x.2.length≤1048576):Con Tryz.prog 74 [.agg [.sl (fl.map (fun t:TA=>V.agg [V.str t.1,V.int .i64 t.2.1,V.int .i64 t.2.2.1,V.int .i64 t.2.2.2.1,V.int .i64 t.2.2.2.2])),.sl (ins.map (fun t:TI=>V.agg [V.int .i64 t.1,V.int .i64 t.2.1,V.bool t.2.2.1,V.sl (t.2.2.2.map V.str)])),.sl (ws.map (fun t:TW=>V.agg [V.int .i64 t.1,V.sl (t.2.map (V.int .i64))]))]] [] (.agg [.ref 0,.ref 1,.ref 2]) [.arr (fl.map (fun t:TA=>V.agg [V.str t.1,V.int .i64 t.2.1,V.int .i64 t.2.2.1,V.int .i64 t.2.2.2.1,V.int .i64 t.2.2.2.2])) .flat,.arr (ins.map (fun t:TI=>V.agg [V.int .i64 t.1,V.int .i64 t.2.1,V.bool t.2.2.1,V.sl (t.2.2.2.map V.str)])) (fillK ins.length),.arr (ws.map (fun t:TW=>V.agg [V.int .i64 t.1,V.sl (t.2.map (V.int .i64))])) (fillK ws.length)]:=by
 have hns:(fl.map (fun t:TA=>V.agg [V.str t.1,V.int .i64 t.2.1,V.int .i64 t.2.2.1,V.int .i64 t.2.2.2.1,V.int .i64 t.2.2.2.2])).all V.noSl=true:=by rw [List.all_map,List.all_eq_true];intro a _;rfl
 refine v_con [.cell 2 42] [] Tryz.func74 rfl rfl rfl (by simp [Tryz.ntmps74]) ?_
 intro Q0 n0 r0
 simp only [Tryz.ntmps74,envFrom,Nat.reduceAdd]
 have T:=Tys.mk (ai Ty.t3 (ai Ty.t4 (ai Ty.t9 (ai Ty.t38 (ai Ty.t39 (ai Ty.t40 (ai Ty.t42 (ai Ty.t47 (ai Ty.t49 (ai Ty.t76 (ai Ty.t78 Ty.t95)))))))))))
 have F:=Fc.mk True.intro
 have F:=Fc.mk hns
 refine yR [1,2] ⟨?_⟩;refine v_seq ?_;intro Q2 n2 e2 r2;refine v_draw (by kernel_rfl) ?_;intro K3 q3 k3
 show aAny _ _ _ _ 12 (Array.replicate 12 false) _
 refine zdFieldAddr q3 true 1 4 ?_;refine zdLoadX q3 true 2 5 ?_;refine zdFieldAddr q3 false 4 7 ?_;refine zdFieldAddr q3 false 7 10 ?_;refine aAny_three 0 5 8 rfl rfl rfl (by kernel_rfl) ?_ ?_ ?_
 ·refine zsBuildSlice ⟨?_⟩
  refine aAny_three 3 5 8 rfl rfl rfl (by kernel_rfl) ?_ ?_ ?_
  ·refine zsAppend ⟨?_⟩
   refine zdLoadX q3 true 5 8 ?_;refine zdLoadX q3 true 8 11 ?_;refine zoc 6 (ixOwn_con ins hil hin) ⟨?_⟩;refine zoc 9 (roWants_con ws hwl hwn) ⟨?_⟩;refine zdBuild q3 true 10 13 ?_;refine zoStore 11 ⟨?_⟩;refine aAny_done (by kernel_rfl) ?_;refine k3 _ ?_;refine n2 _ _ (weak_keep [2] _) ?_;refine zq5 ⟨?_⟩
   exact rta
  ·refine zsLoad ⟨?_⟩
   refine aAny_two 3 8 rfl rfl (by kernel_rfl) ?_ ?_
   ·refine zsAppend ⟨?_⟩
    refine zdLoadX q3 true 8 11 ?_;refine zoc 6 (ixOwn_con ins hil hin) ⟨?_⟩;refine zoc 9 (roWants_con ws hwl hwn) ⟨?_⟩;refine zdBuild q3 true 10 13 ?_;refine zoStore 11 ⟨?_⟩;refine aAny_done (by kernel_rfl) ?_;refine k3 _ ?_;refine n2 _ _ (weak_keep [2] _) ?_;refine zq5 ⟨?_⟩
    exact rta
   ·refine zsLoad ⟨?_⟩
    refine zoAppend 3 ⟨?_⟩;refine zoc 6 (ixOwn_con ins hil hin) ⟨?_⟩;refine zoc 9 (roWants_con ws hwl hwn) ⟨?_⟩;refine zdBuild q3 true 10 13 ?_;refine zoStore 11 ⟨?_⟩;refine aAny_done (by kernel_rfl) ?_;refine k3 _ ?_;refine n2 _ _ (weak_keep [2] _) ?_;refine zq5 ⟨?_⟩
    exact rta
  ·refine zsLoad ⟨?_⟩
   refine aAny_two 3 5 rfl rfl (by kernel_rfl) ?_ ?_
   ·refine zsAppend ⟨?_⟩
    refine zdLoadX q3 true 5 8 ?_;refine zoc 6 (ixOwn_con ins hil hin) ⟨?_⟩;refine zoc 9 (roWants_con ws hwl hwn) ⟨?_⟩;refine zdBuild q3 true 10 13 ?_;refine zoStore 11 ⟨?_⟩;refine aAny_done (by kernel_rfl) ?_;refine k3 _ ?_;refine n2 _ _ (weak_keep [2] _) ?_;refine zq5 ⟨?_⟩
    exact rta
   ·refine zsLoad ⟨?_⟩
    refine zoAppend 3 ⟨?_⟩;refine zoc 6 (ixOwn_con ins hil hin) ⟨?_⟩;refine zoc 9 (roWants_con ws hwl hwn) ⟨?_⟩;refine zdBuild q3 true 10 13 ?_;refine zoStore 11 ⟨?_⟩;refine aAny_done (by kernel_rfl) ?_;refine k3 _ ?_;refine n2 _ _ (weak_keep [2] _) ?_;refine zq5 ⟨?_⟩
    exact rta
 ·refine zsLoad ⟨?_⟩
  refine aAny_two 0 8 rfl rfl (by kernel_rfl) ?_ ?_
  ·refine zsBuildSlice ⟨?_⟩
   refine aAny_two 3 8 rfl rfl (by kernel_rfl) ?_ ?_
   ·refine zsAppend ⟨?_⟩
    refine zdLoadX q3 true 8 11 ?_;refine zoc 6 (ixOwn_con ins hil hin) ⟨?_⟩;refine zoc 9 (roWants_con ws hwl hwn) ⟨?_⟩;refine zdBuild q3 true 10 13 ?_;refine zoStore 11 ⟨?_⟩;refine aAny_done (by kernel_rfl) ?_;refine k3 _ ?_;refine n2 _ _ (weak_keep [2] _) ?_;refine zq5 ⟨?_⟩
    exact rta
   ·refine zsLoad ⟨?_⟩
    refine zoAppend 3 ⟨?_⟩;refine zoc 6 (ixOwn_con ins hil hin) ⟨?_⟩;refine zoc 9 (roWants_con ws hwl hwn) ⟨?_⟩;refine zdBuild q3 true 10 13 ?_;refine zoStore 11 ⟨?_⟩;refine aAny_done (by kernel_rfl) ?_;refine k3 _ ?_;refine n2 _ _ (weak_keep [2] _) ?_;refine zq5 ⟨?_⟩
    exact rta
  ·refine zsLoad ⟨?_⟩
   refine zoBuildSlice 0 ⟨?_⟩;refine zoAppend 3 ⟨?_⟩;refine zoc 6 (ixOwn_con ins hil hin) ⟨?_⟩;refine zoc 9 (roWants_con ws hwl hwn) ⟨?_⟩;refine zdBuild q3 true 10 13 ?_;refine zoStore 11 ⟨?_⟩;refine aAny_done (by kernel_rfl) ?_;refine k3 _ ?_;refine n2 _ _ (weak_keep [2] _) ?_;refine zq5 ⟨?_⟩
   exact rta
 ·refine zsLoad ⟨?_⟩
  refine aAny_two 0 5 rfl rfl (by kernel_rfl) ?_ ?_
  ·refine zsBuildSlice ⟨?_⟩
   refine aAny_two 3 5 rfl rfl (by kernel_rfl) ?_ ?_
   ·refine zsAppend ⟨?_⟩
    refine zdLoadX q3 true 5 8 ?_;refine zoc 6 (ixOwn_con ins hil hin) ⟨?_⟩;refine zoc 9 (roWants_con ws hwl hwn) ⟨?_⟩;refine zdBuild q3 true 10 13 ?_;refine zoStore 11 ⟨?_⟩;refine aAny_done (by kernel_rfl) ?_;refine k3 _ ?_;refine n2 _ _ (weak_keep [2] _) ?_;refine zq5 ⟨?_⟩
    exact rta
   ·refine zsLoad ⟨?_⟩
    refine zoAppend 3 ⟨?_⟩;refine zoc 6 (ixOwn_con ins hil hin) ⟨?_⟩;refine zoc 9 (roWants_con ws hwl hwn) ⟨?_⟩;refine zdBuild q3 true 10 13 ?_;refine zoStore 11 ⟨?_⟩;refine aAny_done (by kernel_rfl) ?_;refine k3 _ ?_;refine n2 _ _ (weak_keep [2] _) ?_;refine zq5 ⟨?_⟩
    exact rta
  ·refine zsLoad ⟨?_⟩
   refine zoBuildSlice 0 ⟨?_⟩;refine zoAppend 3 ⟨?_⟩;refine zoc 6 (ixOwn_con ins hil hin) ⟨?_⟩;refine zoc 9 (roWants_con ws hwl hwn) ⟨?_⟩;refine zdBuild q3 true 10 13 ?_;refine zoStore 11 ⟨?_⟩;refine aAny_done (by kernel_rfl) ?_;refine k3 _ ?_;refine n2 _ _ (weak_keep [2] _) ?_;refine zq5 ⟨?_⟩
   exact rta
theorem apWith_con (fl:List TA) (k:Nat) (x0:ByteArray) (x1:Int) (x2:Int) (x3:Int) (x4:Int) (hl:fl.length≤1048576) (hk:k < fl.length):Con Tryz.prog 163 [.sl (fl.map (fun t:TA=>V.agg [V.str t.1,V.int .i64 t.2.1,V.int .i64 t.2.2.1,V.int .i64 t.2.2.2.1,V.int .i64 t.2.2.2.2])),.int .i64 k,.agg [V.str x0,V.int .i64 x1,V.int .i64 x2,V.int .i64 x3,V.int .i64 x4]] [] (.ref 0) [.arr ((fl.set k (x0,x1,x2,x3,x4)).map (fun t:TA=>V.agg [V.str t.1,V.int .i64 t.2.1,V.int .i64 t.2.2.1,V.int .i64 t.2.2.2.1,V.int .i64 t.2.2.2.2])) .flat]:=by
 have hns:(fl.map (fun t:TA=>V.agg [V.str t.1,V.int .i64 t.2.1,V.int .i64 t.2.2.1,V.int .i64 t.2.2.2.1,V.int .i64 t.2.2.2.2])).all V.noSl=true:=by rw [List.all_map,List.all_eq_true];intro a _;rfl
 obtain ⟨y,hy⟩:∃y,fl[k]? =some y:=⟨_,List.getElem?_eq_getElem hk⟩
 have hsm:(fl.map (fun t:TA=>V.agg [V.str t.1,V.int .i64 t.2.1,V.int .i64 t.2.2.1,V.int .i64 t.2.2.2.1,V.int .i64 t.2.2.2.2])).set k (V.agg [V.str x0,V.int .i64 x1,V.int .i64 x2,V.int .i64 x3,V.int .i64 x4])=(fl.set k (x0,x1,x2,x3,x4)).map (fun t:TA=>V.agg [V.str t.1,V.int .i64 t.2.1,V.int .i64 t.2.2.1,V.int .i64 t.2.2.2.1,V.int .i64 t.2.2.2.2]):=by have q:=List.map_set (f:=(fun t:TA=>V.agg [V.str t.1,V.int .i64 t.2.1,V.int .i64 t.2.2.1,V.int .i64 t.2.2.2.1,V.int .i64 t.2.2.2.2])) (l:=fl) (i:=k) (a:=(x0,x1,x2,x3,x4));exact q.symm
 refine v_con [.tmp 6] [] Tryz.func163 rfl rfl rfl (by simp [Tryz.ntmps163]) ?_
 intro Q0 n0 r0
 simp only [Tryz.ntmps163,envFrom,Nat.reduceAdd]
 have T:=Tys.mk (ai Ty.t3 (ai Ty.t9 (ai Ty.t38 Ty.t76)))
 have F:=Fc.mk True.intro
 have F:=Fc.mk (ai hns (ai (gdm hy) hsm))
 refine yR [0,1,5] ⟨?_⟩;refine yR [1,5,7] ⟨?_⟩;refine yR [7] ⟨?_⟩;refine yR [6] ⟨?_⟩;refine zr ⟨?_⟩
 exact ret_refK rfl rfl rfl
end Go.Proofs.YtaefoaghpehbpaaGreatDoor
