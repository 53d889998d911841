/- What functions compute. No condition. -/
import Derived.Test.YtaefoaghpehbpaaGreatUz
import Derived.Test.YtaefoaghpehbpaaGreatUty
import Derived.Test.YtaefoaghpehbpaaGreatUmG
import Derived.Test.YtaefoaghpehbpaaGreatX12
import Derived.Test.YtaefoaghpehbpaaGreatX7
import Derived.Test.YtaefoaghpehbpaaGreatX5
import Derived.Test.YtaefoaghpehbpaaGreatShelf
import Derived.Test.YtaefoaghpehbpaaGreatX1
set_option linter.unusedSimpArgs false
set_option linter.unusedVariables false
set_option linter.defProp false
namespace Go.Proofs.YtaefoaghpehbpaaGreat
open Go Go.Vm
set_option maxHeartbeats 8000000
theorem cloneStr_con (l:List ByteArray) (hl:l.length≤1048576):Con Tryz.prog 201 [.sl (l.map V.str)] [] (.ref 0) [.arr (l.map V.str) .flat]:=by
 have hns:(l.map V.str).all V.noSl=true:=by rw [List.all_map,List.all_eq_true];intro a _;rfl
 refine v_con [.tmp 2] [] Tryz.func201 rfl rfl rfl (by simp [Tryz.ntmps201]) ?_
 intro Q0 n0 r0
 simp only [Tryz.ntmps201,envFrom,Nat.reduceAdd]
 have T:=Tys.mk (ai Ty.t9 Ty.t51)
 have F:=Fc.mk True.intro
 have F:=Fc.mk hns
 refine yR [0] ⟨?_⟩;refine v_seq ?_;intros;refine v_seqR [0,4] ?_;intro K3 k3;refine zMove ⟨?_⟩;refine zNil ⟨?_⟩
 intro nb4 hnb4
 refine k3 _ ?_;refine zk ⟨?_⟩;refine v_condS _ rfl ?_ ?_
 ·intro hc0
  have hnil:l=[]:=by cases l with | nil=>rfl | cons a b=>have:=hnb4 (by simp);rw [hc0] at this;cases this
  refine yR [2] ⟨?_⟩;refine zr ⟨?_⟩
  rw [hnil];exact ret_refK rfl rfl rfl
 ·intro hc0
  refine zn [0] ⟨?_⟩;refine yR [2] ⟨?_⟩;refine zr ⟨?_⟩
  exact ret_refK rfl rfl (by simp)
theorem ixOwn_con (l:List TI) (hl:l.length≤1048576) (hls:∀t∈l,t.2.2.2.length≤1048576):Con Tryz.prog 124 [.sl (l.map (fun t:TI=>V.agg [V.int .i64 t.1,V.int .i64 t.2.1,V.bool t.2.2.1,V.sl (t.2.2.2.map V.str)]))] [] (.ref 0) [.arr (l.map (fun t:TI=>V.agg [V.int .i64 t.1,V.int .i64 t.2.1,V.bool t.2.2.1,V.sl (t.2.2.2.map V.str)])) (fillK l.length)]:=by
 refine v_con [.tmp 2] [] Tryz.func124 rfl rfl rfl (by simp [Tryz.ntmps124]) ?_
 intro Q0 n0 r0
 simp only [Tryz.ntmps124,envFrom,Nat.reduceAdd]
 have T:=Tys.mk (ai Ty.t3 (ai Ty.t4 (ai Ty.t9 (ai Ty.t33 (ai Ty.t51 Ty.t99)))))
 have F:=Fc.mk True.intro
 refine yR [0] ⟨?_⟩;refine yR [0,3] ⟨?_⟩;refine v_seq ?_;intros;refine yR [3,6,7,8] ⟨?_⟩;refine v_block ?_;intros;refine v_loop (fun i=>⟨[(3,.ref 0),(6,.sl (l.map (fun t:TI=>V.agg [V.int .i64 t.1,V.int .i64 t.2.1,V.bool t.2.2.1,V.sl (t.2.2.2.map V.str)]))),(7,.int .i64 l.length),(8,.int .i64 (Nat.cast i))],[.arr ((l.take i).map (fun t:TI=>V.agg [V.int .i64 t.1,V.int .i64 t.2.1,V.bool t.2.2.1,V.sl (t.2.2.2.map V.str)])) (fillK i)],false,23,0⟩) (fun i=>i≤l.length) (fun i=>l.length - i) 0 ?_ ?_ ?_
 ·refine weak_bothS [3,6,7,8] [1] ⟨?_⟩
  rfl
 ·exact Nat.zero_le _
 ·rintro i hok6 Q6 n6 e6 r6
  have hi1:i≤l.length:=hok6
  refine yR [3,6,7,8,9] ⟨?_⟩;refine v_seq ?_;intros;refine v_condS _ rfl ?_ ?_
  ·intro hc0
   have hlt:i < l.length:=by omega
   obtain ⟨⟨x0,x1,x2,x3⟩,hx⟩:∃x:TI,l[i]? =some x:=⟨l[i]'(by omega),List.getElem?_eq_getElem (by omega)⟩
   have hlx:=hls _ (List.mem_of_getElem? hx)
   simp only [] at hlx
   have hsn:(l.take i).map (fun t:TI=>V.agg [V.int .i64 t.1,V.int .i64 t.2.1,V.bool t.2.2.1,V.sl (t.2.2.2.map V.str)])++[V.agg [V.int .i64 x0,V.int .i64 x1,V.bool x2,V.sl (x3.map V.str)]]=(l.take (i+1)).map (fun t:TI=>V.agg [V.int .i64 t.1,V.int .i64 t.2.1,V.bool t.2.2.1,V.sl (t.2.2.2.map V.str)]):=(take_map_step (f:=(fun t:TI=>V.agg [V.int .i64 t.1,V.int .i64 t.2.1,V.bool t.2.2.1,V.sl (t.2.2.2.map V.str)])) hx).symm
   have hti:(l.take i).length=i:=by rw [List.length_take];omega
   have hns:(x3.map V.str).all V.noSl=true:=by rw [List.all_map,List.all_eq_true];intro a _;rfl
   refine zn [3,6,7,8] ⟨?_⟩;refine v_seq ?_;intros;refine v_block ?_;intros
   have F:=Fc.mk (ai (gdm hx) (ai hti hns))
   refine yR [3,5,6,7,8] ⟨?_⟩;refine yR [3,5,6,7,8] ⟨?_⟩;refine yQ [3,6,7,8] ⟨?_⟩;refine yV ⟨?_⟩;refine n6 _ (i+1) ?_ ?_ ?_
   ·refine weak_bothS [3,6,7,8] [6] ⟨?_⟩
    rw [←hsn];rfl
   ·exact hlt
   ·show _ < _;omega
  ·intro hc0
   have hend:i=l.length:=by omega
   subst hend
   refine zn [3] ⟨?_⟩;refine yR [2] ⟨?_⟩;refine zr ⟨?_⟩
   rw [List.take_length]
   exact ret_refK rfl (by unfold fillK;split<;>rfl) rfl
theorem roWants_con (l:List TW) (hl:l.length≤1048576) (hls:∀t∈l,t.2.length≤1048576):Con Tryz.prog 59 [.sl (l.map (fun t:TW=>V.agg [V.int .i64 t.1,V.sl (t.2.map (V.int .i64))]))] [] (.ref 0) [.arr (l.map (fun t:TW=>V.agg [V.int .i64 t.1,V.sl (t.2.map (V.int .i64))])) (fillK l.length)]:=by
 refine v_con [.tmp 2] [] Tryz.func59 rfl rfl rfl (by simp [Tryz.ntmps59]) ?_
 intro Q0 n0 r0
 simp only [Tryz.ntmps59,envFrom,Nat.reduceAdd]
 have T:=Tys.mk (ai Ty.t3 (ai Ty.t34 (ai Ty.t75 Ty.t102)))
 have F:=Fc.mk True.intro
 refine yR [0] ⟨?_⟩;refine yR [0,3] ⟨?_⟩;refine v_seq ?_;intros;refine yR [3,6,7,8] ⟨?_⟩;refine v_block ?_;intros;refine v_loop (fun i=>⟨[(3,.ref 0),(6,.sl (l.map (fun t:TW=>V.agg [V.int .i64 t.1,V.sl (t.2.map (V.int .i64))]))),(7,.int .i64 l.length),(8,.int .i64 (Nat.cast i))],[.arr ((l.take i).map (fun t:TW=>V.agg [V.int .i64 t.1,V.sl (t.2.map (V.int .i64))])) (fillK i)],false,23,0⟩) (fun i=>i≤l.length) (fun i=>l.length - i) 0 ?_ ?_ ?_
 ·refine weak_bothS [3,6,7,8] [1] ⟨?_⟩
  rfl
 ·exact Nat.zero_le _
 ·rintro i hok6 Q6 n6 e6 r6
  have hi1:i≤l.length:=hok6
  refine yR [3,6,7,8,9] ⟨?_⟩;refine v_seq ?_;intros;refine v_condS _ rfl ?_ ?_
  ·intro hc0
   have hlt:i < l.length:=by omega
   obtain ⟨⟨x0,x1⟩,hx⟩:∃x:TW,l[i]? =some x:=⟨l[i]'(by omega),List.getElem?_eq_getElem (by omega)⟩
   have hlx:=hls _ (List.mem_of_getElem? hx)
   simp only [] at hlx
   have hsn:(l.take i).map (fun t:TW=>V.agg [V.int .i64 t.1,V.sl (t.2.map (V.int .i64))])++[V.agg [V.int .i64 x0,V.sl (x1.map (V.int .i64))]]=(l.take (i+1)).map (fun t:TW=>V.agg [V.int .i64 t.1,V.sl (t.2.map (V.int .i64))]):=(take_map_step (f:=(fun t:TW=>V.agg [V.int .i64 t.1,V.sl (t.2.map (V.int .i64))])) hx).symm
   have hti:(l.take i).length=i:=by rw [List.length_take];omega
   refine zn [3,6,7,8] ⟨?_⟩;refine v_seq ?_;intro Q10 n10 e10 r10;refine v_block ?_;intro Q11 n11 x11 e11 r11
   have F:=Fc.mk (ai (gdm hx) hti)
   refine yR [3,5,6,7,8] ⟨?_⟩;refine v_draw (by kernel_rfl) ?_;intro K13 q13 k13
   show aAny _ _ _ _ 10 (Array.replicate 10 false) _
   refine zdMove q13 true 0 12 ?_;refine zdFieldAddr q13 true 1 13 ?_;refine zdLoad q13 true 2 14 ?_;refine zdFieldAddr q13 true 3 15 ?_;refine zdLoad q13 true 4 16 ?_;refine zoc 5 (l1Own_con x1 hlx) ⟨?_⟩;refine zdBuild q13 true 6 18 ?_;refine zoBuildSlice 7 ⟨?_⟩;refine zoAppend 8 ⟨?_⟩;refine zoAssign 9 ⟨?_⟩;refine aAny_done (by kernel_rfl) ?_;refine k13 _ ?_;refine n11 _ ?_;refine n10 _ _ (weak_keep [3,6,7,8] _) ?_;refine zk ⟨?_⟩;refine yV ⟨?_⟩;refine n6 _ (i+1) ?_ ?_ ?_
   ·refine weak_bothS [3,6,7,8] [5] ⟨?_⟩
    rw [←hsn];rfl
   ·exact hlt
   ·show _ < _;omega
  ·intro hc0
   have hend:i=l.length:=by omega
   subst hend
   refine zn [3] ⟨?_⟩;refine yR [2] ⟨?_⟩;refine zr ⟨?_⟩
   rw [List.take_length]
   exact ret_refK rfl (by unfold fillK;split<;>rfl) rfl
theorem roOwn_con (fl:List TA) (ins:List TI) (ws:List TW) (hl:fl.length≤1048576) (hil:ins.length≤1048576) (hin:∀x∈ins,x.2.2.2.length≤1048576) (hwl:ws.length≤1048576) (hwn:∀x∈ws,x.2.length≤1048576):Con Tryz.prog 56 [.agg [.sl (fl.map (fun t:TA=>V.agg [V.str t.1,V.int .i64 t.2.1,V.int .i64 t.2.2.1,V.int .i64 t.2.2.2.1,V.int .i64 t.2.2.2.2])),.sl (ins.map (fun t:TI=>V.agg [V.int .i64 t.1,V.int .i64 t.2.1,V.bool t.2.2.1,V.sl (t.2.2.2.map V.str)])),.sl (ws.map (fun t:TW=>V.agg [V.int .i64 t.1,V.sl (t.2.map (V.int .i64))]))]] [] (.agg [.ref 0,.ref 1,.ref 2]) [.arr (fl.map (fun t:TA=>V.agg [V.str t.1,V.int .i64 t.2.1,V.int .i64 t.2.2.1,V.int .i64 t.2.2.2.1,V.int .i64 t.2.2.2.2])) .flat,.arr (ins.map (fun t:TI=>V.agg [V.int .i64 t.1,V.int .i64 t.2.1,V.bool t.2.2.1,V.sl (t.2.2.2.map V.str)])) (fillK ins.length),.arr (ws.map (fun t:TW=>V.agg [V.int .i64 t.1,V.sl (t.2.map (V.int .i64))])) (fillK ws.length)]:=by
 have hns:(fl.map (fun t:TA=>V.agg [V.str t.1,V.int .i64 t.2.1,V.int .i64 t.2.2.1,V.int .i64 t.2.2.2.1,V.int .i64 t.2.2.2.2])).all V.noSl=true:=by rw [List.all_map,List.all_eq_true];intro a _;rfl
 refine v_con [.cell 2 36] [] Tryz.func56 rfl rfl rfl (by simp [Tryz.ntmps56]) ?_
 intro Q0 n0 r0
 simp only [Tryz.ntmps56,envFrom,Nat.reduceAdd]
 have T:=Tys.mk (ai Ty.t3 (ai Ty.t4 (ai Ty.t9 (ai Ty.t32 (ai Ty.t33 (ai Ty.t34 (ai Ty.t36 (ai Ty.t51 (ai Ty.t75 (ai Ty.t96 (ai Ty.t99 Ty.t102)))))))))))
 have F:=Fc.mk True.intro
 have F:=Fc.mk hns
 refine yR [1,2] ⟨?_⟩;refine v_seq ?_;intro Q2 n2 e2 r2;refine v_draw (by kernel_rfl) ?_;intro K3 q3 k3
 show aAny _ _ _ _ 12 (Array.replicate 12 false) _
 refine zdFieldAddr q3 true 1 4 ?_;refine zdLoadX q3 true 2 5 ?_;refine zdFieldAddr q3 false 4 7 ?_;refine zdFieldAddr q3 false 7 10 ?_;refine aAny_three 0 5 8 rfl rfl rfl (by kernel_rfl) ?_ ?_ ?_
 ·refine zsBuildSlice ⟨?_⟩
  refine aAny_three 3 5 8 rfl rfl rfl (by kernel_rfl) ?_ ?_ ?_
  ·refine zsAppend ⟨?_⟩
   refine zdLoadX q3 true 5 8 ?_;refine zdLoadX q3 true 8 11 ?_;refine zoc 6 (ixOwn_con ins hil hin) ⟨?_⟩;refine zoc 9 (roWants_con ws hwl hwn) ⟨?_⟩;refine zdBuild q3 true 10 13 ?_;refine zoStore 11 ⟨?_⟩;refine aAny_done (by kernel_rfl) ?_;refine k3 _ ?_;refine n2 _ _ (weak_keep [2] _) ?_;refine zq6 ⟨?_⟩
   exact rta
  ·refine zsLoad ⟨?_⟩
   refine aAny_two 3 8 rfl rfl (by kernel_rfl) ?_ ?_
   ·refine zsAppend ⟨?_⟩
    refine zdLoadX q3 true 8 11 ?_;refine zoc 6 (ixOwn_con ins hil hin) ⟨?_⟩;refine zoc 9 (roWants_con ws hwl hwn) ⟨?_⟩;refine zdBuild q3 true 10 13 ?_;refine zoStore 11 ⟨?_⟩;refine aAny_done (by kernel_rfl) ?_;refine k3 _ ?_;refine n2 _ _ (weak_keep [2] _) ?_;refine zq6 ⟨?_⟩
    exact rta
   ·refine zsLoad ⟨?_⟩
    refine zoAppend 3 ⟨?_⟩;refine zoc 6 (ixOwn_con ins hil hin) ⟨?_⟩;refine zoc 9 (roWants_con ws hwl hwn) ⟨?_⟩;refine zdBuild q3 true 10 13 ?_;refine zoStore 11 ⟨?_⟩;refine aAny_done (by kernel_rfl) ?_;refine k3 _ ?_;refine n2 _ _ (weak_keep [2] _) ?_;refine zq6 ⟨?_⟩
    exact rta
  ·refine zsLoad ⟨?_⟩
   refine aAny_two 3 5 rfl rfl (by kernel_rfl) ?_ ?_
   ·refine zsAppend ⟨?_⟩
    refine zdLoadX q3 true 5 8 ?_;refine zoc 6 (ixOwn_con ins hil hin) ⟨?_⟩;refine zoc 9 (roWants_con ws hwl hwn) ⟨?_⟩;refine zdBuild q3 true 10 13 ?_;refine zoStore 11 ⟨?_⟩;refine aAny_done (by kernel_rfl) ?_;refine k3 _ ?_;refine n2 _ _ (weak_keep [2] _) ?_;refine zq6 ⟨?_⟩
    exact rta
   ·refine zsLoad ⟨?_⟩
    refine zoAppend 3 ⟨?_⟩;refine zoc 6 (ixOwn_con ins hil hin) ⟨?_⟩;refine zoc 9 (roWants_con ws hwl hwn) ⟨?_⟩;refine zdBuild q3 true 10 13 ?_;refine zoStore 11 ⟨?_⟩;refine aAny_done (by kernel_rfl) ?_;refine k3 _ ?_;refine n2 _ _ (weak_keep [2] _) ?_;refine zq6 ⟨?_⟩
    exact rta
 ·refine zsLoad ⟨?_⟩
  refine aAny_two 0 8 rfl rfl (by kernel_rfl) ?_ ?_
  ·refine zsBuildSlice ⟨?_⟩
   refine aAny_two 3 8 rfl rfl (by kernel_rfl) ?_ ?_
   ·refine zsAppend ⟨?_⟩
    refine zdLoadX q3 true 8 11 ?_;refine zoc 6 (ixOwn_con ins hil hin) ⟨?_⟩;refine zoc 9 (roWants_con ws hwl hwn) ⟨?_⟩;refine zdBuild q3 true 10 13 ?_;refine zoStore 11 ⟨?_⟩;refine aAny_done (by kernel_rfl) ?_;refine k3 _ ?_;refine n2 _ _ (weak_keep [2] _) ?_;refine zq6 ⟨?_⟩
    exact rta
   ·refine zsLoad ⟨?_⟩
    refine zoAppend 3 ⟨?_⟩;refine zoc 6 (ixOwn_con ins hil hin) ⟨?_⟩;refine zoc 9 (roWants_con ws hwl hwn) ⟨?_⟩;refine zdBuild q3 true 10 13 ?_;refine zoStore 11 ⟨?_⟩;refine aAny_done (by kernel_rfl) ?_;refine k3 _ ?_;refine n2 _ _ (weak_keep [2] _) ?_;refine zq6 ⟨?_⟩
    exact rta
  ·refine zsLoad ⟨?_⟩
   refine zoBuildSlice 0 ⟨?_⟩;refine zoAppend 3 ⟨?_⟩;refine zoc 6 (ixOwn_con ins hil hin) ⟨?_⟩;refine zoc 9 (roWants_con ws hwl hwn) ⟨?_⟩;refine zdBuild q3 true 10 13 ?_;refine zoStore 11 ⟨?_⟩;refine aAny_done (by kernel_rfl) ?_;refine k3 _ ?_;refine n2 _ _ (weak_keep [2] _) ?_;refine zq6 ⟨?_⟩
   exact rta
 ·refine zsLoad ⟨?_⟩
  refine aAny_two 0 5 rfl rfl (by kernel_rfl) ?_ ?_
  ·refine zsBuildSlice ⟨?_⟩
   refine aAny_two 3 5 rfl rfl (by kernel_rfl) ?_ ?_
   ·refine zsAppend ⟨?_⟩
    refine zdLoadX q3 true 5 8 ?_;refine zoc 6 (ixOwn_con ins hil hin) ⟨?_⟩;refine zoc 9 (roWants_con ws hwl hwn) ⟨?_⟩;refine zdBuild q3 true 10 13 ?_;refine zoStore 11 ⟨?_⟩;refine aAny_done (by kernel_rfl) ?_;refine k3 _ ?_;refine n2 _ _ (weak_keep [2] _) ?_;refine zq6 ⟨?_⟩
    exact rta
   ·refine zsLoad ⟨?_⟩
    refine zoAppend 3 ⟨?_⟩;refine zoc 6 (ixOwn_con ins hil hin) ⟨?_⟩;refine zoc 9 (roWants_con ws hwl hwn) ⟨?_⟩;refine zdBuild q3 true 10 13 ?_;refine zoStore 11 ⟨?_⟩;refine aAny_done (by kernel_rfl) ?_;refine k3 _ ?_;refine n2 _ _ (weak_keep [2] _) ?_;refine zq6 ⟨?_⟩
    exact rta
  ·refine zsLoad ⟨?_⟩
   refine zoBuildSlice 0 ⟨?_⟩;refine zoAppend 3 ⟨?_⟩;refine zoc 6 (ixOwn_con ins hil hin) ⟨?_⟩;refine zoc 9 (roWants_con ws hwl hwn) ⟨?_⟩;refine zdBuild q3 true 10 13 ?_;refine zoStore 11 ⟨?_⟩;refine aAny_done (by kernel_rfl) ?_;refine k3 _ ?_;refine n2 _ _ (weak_keep [2] _) ?_;refine zq6 ⟨?_⟩
   exact rta
theorem fillK_0:fillK 0=.flat:=rfl
theorem ins0_con:Con Tryz.prog 242 [.ref 0,.int .i64 0,.int .i64 0] [.arr [] .flat] (.tup []) [.arr [] .flat]:=by
 refine v_con [] [] Tryz.func242 rfl rfl rfl (by simp [Tryz.ntmps242]) ?_
 intro Q0 n0 r0
 simp only [Tryz.ntmps242,envFrom,Nat.reduceAdd]
 have T:=Tys.mk (ai Ty.t3 (ai Ty.t4 Ty.t75))
 have F:=Fc.mk True.intro
 refine yR [0,1,2,6] ⟨?_⟩;refine v_block ?_;intros;refine v_loop (fun i=>⟨[(0,.ref 0),(1,.int .i64 0),(2,.int .i64 0),(6,.int .i64 1)],[.arr [] .flat],false,49,0⟩) (fun i=>True) (fun i=>0) () ?_ ?_ ?_
 ·refine weak_of [0,1,2,6] ?_
  simp only [keep_mk,keepE_nil,keepE_cons,look_cons,look_nil,Nat.reduceEqDiff,reduceIte]
  all_goals rfl
 ·trivial
 ·rintro i hok3 Q3 n3 e3 r3
  have hok:True:=hok3
  refine v_seq ?_;intros;refine yR [0,1,2,6,12] ⟨?_⟩;refine v_cond _ rfl ?_ ?_
  ·intro hc0
   exfalso;simp at hc0
  ·intro hc0
   try simp only [zC,reduceCtorEq] at hc0
   refine zx ⟨?_⟩;refine zf ⟨?_⟩
   exact ret_lent rfl (by simp) rfl (by simp) (by simp [Blk.kindIs]) (.inl rfl)
theorem pdq0_con (lim:Int):Con Tryz.prog 213 [.ref 0,.int .i64 0,.int .i64 0,.int .i64 lim] [.arr [] .flat] (.tup []) [.arr [] .flat]:=by
 refine v_con [] [(242,[0])] Tryz.func213 rfl rfl rfl (by simp [Tryz.ntmps213]) ?_
 intro Q0 n0 r0
 simp only [Tryz.ntmps213,envFrom,Nat.reduceAdd]
 have T:=Tys.mk (ai Ty.t3 (ai Ty.t4 (ai Ty.t75 Ty.t249)))
 have F:=Fc.mk True.intro
 refine yR [0,1,2,3,8] ⟨?_⟩;refine yR [0,1,2,3,8,9] ⟨?_⟩;refine v_block ?_;intros;refine v_loop (fun i=>⟨[(0,.ref 0),(1,.int .i64 0),(2,.int .i64 0),(3,.int .i64 lim),(8,.bool true),(9,.bool true)],[.arr [] .flat],false,134,0⟩) (fun i=>True) (fun i=>0) () ?_ ?_ ?_
 ·refine weak_of [0,1,2,3,8,9] ?_
  simp only [keep_mk,keepE_nil,keepE_cons,look_cons,look_nil,Nat.reduceEqDiff,reduceIte]
  all_goals rfl
 ·trivial
 ·rintro i hok4 Q4 n4 e4 r4
  have hok:True:=hok4
  refine v_block ?_;intros;refine yR [0,1,2,3,8,9,10] ⟨?_⟩;refine v_seq ?_;intros;refine yR [0,1,2,3,8,9,10,23] ⟨?_⟩;refine v_cond _ rfl ?_ ?_
  ·intro hc0
   try simp only [zC,reduceCtorEq] at hc0
   refine yRl [] (ins0_con) ⟨?_⟩;refine zr ⟨?_⟩
   exact ret_lent rfl (by simp) rfl (by simp) (by simp [Blk.kindIs]) (.inl rfl)
  ·intro hc0
   exfalso;simp at hc0
set_option maxRecDepth 100000 in
theorem len64_0_con:Con Tryz.prog 252 [.int .u64 0] [] (.int .i64 0) []:=by
 refine v_con [.tmp 2] [] Tryz.func252 rfl rfl rfl (by simp [Tryz.ntmps252]) ?_
 intro Q0 n0 r0
 simp only [Tryz.ntmps252,envFrom,Nat.reduceAdd]
 have T:=Tys.mk (ai Ty.t3 (ai Ty.t5 (ai Ty.t9 (ai Ty.t146 Ty.t231))))
 have F:=Fc.mk True.intro
 refine yR [0,2] ⟨?_⟩;refine v_seq ?_;intros;refine yR [0,2,4] ⟨?_⟩;refine v_cond _ rfl ?_ ?_
 ·intro hc0
  exfalso;simp at hc0
 ·intro hc0
  try simp only [zC,reduceCtorEq] at hc0
  refine zn [0,2] ⟨?_⟩;refine v_seq ?_;intros;refine yR [0,2,8] ⟨?_⟩;refine v_cond _ rfl ?_ ?_
  ·intro hc1
   exfalso;simp at hc1
  ·intro hc1
   try simp only [zC,reduceCtorEq] at hc1
   refine zn [0,2] ⟨?_⟩;refine v_seq ?_;intros;refine yR [0,2,14] ⟨?_⟩;refine v_cond _ rfl ?_ ?_
   ·intro hc2
    exfalso;simp at hc2
   ·intro hc2
    try simp only [zC,reduceCtorEq] at hc2
    refine zn [0,2] ⟨?_⟩;refine v_seqR [2] ?_;intro K11 k11;refine zq2 ⟨?_⟩;refine zConvert ⟨?_⟩;refine v_op ?_;intro K k
    simp only [zE,zL,zN,aStepM,optable,set_some,Nat.reduceEqDiff,reduceIte,Nat.reduceLT,implies_true,forall_const,reduceCtorEq,V.ofValue,V.ofScalar,V.un,V.gd,aExec,aop,aIndex,Int.toNat_natCast,Int.reduceToNat,Nat.reduceAdd,Nat.reduceLeDiff,Nat.reduceMul,Tryz.underlying9]
    repeat (refine ai (by first | decide | exact ⟨by decide,by decide⟩ | (intro _;exact ⟨by decide,by decide⟩) | rfl | exact ⟨_,rfl⟩) ?_)
    refine k _ ?_;clear k K;refine zConvert ⟨?_⟩;refine zBinOpW ⟨?_⟩;refine zAssign ⟨?_⟩;refine k11 _ ?_;refine zq1 ⟨?_⟩
    exact ret_pure rfl (by rfl) (.inl rfl)
theorem len_0_con:Con Tryz.prog 214 [.int .u64 0] [] (.int .i64 0) []:=by
 refine v_con [.tmp 2] [] Tryz.func214 rfl rfl rfl (by simp [Tryz.ntmps214]) ?_
 intro Q0 n0 r0
 simp only [Tryz.ntmps214,envFrom,Nat.reduceAdd]
 have T:=Tys.mk (ai Ty.t3 (ai Ty.t146 Ty.t231))
 have F:=Fc.mk True.intro
 refine yR [0] ⟨?_⟩;refine v_seq ?_;intros;refine v_cond _ rfl ?_ ?_
 ·intro hc0
  exfalso;simp at hc0
 ·intro hc0
  try simp only [zC,reduceCtorEq] at hc0
  refine zn [0] ⟨?_⟩;refine yRc [2] (len64_0_con) ⟨?_⟩;refine zr ⟨?_⟩
  exact ret_pure rfl rfl (.inl rfl)
theorem sort0_con:Con Tryz.prog 160 [.ref 0] [.arr [] .flat] (.tup []) [.arr [] .flat]:=by
 refine v_con [] [(213,[0])] Tryz.func160 rfl rfl rfl (by simp [Tryz.ntmps160]) ?_
 intro Q0 n0 r0
 simp only [Tryz.ntmps160,envFrom,Nat.reduceAdd]
 have T:=Tys.mk (ai Ty.t3 (ai Ty.t75 Ty.t231))
 have F:=Fc.mk True.intro
 refine yR [0,2] ⟨?_⟩;refine v_region ?_;intro K2 k2;refine zq2 ⟨?_⟩;refine zMove ⟨?_⟩;refine zConvert ⟨?_⟩;refine zc (len_0_con) ⟨?_⟩;refine zcl (pdq0_con 0) ⟨?_⟩;refine k2 _ ?_;refine n0 _ ?_;refine zf ⟨?_⟩
 exact ret_lent rfl (by simp) rfl (by simp) (by simp [Blk.kindIs]) (.inl rfl)
theorem sortAny_con (zs:List Int) (hl:zs.length < 4611686018427387904):Con Tryz.prog 160 [.ref 0] [.arr (zs.map (V.int .i64)) .flat] (.tup []) [.arr ((sortL zs).map (V.int .i64)) .flat]:=by
  by_cases hne:zs=[]
  · subst hne
    have e:sortL []=[]:=List.length_eq_zero_iff.1 (sortL_len [])
    rw [e];exact sort0_con
  · exact con_sort zs ⟨_,Tryz.func160,rfl,rfl⟩ hne (fun blk off cap w h1 h2=>Tryz.slices_Sort_int blk off cap zs w h1 h2 hl)
def dropOw (ow:Ow) (id:Nat):Ow:=fun b=>match ow b with
  | some (r,j)=>if j=id then none else some (r,j)
  | none=>none
theorem dropOw_ne {ow:Ow} {id b:Nat} (h:dropOw ow id b≠none):ow b≠none:=fun e=>h (by simp [dropOw,e])
theorem dropOw_keep {ow:Ow} {id b j:Nat} {r:Bool} (h:ow b=some (r,j)) (hj:j≠id):dropOw ow id b=ow b:=by simp [dropOw,h,hj]
theorem dropOw_in {ow:Ow} {id b:Nat} {r:Bool} (h:ow b=some (r,id)):dropOw ow id b=none:=by simp [dropOw,h]
theorem vok_drop {cx:Cx} {ow:Ow} {vw:Bool} {b:Nat} (id:Nat) (h:VOK cx ow vw b):VOK cx (dropOw ow id) vw b:=by
  refine ⟨?_,h.2⟩
  rcases h.1 with e | ⟨v,j,e⟩
  · exact .inl (by simp [dropOw,e])
  · by_cases q:j=id
    · exact .inl (by subst q;exact dropOw_in e)
    · exact .inr ⟨v,j,by rw [dropOw_keep e q];exact e⟩
theorem row_drop {cx:Cx} {w:World} {μ:Nat→Option Vm.Loc} {ow:Ow} {vw:Bool} {id j:Nat} {xs:List V} {k:Kd} (hj:j≠id) (h:RowOK cx w μ ow vw j xs k):RowOK cx w μ (dropOw ow id) vw j xs k:=by
  obtain ⟨l,h1,h2,h3⟩:=h
  refine ⟨l,h1,h2,h3.imp (fun z=>z) fun ⟨a1,a2,bl,a3,a4,a5⟩=>⟨a1,(dropOw_keep a2 hj).trans a2,bl,a3,?_,a5⟩⟩
  cases k with
  | flat=>exact a4
  | thin=>exact a4
  | deep | part=>exact ⟨a4.1,fun b hb=>(dropOw_keep (a4.2 b hb) hj).trans (a4.2 b hb)⟩
  | shal=>exact fun b hb=>vok_drop id (a4 b hb)
  | mix=>exact fun b hb=>vok_drop id (a4 b hb)
theorem weak_giveup {m:Nat} {s:St} (t i:Nat) (xs:List V) (k:Kd) (ht:s.get t=.ref i) (hO:s.O[i]? =some (.arr xs k)) (hk:k=.flat∨k=.deep∨k=.thin):Weak m s {s with env:=(t,.sl xs)::s.env,O:=s.O.set i .dead}:=by
  intro cx a w μ ow hmu h
  have hli:i < s.O.length:=(List.getElem?_eq_some_iff.1 hO).1
  have htc:takeCell s (.ref i)=some (.sl xs,[i],false):=by
    simp only [takeCell,St.row,hO,Option.bind_some,Blk.row]
    rcases hk with e | e | e<;>subst e<;>rfl
  refine ⟨μ,dropOw ow i,h.dfr,h.sz,fun t2=> ?_,fun j bk e=> ?_,fun j hj=>h.dom j (by rwa [List.length_set] at hj),fun b hb=>h.owl b (dropOw_ne hb),fun b hb=>h.own b (dropOw_ne hb),h.frm,h.mu⟩
  · obtain ⟨bl,r1,r2⟩:=h.env t2
    show ∃bl,Rep w μ (Vm.look t2 ((t,V.sl xs)::s.env)) _ bl∧_
    rw [look_cons]
    by_cases q:t2=t
    · subst q
      rw [if_pos rfl]
      rw [ht] at r1
      obtain ⟨bl',t1,_,_,t4,_⟩:=takeCell_rep h.sup r1 r2 htc
      obtain ⟨_,own⟩:=t4 rfl
      refine ⟨bl',t1.keep (MLe.zero μ) fun _ _=>rfl,fun b hb=> ?_⟩
      obtain ⟨j,hj,r,e⟩:=own b hb
      rw [List.mem_singleton] at hj
      subst hj
      exact ⟨.inl (dropOw_in e),.inr (h.own b (by rw [e];simp))⟩
    · rw [if_neg q]
      exact ⟨bl,r1,fun b hb=>vok_drop i (r2 b hb)⟩
  · have e2:(s.O.set i .dead)[j]? =some bk:=e
    by_cases q:j=i
    · subst q
      rw [List.getElem?_set_self hli] at e2
      simp only [Option.some.injEq] at e2
      subst e2
      trivial
    · rw [List.getElem?_set_ne (fun z=>q z.symm)] at e2
      have:=h.blk j bk e2
      cases bk with
      | dead=>trivial
      | arr ys k2=>exact row_drop q this
      | box y k2=>exact row_drop q this
def nextI (s:Int):List Int:=if s=0 then [1,5] else if s=1 then [2,0] else if s=2 then [3,4] else if s=3 then [4] else if s=4 then [0,1,5] else [0]
def chgB (fl:List TA) (s:ByteArray) (t:Int):Bool:=decide (0≤findA fl s) && (decide (0≤t) && decide (t≤5)) && decide (t∈nextI (stA fl s))
theorem toArgs_ptrl {s:St} {ls:List Nat} {id i off j:Nat} {cs cs':List V} (h:idx ls id=some j) (h2:toArgs s ls cs=some cs'):toArgs s ls (.ptr id i off::cs)=some (.ptr j i off::cs'):=by
  have e:toArg s ls (.ptr id i off)=some (.ptr j i off):=by cases i<;>simp [toArg,toCell,h]
  rw [toArgs,e,h2]
end Go.Proofs.YtaefoaghpehbpaaGreat
