/- What functions compute. No condition. -/
import Derived.Test.YtmhaafinhpopmaaGreatDoorX12
import Derived.Test.YtmhaafinhpopmaaGreatDoorX15
set_option linter.unusedSimpArgs false
set_option linter.unusedVariables false
set_option linter.defProp false
namespace Go.Proofs.YtmhaafinhpopmaaGreatDoor
open Go Go.Vm
set_option maxHeartbeats 8000000
def szL {α:Type} (f:Int→α→Int) (n:Int) (l:List α):Int:=if n - (l.length:Int) < 0 then -1 else szLst f (n - (l.length:Int)) l
def szCtl (n:Int) (fl:List TA) (ins:List TI) (ws:List TW):Int:=
  if szL szAppliance1 n fl < 0 then -1 else if szL szIncident1 (szL szAppliance1 n fl) ins < 0 then -1 else if szL szWant1 (szL szIncident1 (szL szAppliance1 n fl) ins) ws < 0 then -1 else szL szWant1 (szL szIncident1 (szL szAppliance1 n fl) ins) ws
theorem szL_if {α:Type} {f:Int→α→Int} {n:Int} {l:List α} (hf:∀n t,0≤n→f n t≤n) (h0:0≤n) (hn:n≤1048576) (h:0≤szL f n l):l.length≤1048576∧0≤szL f n l∧szL f n l≤1048576:=szIfL hf h0 hn h
theorem szL_lst {α:Type} {f:Int→α→Int} {n:Int} {l:List α} (h:0≤szL f n l):0≤n - (l.length:Int)∧0≤szLst f (n - (l.length:Int)) l:=by
  unfold szL at h;split at h<;>omega
theorem szIfC {n:Int} {fl:List TA} {ins:List TI} {ws:List TW} (h0:0≤n) (hn:n≤1048576) (h:0≤szCtl n fl ins ws) :
    fl.length≤1048576∧ins.length≤1048576∧(∀x∈ins,x.2.2.2.length≤1048576)∧ws.length≤1048576∧(∀x∈ws,x.2.length≤1048576)∧(0≤szCtl n fl ins ws∧szCtl n fl ins ws≤1048576):=by
  unfold szCtl at h⊢
  by_cases a:szL szAppliance1 n fl < 0
  · rw [if_pos a] at h;omega
  · rw [if_neg a] at h⊢
    obtain ⟨a1,a2,a3⟩:=szL_if szAppliance1_le h0 hn (by omega:0≤szL szAppliance1 n fl)
    by_cases b:szL szIncident1 (szL szAppliance1 n fl) ins < 0
    · rw [if_pos b] at h;omega
    · rw [if_neg b] at h⊢
      have hb:0≤szL szIncident1 (szL szAppliance1 n fl) ins:=by omega
      obtain ⟨b1,b2,b3⟩:=szL_if szIncident1_le a2 a3 hb
      by_cases c:szL szWant1 (szL szIncident1 (szL szAppliance1 n fl) ins) ws < 0
      · rw [if_pos c] at h;omega
      · rw [if_neg c] at h⊢
        have hc:0≤szL szWant1 (szL szIncident1 (szL szAppliance1 n fl) ins) ws:=by omega
        obtain ⟨c1,c2,c3⟩:=szL_if szWant1_le b2 b3 hc;refine ⟨a1,b1,fun x hx=> ?_,c1,fun x hx=> ?_,c2,c3⟩
        · have:=szIncident_lens (szL_lst hb).1 (szL_lst hb).2 x hx;omega
        · have:=szWant_lens (szL_lst hc).1 (szL_lst hc).2 x hx;omega
theorem szControl_con (n:Int) (fl:List TA) (ins:List TI) (ws:List TW) (hn:0≤n∧n≤1048576) (hl:fl.length≤9223372036854775807) (hls:∀t∈fl,t.1.size≤9223372036854775807) (hi:ins.length≤9223372036854775807) (his:∀t∈ins,t.2.2.2.length≤9223372036854775807∧∀s∈t.2.2.2,s.size≤9223372036854775807) (hw:ws.length≤9223372036854775807) (hws:∀t∈ws,t.2.length≤9223372036854775807):Con Tryz.prog 29 [.agg [.sl (fl.map (fun t:TA=>V.agg [V.str t.1,V.int .i64 t.2.1,V.int .i64 t.2.2.1,V.int .i64 t.2.2.2.1,V.int .i64 t.2.2.2.2])),.sl (ins.map (fun t:TI=>V.agg [V.int .i64 t.1,V.int .i64 t.2.1,V.bool t.2.2.1,V.sl (t.2.2.2.map V.str)])),.sl (ws.map (fun t:TW=>V.agg [V.int .i64 t.1,V.sl (t.2.map (V.int .i64))]))],.int .i64 n] [] (.int .i64 (szCtl n fl ins ws)) []:=by
 refine v_con [.tmp 4] [] Tryz.func29 rfl rfl rfl (by simp [Tryz.ntmps29]) ?_;intro Q0 n0 r0;simp only [Tryz.ntmps29,envFrom,Nat.reduceAdd];have T:=Tys.mk (ai Ty.t3 (ai Ty.t4 (ai Ty.t9 (ai Ty.t35 (ai Ty.t54 (ai Ty.t55 (ai Ty.t56 (ai Ty.t58 (ai Ty.t59 (ai Ty.t145 (ai Ty.t148 Ty.t151)))))))))));have F:=Fc.mk True.intro;refine yR [1,2] ⟨?_⟩;refine yRc [1,2] ((szApplianceS_con n fl hn hl hls:Con _ _ _ _ (.int .i64 (szL szAppliance1 n fl)) _)) ⟨?_⟩;refine v_seq ?_;intros;refine yR [1,2,10] ⟨?_⟩;refine v_condS _ rfl ?_ ?_
 ·intro hc0;have z1:szL szAppliance1 n fl < 0:=hc0;refine yR [4] ⟨?_⟩;refine zr ⟨?_⟩;exact ret_pure rfl (by rw [szCtl,if_pos z1]) (.inl rfl)
 ·intro hc0;have y1:0≤szL szAppliance1 n fl:=hc0;have z1:¬szL szAppliance1 n fl < 0:=by omega
  obtain ⟨b1,q1⟩:=szL_if szAppliance1_le hn.1 hn.2 (by omega:0≤szL szAppliance1 n fl);refine zn [1,2] ⟨?_⟩;refine yRc [1,2] ((szIncidentS_con (szL szAppliance1 n fl) ins q1 hi his:Con _ _ _ _ (.int .i64 (szL szIncident1 (szL szAppliance1 n fl) ins)) _)) ⟨?_⟩;refine v_seq ?_;intros;refine yR [1,2,16] ⟨?_⟩;refine v_condS _ rfl ?_ ?_
  ·intro hc1;have z2:szL szIncident1 (szL szAppliance1 n fl) ins < 0:=hc1;refine yR [4] ⟨?_⟩;refine zr ⟨?_⟩;exact ret_pure rfl (by rw [szCtl,if_neg z1,if_pos z2]) (.inl rfl)
  ·intro hc1;have y2:0≤szL szIncident1 (szL szAppliance1 n fl) ins:=hc1;have z2:¬szL szIncident1 (szL szAppliance1 n fl) ins < 0:=by omega
   obtain ⟨b2,q2⟩:=szL_if szIncident1_le q1.1 q1.2 (by omega:0≤szL szIncident1 (szL szAppliance1 n fl) ins);refine zn [1,2] ⟨?_⟩;refine yRc [1] ((szWantS_con (szL szIncident1 (szL szAppliance1 n fl) ins) ws q2 hw hws:Con _ _ _ _ (.int .i64 (szL szWant1 (szL szIncident1 (szL szAppliance1 n fl) ins) ws)) _)) ⟨?_⟩;refine v_seq ?_;intros;refine yR [1,22] ⟨?_⟩;refine v_condS _ rfl ?_ ?_
   ·intro hc2;have z3:szL szWant1 (szL szIncident1 (szL szAppliance1 n fl) ins) ws < 0:=hc2;refine yR [4] ⟨?_⟩;refine zr ⟨?_⟩;exact ret_pure rfl (by rw [szCtl,if_neg z1,if_neg z2,if_pos z3]) (.inl rfl)
   ·intro hc2;have y3:0≤szL szWant1 (szL szIncident1 (szL szAppliance1 n fl) ins) ws:=hc2;have z3:¬szL szWant1 (szL szIncident1 (szL szAppliance1 n fl) ins) ws < 0:=by omega
    refine zn [1] ⟨?_⟩;refine yR [4] ⟨?_⟩;refine zr ⟨?_⟩;exact ret_pure rfl (by rw [szCtl,if_neg z1,if_neg z2,if_neg z3];rfl) (.inl rfl)
theorem toControl_con (fl:List TA) (ins:List TI) (ws:List TW) (hl:fl.length≤1048576) (hil:ins.length≤1048576) (hin:∀x∈ins,x.2.2.2.length≤1048576) (hwl:ws.length≤1048576) (hwn:∀x∈ws,x.2.length≤1048576):Con Tryz.prog 33 [.agg [.sl (fl.map (fun t:TA=>V.agg [V.str t.1,V.int .i64 t.2.1,V.int .i64 t.2.2.1,V.int .i64 t.2.2.2.1,V.int .i64 t.2.2.2.2])),.sl (ins.map (fun t:TI=>V.agg [V.int .i64 t.1,V.int .i64 t.2.1,V.bool t.2.2.1,V.sl (t.2.2.2.map V.str)])),.sl (ws.map (fun t:TW=>V.agg [V.int .i64 t.1,V.sl (t.2.map (V.int .i64))]))]] [] (.agg [.ref 0,.ref 1,.ref 2]) [.arr (fl.map (fun t:TA=>V.agg [V.str t.1,V.int .i64 t.2.1,V.int .i64 t.2.2.1,V.int .i64 t.2.2.2.1,V.int .i64 t.2.2.2.2])) .flat,.arr (ins.map (fun t:TI=>V.agg [V.int .i64 t.1,V.int .i64 t.2.1,V.bool t.2.2.1,V.sl (t.2.2.2.map V.str)])) (fillK ins.length),.arr (ws.map (fun t:TW=>V.agg [V.int .i64 t.1,V.sl (t.2.map (V.int .i64))])) (fillK ws.length)]:=by
 refine v_con [.cell 2 67] [] Tryz.func33 rfl rfl rfl (by simp [Tryz.ntmps33]) ?_;intro Q0 n0 r0;simp only [Tryz.ntmps33,envFrom,Nat.reduceAdd];have T:=Tys.mk (ai Ty.t3 (ai Ty.t4 (ai Ty.t9 (ai Ty.t35 (ai Ty.t54 (ai Ty.t55 (ai Ty.t56 (ai Ty.t58 (ai Ty.t59 (ai Ty.t63 (ai Ty.t64 (ai Ty.t65 (ai Ty.t67 (ai Ty.t145 (ai Ty.t148 (ai Ty.t151 (ai Ty.t154 (ai Ty.t156 Ty.t158))))))))))))))))));have F:=Fc.mk True.intro;refine yR [1,2] ⟨?_⟩;refine yR [1,2,3] ⟨?_⟩;refine yRc [1,2,3] (toApplianceS_con fl hl) ⟨?_⟩;refine yRc [1,2,3] (toIncidentS_con ins hil hin) ⟨?_⟩;refine yRc [2,3] (toWantS_con ws hwl hwn) ⟨?_⟩;refine yR [2] ⟨?_⟩;refine zq1 ⟨?_⟩;exact ret_gen [9,10,11] rfl rfl (by decide) rfl (by simp) (by simp [Blk.kindIs,fillK_fd]) rfl
theorem eqControl_con (fl:List TA) (ins:List TI) (ws:List TW) (hl:fl.length≤1048576) (hil:ins.length≤1048576) (hin:∀x∈ins,x.2.2.2.length≤1048576) (hwl:ws.length≤1048576) (hwn:∀x∈ws,x.2.length≤1048576):Con Tryz.prog 36 [.agg [.sl (fl.map (fun t:TA=>V.agg [V.str t.1,V.int .i64 t.2.1,V.int .i64 t.2.2.1,V.int .i64 t.2.2.2.1,V.int .i64 t.2.2.2.2])),.sl (ins.map (fun t:TI=>V.agg [V.int .i64 t.1,V.int .i64 t.2.1,V.bool t.2.2.1,V.sl (t.2.2.2.map V.str)])),.sl (ws.map (fun t:TW=>V.agg [V.int .i64 t.1,V.sl (t.2.map (V.int .i64))]))],.agg [.sl (fl.map (fun t:TA=>V.agg [V.str t.1,V.int .i64 t.2.1,V.int .i64 t.2.2.1,V.int .i64 t.2.2.2.1,V.int .i64 t.2.2.2.2])),.sl (ins.map (fun t:TI=>V.agg [V.int .i64 t.1,V.int .i64 t.2.1,V.bool t.2.2.1,V.sl (t.2.2.2.map V.str)])),.sl (ws.map (fun t:TW=>V.agg [V.int .i64 t.1,V.sl (t.2.map (V.int .i64))]))]] [] (.bool true) []:=by
 refine v_con [.tmp 4] [] Tryz.func36 rfl rfl rfl (by simp [Tryz.ntmps36]) ?_;intro Q0 n0 r0;simp only [Tryz.ntmps36,envFrom,Nat.reduceAdd];have T:=Tys.mk (ai Ty.t3 (ai Ty.t4 (ai Ty.t9 (ai Ty.t35 (ai Ty.t59 (ai Ty.t63 (ai Ty.t64 (ai Ty.t65 (ai Ty.t67 (ai Ty.t154 (ai Ty.t156 Ty.t158)))))))))));have F:=Fc.mk True.intro;refine yR [2,3] ⟨?_⟩;refine v_seq ?_;intros;refine yRc [2,3,10] (eqApplianceS_con fl fl hl) ⟨?_⟩;refine v_cond _ rfl ?_ ?_
 ·intro hc0;exfalso;simp at hc0
 ·intro hc0;try simp only [zC,reduceCtorEq] at hc0
  refine zn [2,3] ⟨?_⟩;refine v_seq ?_;intros;refine yRc [2,3,16] (eqIncidentS_con ins ins hil hin) ⟨?_⟩;refine v_cond _ rfl ?_ ?_
  ·intro hc1;exfalso;simp at hc1
  ·intro hc1;try simp only [zC,reduceCtorEq] at hc1
   refine zn [2,3] ⟨?_⟩;refine v_seq ?_;intros;refine yRc [22] (eqWantS_con ws ws hwl hwn) ⟨?_⟩;refine v_cond _ rfl ?_ ?_
   ·intro hc2;exfalso;simp at hc2
   ·intro hc2;try simp only [zC,reduceCtorEq] at hc2
    refine zn [] ⟨?_⟩;refine yR [4] ⟨?_⟩;refine zr ⟨?_⟩;exact ret_pure rfl rfl (.inl rfl)
def markStr (k:Int) (n:Nat):List ByteArray:=markG (fun j:Nat=>markT (k+(j:Int))) n
theorem markStr_len (k:Int) (n:Nat):(markStr k n).length=n:=markG_len _ _
theorem markStr_at {k:Int} {n i:Nat} (h:i < n):(markStr k n)[i]? =some (markT (k+(i:Int))):=by
  simp [markStr,markG,List.getElem?_map,List.getElem?_range h]
theorem markStringS_con (l:List ByteArray) (k:Int) (hl:l.length≤1048576) (hk:0≤k∧k≤1000000000000000):Con Tryz.prog 42 [.ref 0,.int .i64 k] [.arr (l.map V.str) .flat] (.int .i64 (k+l.length)) [.arr ((markStr k l.length).map V.str) .flat]:=by
 refine v_con [.tmp 4] [] Tryz.func42 rfl rfl rfl (by simp [Tryz.ntmps42]) ?_;intro Q0 n0 r0;simp only [Tryz.ntmps42,envFrom,Nat.reduceAdd];have T:=Tys.mk (ai Ty.t3 (ai Ty.t9 Ty.t59));have F:=Fc.mk True.intro;refine yR [0,1] ⟨?_⟩;refine v_seq ?_;intros;refine yR [0,1,5] ⟨?_⟩;refine v_block ?_;intros;refine v_loop (fun i=>⟨[(0,.ref 0),(1,.int .i64 (k+Nat.cast i)),(5,.int .i64 (Nat.cast i))],[.arr ((markG (fun j:Nat=>markT (k+(j:Int))) i++l.drop i).map V.str) .flat],false,20,0⟩) (fun i=>i≤l.length) (fun i=>l.length - i) 0 ?_ ?_ ?_
 ·refine weak_bothS [0,1,5] [0] ⟨?_⟩;simp [markG]
 ·exact qld _
 ·rintro i hok5 Q5 n5 e5 r5;have hi1:i≤l.length:=hok5;refine v_seq ?_;intros;refine yR [0,1,5,9] ⟨?_⟩;refine v_condS _ rfl ?_ ?_
  ·intro hc0;have hml:=markG_all (g:=(fun j:Nat=>markT (k+(j:Int)))) hi1;rw [hml] at hc0;have hlt:i < l.length:=by omega
   obtain ⟨x,hx⟩:∃x,l[i]? =some x:=⟨l[i],qla hlt⟩;have hmg:=markG_get (g:=(fun j:Nat=>markT (k+(j:Int)))) hx;have hms:=markG_step (g:=(fun j:Nat=>markT (k+(j:Int)))) hx;refine zn [0,1,5] ⟨?_⟩;refine v_seq ?_;intros;refine v_block ?_;intros;have F:=Fc.mk (ai (gdm hmg) (ai hml (ai @set_map hms)));refine yRc [0,1,5] (markText_con (k+(i:Int)) (by omega)) ⟨?_⟩;refine yQ [0,1,5] ⟨?_⟩;refine yV ⟨?_⟩;refine n5 _ (i+1) ?_ ?_ ?_
   ·refine weak_bothS [0,1,5] [0] ⟨?_⟩;rw [show (k+(i:Int)+1)=k+((i+1:Nat):Int) by omega];rfl
   ·exact hlt
   ·show _ < _;omega
  ·intro hc0;rw [markG_all (g:=(fun j:Nat=>markT (k+(j:Int)))) hi1] at hc0;refine zn [1] ⟨?_⟩;refine yR [4] ⟨?_⟩;refine zr ⟨?_⟩;have hend:i=l.length:=by omega
   subst hend;exact ret_lent rfl (by simp) rfl (by simp [markStr]) (by simp [Blk.kindIs]) (.inl rfl)
theorem heldStringS_con (k:Int) (n:Nat) (hl:n≤1048576) (hk:0≤k∧k≤1000000000000000):Con Tryz.prog 159 [.sl ((markStr k n).map V.str),.int .i64 k] [] (.int .i64 (k+n)) []:=by
 refine v_con [.tmp 4] [] Tryz.func159 rfl rfl rfl (by simp [Tryz.ntmps159]) ?_;intro Q0 n0 r0;simp only [Tryz.ntmps159,envFrom,Nat.reduceAdd];have T:=Tys.mk (ai Ty.t3 (ai Ty.t9 Ty.t59));have F:=Fc.mk True.intro;refine yR [0,1] ⟨?_⟩;refine v_seq ?_;intros;refine yR [0,1,5] ⟨?_⟩;refine v_block ?_;intros;refine v_loop (fun i=>⟨[(0,.sl ((markStr k n).map V.str)),(1,.int .i64 (k+Nat.cast i)),(5,.int .i64 (Nat.cast i))],[],false,22,0⟩) (fun i=>i≤n) (fun i=>n - i) 0 ?_ ?_ ?_
 ·refine weak_of [0,1,5] ?_;simp only [keep_mk,keepE_nil,keepE_cons,look_cons,look_nil,Nat.reduceEqDiff,reduceIte];simp
 ·exact qld _
 ·rintro i hok5 Q5 n5 e5 r5;have hi1:i≤n:=hok5;refine v_seq ?_;intros;refine yR [0,1,5,9] ⟨?_⟩;refine v_condS _ rfl ?_ ?_
  ·intro hc0;rw [markStr_len] at hc0;have hlt:i < n:=by omega
   have hx:=markStr_at (k:=k) hlt;refine zn [0,1,5] ⟨?_⟩;refine v_seq ?_;intros;refine v_block ?_;intros;refine v_seq ?_;intros;refine v_seq ?_;intro Q12 n12 e12 r12;refine v_draw (by kernel_rfl) ?_;intro K13 q13 k13;show aAny _ _ _ _ 7 (Array.replicate 7 false) _;have F:=Fc.mk (ai (gdm hx) @markStr_len);refine zdMove q13 true 0 12 ?_;refine zdMove q13 true 1 13 ?_;refine zdIndexAddr q13 true 2 14 ?_;refine zdLoad q13 true 3 15 ?_;refine zdMove q13 true 4 16 ?_;refine zoc 5 (markText_con (k+(i:Int)) (by omega)) ⟨?_⟩;refine zdBinOp q13 true 6 18 ?_;refine aAny_done (by kernel_rfl) ?_;refine k13 _ ?_;refine n12 _ _ (weak_keep [0,1,5,18] _) ?_;refine zk ⟨?_⟩;refine v_cond _ rfl ?_ ?_
   ·intro hc1;exfalso;simp at hc1
   ·intro hc1;try simp only [zC,reduceCtorEq] at hc1
    refine zn [0,1,5] ⟨?_⟩;refine yQ [0,1,5] ⟨?_⟩;refine yV ⟨?_⟩;refine n5 _ (i+1) ?_ ?_ ?_
    ·refine weak_bothS [0,1,5] [] ⟨?_⟩;rw [show (k+(i:Int)+1)=k+((i+1:Nat):Int) by omega];rfl
    ·exact hlt
    ·show _ < _;omega
  ·intro hc0;rw [markStr_len] at hc0;refine zn [1] ⟨?_⟩;refine yR [4] ⟨?_⟩;refine zr ⟨?_⟩;have hend:i=n:=by omega
   subst hend;exact ret_pure rfl rfl (.inl rfl)
def markStreet (kk:Int) (n:Nat):List TS:=markG (fun j:Nat=>((kk+3 * (j:Int)),(kk+3 * (j:Int)+1),(kk+3 * (j:Int)+1+1))) n
theorem markStreetS_con (l:List TS) (kk:Int) (hl:l.length≤1048576) (hk:0≤kk∧kk≤1000000000000000):Con Tryz.prog 97 [.ref 0,.int .i64 kk] [.arr (l.map (fun t:TS=>V.agg [V.int .i64 t.1,V.int .i64 t.2.1,V.int .i64 t.2.2])) .flat] (.int .i64 (kk+3 * l.length)) [.arr ((markStreet kk l.length).map (fun t:TS=>V.agg [V.int .i64 t.1,V.int .i64 t.2.1,V.int .i64 t.2.2])) .flat]:=by
 refine v_con [.tmp 4] [] Tryz.func97 rfl rfl rfl (by simp [Tryz.ntmps97]) ?_;intro Q0 n0 r0;simp only [Tryz.ntmps97,envFrom,Nat.reduceAdd];have T:=Tys.mk (ai Ty.t3 (ai Ty.t70 Ty.t164));have F:=Fc.mk True.intro;refine yR [0,1] ⟨?_⟩;refine v_seq ?_;intros;refine yR [0,1,5] ⟨?_⟩;refine v_block ?_;intros;refine v_loop (fun i=>⟨[(0,.ref 0),(1,.int .i64 (kk+3 * (Nat.cast i))),(5,.int .i64 (Nat.cast i))],[.arr ((markG (fun j:Nat=>((kk+3 * (j:Int)),(kk+3 * (j:Int)+1),(kk+3 * (j:Int)+1+1))) i++l.drop i).map (fun t:TS=>V.agg [V.int .i64 t.1,V.int .i64 t.2.1,V.int .i64 t.2.2])) .flat],false,34,0⟩) (fun i=>i≤l.length) (fun i=>l.length - i) 0 ?_ ?_ ?_
 ·refine weak_bothS [0,1,5] [0] ⟨?_⟩;simp [markG]
 ·exact qld _
 ·rintro i hok5 Q5 n5 e5 r5;have hi1:i≤l.length:=hok5;refine v_seq ?_;intros;refine yR [0,1,5,9] ⟨?_⟩;refine v_condS _ rfl ?_ ?_
  ·intro hc0;have hml:=markG_all (g:=(fun j:Nat=>((kk+3 * (j:Int)),(kk+3 * (j:Int)+1),(kk+3 * (j:Int)+1+1)))) hi1;rw [hml] at hc0;have hlt:i < l.length:=by omega
   obtain ⟨⟨x0,x1,x2⟩,hx⟩:∃x:TS,l[i]? =some x:=⟨l[i]'(by omega),qla (by omega)⟩;have hmg:=markG_get (g:=(fun j:Nat=>((kk+3 * (j:Int)),(kk+3 * (j:Int)+1),(kk+3 * (j:Int)+1+1)))) hx;have hms:((markG (fun j:Nat=>((kk+3 * (j:Int)),(kk+3 * (j:Int)+1),(kk+3 * (j:Int)+1+1))) i++l.drop i).map (fun t:TS=>V.agg [V.int .i64 t.1,V.int .i64 t.2.1,V.int .i64 t.2.2])).set i (.agg [V.int .i64 (kk+3 * (i:Int)),V.int .i64 (kk+3 * (i:Int)+1),V.int .i64 (kk+3 * (i:Int)+1+1)])=(markG (fun j:Nat=>((kk+3 * (j:Int)),(kk+3 * (j:Int)+1),(kk+3 * (j:Int)+1+1))) (i+1)++l.drop (i+1)).map (fun t:TS=>V.agg [V.int .i64 t.1,V.int .i64 t.2.1,V.int .i64 t.2.2]):=by
    have h:=set_map (f:=(fun t:TS=>V.agg [V.int .i64 t.1,V.int .i64 t.2.1,V.int .i64 t.2.2])) (l:=(markG (fun j:Nat=>((kk+3 * (j:Int)),(kk+3 * (j:Int)+1),(kk+3 * (j:Int)+1+1))) i++l.drop i)) (i:=i) (x:=(fun j:Nat=>((kk+3 * (j:Int)),(kk+3 * (j:Int)+1),(kk+3 * (j:Int)+1+1))) i);rw [markG_step hx] at h;exact h
   refine zn [0,1,5] ⟨?_⟩;refine v_seq ?_;intros;refine v_block ?_;intros;have F:=Fc.mk (ai (gdm hmg) (ai hml (ai @getD_set (ai hlt (ai @qlh.{0} (ai @List.set_set.{0} hms))))));refine yR [0,1,5] ⟨?_⟩;refine yR [0,1,5] ⟨?_⟩;refine yR [0,1,5] ⟨?_⟩;refine yR [0,1,5] ⟨?_⟩;refine yR [0,1,5] ⟨?_⟩;refine yQ [0,1,5] ⟨?_⟩;refine yV ⟨?_⟩;refine n5 _ (i+1) ?_ ?_ ?_
   ·refine weak_bothS [0,1,5] [0] ⟨?_⟩;simp only [getD_set,List.length_map,hml,hlt,List.length_set,List.set_set,hms,List.take_succ_cons,List.take_zero,List.drop_succ_cons,List.drop_zero,List.drop_nil,List.cons_append,List.nil_append,List.append_nil];rw [show (kk+3 * (i:Int)+1+1+1)=kk+3 * ((i+1:Nat):Int) by omega];rfl
   ·exact hlt
   ·show _ < _;omega
  ·intro hc0;rw [markG_all (g:=(fun j:Nat=>((kk+3 * (j:Int)),(kk+3 * (j:Int)+1),(kk+3 * (j:Int)+1+1)))) hi1] at hc0;refine zn [1] ⟨?_⟩;refine yR [4] ⟨?_⟩;refine zr ⟨?_⟩;have hend:i=l.length:=by omega
   subst hend;exact ret_lent rfl (by simp) rfl (by simp [markStreet]) (by simp [Blk.kindIs]) (.inl rfl)
end Go.Proofs.YtmhaafinhpopmaaGreatDoor
