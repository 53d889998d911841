/- What functions compute. No condition. -/
import Derived.Test.YtaefoaghpehbpaaGreatDoorUz
import Derived.Test.YtaefoaghpehbpaaGreatDoorUty
import Derived.Test.YtaefoaghpehbpaaGreatDoorUmG
import Derived.Test.YtaefoaghpehbpaaGreatDoorX2
import Derived.Test.YtaefoaghpehbpaaGreatDoorX7
import Derived.Test.YtaefoaghpehbpaaGreatDoorX3
import Derived.Test.YtaefoaghpehbpaaGreatDoorX9
import Derived.Test.YtaefoaghpehbpaaGreatDoorX4
import Derived.Test.YtaefoaghpehbpaaGreatDoorX1
set_option linter.unusedSimpArgs false
set_option linter.unusedVariables false
set_option linter.defProp false
namespace Go.Proofs.YtaefoaghpehbpaaGreatDoor
open Go Go.Vm
def szL {α:Type} (f:Int→α→Int) (n:Int) (l:List α):Int:=if n - (l.length:Int) < 0 then -1 else szLst f (n - (l.length:Int)) l
def szCtl (n:Int) (fl:List (ByteArray×Int×Int×Int×Int)) (ins:List (Int×Int×Bool×List ByteArray)) (ws:List (Int×List Int)):Int:=
  if szL szAppliance1 n fl < 0 then -1 else if szL szIncident1 (szL szAppliance1 n fl) ins < 0 then -1 else if szL szWant1 (szL szIncident1 (szL szAppliance1 n fl) ins) ws < 0 then -1 else szL szWant1 (szL szIncident1 (szL szAppliance1 n fl) ins) ws
theorem szL_if {α:Type} {f:Int→α→Int} {n:Int} {l:List α} (hf:∀n t,0≤n→f n t≤n) (h0:0≤n) (hn:n≤1048576) (h:0≤szL f n l):l.length≤1048576∧0≤szL f n l∧szL f n l≤1048576:=szIfL hf h0 hn h
theorem szL_lst {α:Type} {f:Int→α→Int} {n:Int} {l:List α} (h:0≤szL f n l):0≤n - (l.length:Int)∧0≤szLst f (n - (l.length:Int)) l:=by
  unfold szL at h
  split at h<;>omega
theorem szIfC {n:Int} {fl:List (ByteArray×Int×Int×Int×Int)} {ins:List (Int×Int×Bool×List ByteArray)} {ws:List (Int×List Int)} (h0:0≤n) (hn:n≤1048576) (h:0≤szCtl n fl ins ws) :
    fl.length≤1048576∧ins.length≤1048576∧(∀x∈ins,x.2.2.2.length≤1048576)∧ws.length≤1048576∧(∀x∈ws,x.2.length≤1048576)∧(0≤szCtl n fl ins ws∧szCtl n fl ins ws≤1048576):=by
  unfold szCtl at h⊢
  by_cases a:szL szAppliance1 n fl < 0
  · rw [if_pos a] at h;omega
  · rw [if_neg a] at h⊢
    obtain ⟨a1,a2,a3⟩:=szL_if szAppliance1_le h0 hn (by omega:0≤szL szAppliance1 n fl)
    by_cases b:szL szIncident1 (szL szAppliance1 n fl) ins < 0
    · rw [if_pos b] at h;omega
    · rw [if_neg b] at h⊢
      have hb:0≤szL szIncident1 (szL szAppliance1 n fl) ins:=by omega
      obtain ⟨b1,b2,b3⟩:=szL_if szIncident1_le a2 a3 hb
      by_cases c:szL szWant1 (szL szIncident1 (szL szAppliance1 n fl) ins) ws < 0
      · rw [if_pos c] at h;omega
      · rw [if_neg c] at h⊢
        have hc:0≤szL szWant1 (szL szIncident1 (szL szAppliance1 n fl) ins) ws:=by omega
        obtain ⟨c1,c2,c3⟩:=szL_if szWant1_le b2 b3 hc
        refine ⟨a1,b1,fun x hx=> ?_,c1,fun x hx=> ?_,c2,c3⟩
        · have:=szIncident_lens (szL_lst hb).1 (szL_lst hb).2 x hx;omega
        · have:=szWant_lens (szL_lst hc).1 (szL_lst hc).2 x hx;omega
set_option maxHeartbeats 1000000 in
theorem szControl_con (n:Int) (fl:List (ByteArray×Int×Int×Int×Int)) (ins:List (Int×Int×Bool×List ByteArray)) (ws:List (Int×List Int)) (hn:0≤n∧n≤1048576) (hl:fl.length≤9223372036854775807) (hls:∀t∈fl,t.1.size≤9223372036854775807) (hi:ins.length≤9223372036854775807) (his:∀t∈ins,t.2.2.2.length≤9223372036854775807∧∀s∈t.2.2.2,s.size≤9223372036854775807) (hw:ws.length≤9223372036854775807) (hws:∀t∈ws,t.2.length≤9223372036854775807):Con Tryz.prog 7 [.agg [.sl (fl.map (fun t:ByteArray×Int×Int×Int×Int=>V.agg [V.str t.1,V.int .i64 t.2.1,V.int .i64 t.2.2.1,V.int .i64 t.2.2.2.1,V.int .i64 t.2.2.2.2])),.sl (ins.map (fun t:Int×Int×Bool×List ByteArray=>V.agg [V.int .i64 t.1,V.int .i64 t.2.1,V.bool t.2.2.1,V.sl (t.2.2.2.map V.str)])),.sl (ws.map (fun t:Int×List Int=>V.agg [V.int .i64 t.1,V.sl (t.2.map (V.int .i64))]))],.int .i64 n] [] (.int .i64 (szCtl n fl ins ws)) []:=by
 refine v_con [.tmp 4] [] Tryz.func7 rfl rfl rfl (by simp [Tryz.ntmps7]) ?_
 intro Q0 n0 r0
 simp only [Tryz.ntmps7,envFrom,Nat.reduceAdd]
 have T:=Tys.mk (And.intro Ty.t3 (And.intro Ty.t4 (And.intro Ty.t9 (And.intro Ty.t25 (And.intro Ty.t26 (And.intro Ty.t27 (And.intro Ty.t29 (And.intro Ty.t47 (And.intro Ty.t49 (And.intro Ty.t145 (And.intro Ty.t147 Ty.t149)))))))))))
 have F:=Fc.mk True.intro
 refine v_seqR [1,2] ?_;intro K1 k1;refine zq9 ⟨?_⟩;refine k1 _ ?_;refine zk ⟨?_⟩;refine v_seqR [1,2] ?_;intro K2 k2;refine zq26 ⟨?_⟩;refine zc ((szApplianceS_con n fl hn hl hls:Con _ _ _ _ (.int .i64 (szL szAppliance1 n fl)) _)) ⟨?_⟩;refine zAssign ⟨?_⟩;refine k2 _ ?_;refine zk ⟨?_⟩;refine v_seq ?_;intro Q3 n3 e3 r3;refine v_seqR [1,2,10] ?_;intro K4 k4;refine zq13 ⟨?_⟩;refine k4 _ ?_;refine zk ⟨?_⟩;refine v_condS _ rfl ?_ ?_
 ·intro hc0
  have z1:szL szAppliance1 n fl < 0:=hc0
  refine v_seqR [4] ?_;intro K6 k6;refine zAssign ⟨?_⟩;refine k6 _ ?_;refine zk ⟨?_⟩;refine v_ret ?_;refine r3 _ ?_;refine r0 _ ?_;refine zf ⟨?_⟩
  exact ret_pure rfl (by rw [szCtl,if_pos z1]) (.inl rfl)
 ·intro hc0
  have y1:0≤szL szAppliance1 n fl:=hc0
  have z1:¬szL szAppliance1 n fl < 0:=by omega
  obtain ⟨b1,q1⟩:=szL_if szAppliance1_le hn.1 hn.2 (by omega:0≤szL szAppliance1 n fl)
  refine v_skip ?_;refine n3 _ _ (weak_keep [1,2] _) ?_;refine zk ⟨?_⟩;refine v_seqR [1,2] ?_;intro K7 k7;refine zq26 ⟨?_⟩;refine zc ((szIncidentS_con (szL szAppliance1 n fl) ins q1 hi his:Con _ _ _ _ (.int .i64 (szL szIncident1 (szL szAppliance1 n fl) ins)) _)) ⟨?_⟩;refine zAssign ⟨?_⟩;refine k7 _ ?_;refine zk ⟨?_⟩;refine v_seq ?_;intro Q8 n8 e8 r8;refine v_seqR [1,2,16] ?_;intro K9 k9;refine zq13 ⟨?_⟩;refine k9 _ ?_;refine zk ⟨?_⟩;refine v_condS _ rfl ?_ ?_
  ·intro hc1
   have z2:szL szIncident1 (szL szAppliance1 n fl) ins < 0:=hc1
   refine v_seqR [4] ?_;intro K11 k11;refine zAssign ⟨?_⟩;refine k11 _ ?_;refine zk ⟨?_⟩;refine v_ret ?_;refine r8 _ ?_;refine r0 _ ?_;refine zf ⟨?_⟩
   exact ret_pure rfl (by rw [szCtl,if_neg z1,if_pos z2]) (.inl rfl)
  ·intro hc1
   have y2:0≤szL szIncident1 (szL szAppliance1 n fl) ins:=hc1
   have z2:¬szL szIncident1 (szL szAppliance1 n fl) ins < 0:=by omega
   obtain ⟨b2,q2⟩:=szL_if szIncident1_le q1.1 q1.2 (by omega:0≤szL szIncident1 (szL szAppliance1 n fl) ins)
   refine v_skip ?_;refine n8 _ _ (weak_keep [1,2] _) ?_;refine zk ⟨?_⟩;refine v_seqR [1] ?_;intro K12 k12;refine zq26 ⟨?_⟩;refine zc ((szWantS_con (szL szIncident1 (szL szAppliance1 n fl) ins) ws q2 hw hws:Con _ _ _ _ (.int .i64 (szL szWant1 (szL szIncident1 (szL szAppliance1 n fl) ins) ws)) _)) ⟨?_⟩;refine zAssign ⟨?_⟩;refine k12 _ ?_;refine zk ⟨?_⟩;refine v_seq ?_;intro Q13 n13 e13 r13;refine v_seqR [1,22] ?_;intro K14 k14;refine zq13 ⟨?_⟩;refine k14 _ ?_;refine zk ⟨?_⟩;refine v_condS _ rfl ?_ ?_
   ·intro hc2
    have z3:szL szWant1 (szL szIncident1 (szL szAppliance1 n fl) ins) ws < 0:=hc2
    refine v_seqR [4] ?_;intro K16 k16;refine zAssign ⟨?_⟩;refine k16 _ ?_;refine zk ⟨?_⟩;refine v_ret ?_;refine r13 _ ?_;refine r0 _ ?_;refine zf ⟨?_⟩
    exact ret_pure rfl (by rw [szCtl,if_neg z1,if_neg z2,if_pos z3]) (.inl rfl)
   ·intro hc2
    have y3:0≤szL szWant1 (szL szIncident1 (szL szAppliance1 n fl) ins) ws:=hc2
    have z3:¬szL szWant1 (szL szIncident1 (szL szAppliance1 n fl) ins) ws < 0:=by omega
    refine v_skip ?_;refine n13 _ _ (weak_keep [1] _) ?_;refine zk ⟨?_⟩;refine v_seqR [4] ?_;intro K17 k17;refine zq8 ⟨?_⟩;refine k17 _ ?_;refine zk ⟨?_⟩;refine v_ret ?_;refine r0 _ ?_;refine zf ⟨?_⟩
    exact ret_pure rfl (by rw [szCtl,if_neg z1,if_neg z2,if_neg z3];rfl) (.inl rfl)
set_option maxHeartbeats 1000000 in
theorem toControl_con (fl:List (ByteArray×Int×Int×Int×Int)) (ins:List (Int×Int×Bool×List ByteArray)) (ws:List (Int×List Int)) (hl:fl.length≤1048576) (hil:ins.length≤1048576) (hin:∀x∈ins,x.2.2.2.length≤1048576) (hwl:ws.length≤1048576) (hwn:∀x∈ws,x.2.length≤1048576):Con Tryz.prog 10 [.agg [.sl (fl.map (fun t:ByteArray×Int×Int×Int×Int=>V.agg [V.str t.1,V.int .i64 t.2.1,V.int .i64 t.2.2.1,V.int .i64 t.2.2.2.1,V.int .i64 t.2.2.2.2])),.sl (ins.map (fun t:Int×Int×Bool×List ByteArray=>V.agg [V.int .i64 t.1,V.int .i64 t.2.1,V.bool t.2.2.1,V.sl (t.2.2.2.map V.str)])),.sl (ws.map (fun t:Int×List Int=>V.agg [V.int .i64 t.1,V.sl (t.2.map (V.int .i64))]))]] [] (.agg [.ref 0,.ref 1,.ref 2]) [.arr (fl.map (fun t:ByteArray×Int×Int×Int×Int=>V.agg [V.str t.1,V.int .i64 t.2.1,V.int .i64 t.2.2.1,V.int .i64 t.2.2.2.1,V.int .i64 t.2.2.2.2])) .flat,.arr (ins.map (fun t:Int×Int×Bool×List ByteArray=>V.agg [V.int .i64 t.1,V.int .i64 t.2.1,V.bool t.2.2.1,V.sl (t.2.2.2.map V.str)])) (fillK ins.length),.arr (ws.map (fun t:Int×List Int=>V.agg [V.int .i64 t.1,V.sl (t.2.map (V.int .i64))])) (fillK ws.length)]:=by
 refine v_con [.cell 2 42] [] Tryz.func10 rfl rfl rfl (by simp [Tryz.ntmps10]) ?_
 intro Q0 n0 r0
 simp only [Tryz.ntmps10,envFrom,Nat.reduceAdd]
 have T:=Tys.mk (And.intro Ty.t3 (And.intro Ty.t4 (And.intro Ty.t9 (And.intro Ty.t25 (And.intro Ty.t26 (And.intro Ty.t27 (And.intro Ty.t29 (And.intro Ty.t38 (And.intro Ty.t39 (And.intro Ty.t40 (And.intro Ty.t42 (And.intro Ty.t47 (And.intro Ty.t49 (And.intro Ty.t76 (And.intro Ty.t78 (And.intro Ty.t95 (And.intro Ty.t145 (And.intro Ty.t147 Ty.t149))))))))))))))))))
 have F:=Fc.mk True.intro
 refine v_seqR [1,2] ?_;intro K1 k1;refine zq50 ⟨?_⟩;refine k1 _ ?_;refine zk ⟨?_⟩;refine v_seqR [1,2,3] ?_;intro K2 k2;refine zAlloc ⟨?_⟩;refine k2 _ ?_;refine zk ⟨?_⟩;refine v_seqR [1,2,3] ?_;intro K3 k3;refine zq1 ⟨?_⟩;refine zc (toApplianceS_con fl hl) ⟨?_⟩;refine zq24 ⟨?_⟩;refine k3 _ ?_;refine zk ⟨?_⟩;refine v_seqR [1,2,3] ?_;intro K4 k4;refine zq1 ⟨?_⟩;refine zc (toIncidentS_con ins hil hin) ⟨?_⟩;refine zq24 ⟨?_⟩;refine k4 _ ?_;refine zk ⟨?_⟩;refine v_seqR [2,3] ?_;intro K5 k5;refine zq1 ⟨?_⟩;refine zc (toWantS_con ws hwl hwn) ⟨?_⟩;refine zq24 ⟨?_⟩;refine k5 _ ?_;refine zk ⟨?_⟩;refine v_seqR [2] ?_;intro K6 k6;refine zq49 ⟨?_⟩;refine k6 _ ?_;refine zk ⟨?_⟩;refine v_ret ?_;refine r0 _ ?_;refine zf ⟨?_⟩
 simp only [zE,zL,zO,zN,aStepM,optable,set_some,Nat.reduceEqDiff,reduceIte,Nat.reduceLT,implies_true,forall_const,reduceCtorEq,V.ofValue,V.ofScalar,V.un,V.gd,aLoad,row_mk,Blk.row,PartOK,Go.Vm.part,V.cells,V.noSl,V.noRef,Nat.reduceAdd,Nat.reduceLeDiff,Nat.reduceMul,Tryz.underlying38,Ty.c38,Ty.a38,Tryz.underlying39,Ty.c39,Ty.a39,Tryz.underlying40,Ty.c40,Ty.a40,Tryz.underlying42,Ty.c42,Ty.a42]
 exact ret_gen [9,10,11] rfl rfl (by decide) rfl (by simp) (by simp [Blk.kindIs,fillK_fd]) rfl
set_option maxHeartbeats 1000000 in
theorem eqControl_con (fl:List (ByteArray×Int×Int×Int×Int)) (ins:List (Int×Int×Bool×List ByteArray)) (ws:List (Int×List Int)) (hl:fl.length≤1048576) (hil:ins.length≤1048576) (hin:∀x∈ins,x.2.2.2.length≤1048576) (hwl:ws.length≤1048576) (hwn:∀x∈ws,x.2.length≤1048576):Con Tryz.prog 13 [.agg [.sl (fl.map (fun t:ByteArray×Int×Int×Int×Int=>V.agg [V.str t.1,V.int .i64 t.2.1,V.int .i64 t.2.2.1,V.int .i64 t.2.2.2.1,V.int .i64 t.2.2.2.2])),.sl (ins.map (fun t:Int×Int×Bool×List ByteArray=>V.agg [V.int .i64 t.1,V.int .i64 t.2.1,V.bool t.2.2.1,V.sl (t.2.2.2.map V.str)])),.sl (ws.map (fun t:Int×List Int=>V.agg [V.int .i64 t.1,V.sl (t.2.map (V.int .i64))]))],.agg [.sl (fl.map (fun t:ByteArray×Int×Int×Int×Int=>V.agg [V.str t.1,V.int .i64 t.2.1,V.int .i64 t.2.2.1,V.int .i64 t.2.2.2.1,V.int .i64 t.2.2.2.2])),.sl (ins.map (fun t:Int×Int×Bool×List ByteArray=>V.agg [V.int .i64 t.1,V.int .i64 t.2.1,V.bool t.2.2.1,V.sl (t.2.2.2.map V.str)])),.sl (ws.map (fun t:Int×List Int=>V.agg [V.int .i64 t.1,V.sl (t.2.map (V.int .i64))]))]] [] (.bool true) []:=by
 refine v_con [.tmp 4] [] Tryz.func13 rfl rfl rfl (by simp [Tryz.ntmps13]) ?_
 intro Q0 n0 r0
 simp only [Tryz.ntmps13,envFrom,Nat.reduceAdd]
 have T:=Tys.mk (And.intro Ty.t3 (And.intro Ty.t4 (And.intro Ty.t9 (And.intro Ty.t38 (And.intro Ty.t39 (And.intro Ty.t40 (And.intro Ty.t42 (And.intro Ty.t47 (And.intro Ty.t49 (And.intro Ty.t76 (And.intro Ty.t78 Ty.t95)))))))))))
 have F:=Fc.mk True.intro
 refine v_seqR [2,3] ?_;intro K1 k1;refine zq32 ⟨?_⟩;refine k1 _ ?_;refine zk ⟨?_⟩;refine v_seq ?_;intro Q2 n2 e2 r2;refine v_seqR [2,3,10] ?_;intro K3 k3;refine zq19 ⟨?_⟩;refine zc (eqApplianceS_con fl fl hl) ⟨?_⟩;refine zUnOp ⟨?_⟩;refine k3 _ ?_;refine zk ⟨?_⟩;refine v_cond _ rfl ?_ ?_
 ·intro hc0
  exfalso;simp at hc0
 ·intro hc0
  try simp only [zC,reduceCtorEq] at hc0
  refine v_skip ?_;refine n2 _ _ (weak_keep [2,3] _) ?_;refine zk ⟨?_⟩;refine v_seq ?_;intro Q5 n5 e5 r5;refine v_seqR [2,3,16] ?_;intro K6 k6;refine zq19 ⟨?_⟩;refine zc (eqIncidentS_con ins ins hil hin) ⟨?_⟩;refine zUnOp ⟨?_⟩;refine k6 _ ?_;refine zk ⟨?_⟩;refine v_cond _ rfl ?_ ?_
  ·intro hc1
   exfalso;simp at hc1
  ·intro hc1
   try simp only [zC,reduceCtorEq] at hc1
   refine v_skip ?_;refine n5 _ _ (weak_keep [2,3] _) ?_;refine zk ⟨?_⟩;refine v_seq ?_;intro Q8 n8 e8 r8;refine v_seqR [22] ?_;intro K9 k9;refine zq19 ⟨?_⟩;refine zc (eqWantS_con ws ws hwl hwn) ⟨?_⟩;refine zUnOp ⟨?_⟩;refine k9 _ ?_;refine zk ⟨?_⟩;refine v_cond _ rfl ?_ ?_
   ·intro hc2
    exfalso;simp at hc2
   ·intro hc2
    try simp only [zC,reduceCtorEq] at hc2
    refine v_skip ?_;refine n8 _ _ (weak_keep [] _) ?_;refine zk ⟨?_⟩;refine v_seqR [4] ?_;intro K11 k11;refine zAssign ⟨?_⟩;refine k11 _ ?_;refine zk ⟨?_⟩;refine v_ret ?_;refine r0 _ ?_;refine zf ⟨?_⟩
    exact ret_pure rfl rfl (.inl rfl)
def markStr (k:Int) (n:Nat):List ByteArray:=markG (fun j:Nat=>markT (k+(j:Int))) n
theorem markStr_len (k:Int) (n:Nat):(markStr k n).length=n:=markG_len _ _
theorem markStr_at {k:Int} {n i:Nat} (h:i < n):(markStr k n)[i]? =some (markT (k+(i:Int))):=by
  simp [markStr,markG,List.getElem?_map,List.getElem?_range h]
set_option maxHeartbeats 1000000 in
theorem markStringS_con (l:List ByteArray) (k:Int) (hl:l.length≤1048576) (hk:0≤k∧k≤1000000000000000):Con Tryz.prog 22 [.ref 0,.int .i64 k] [.arr (l.map V.str) .flat] (.int .i64 (k+l.length)) [.arr ((markStr k l.length).map V.str) .flat]:=by
 refine v_con [.tmp 4] [] Tryz.func22 rfl rfl rfl (by simp [Tryz.ntmps22]) ?_
 intro Q0 n0 r0
 simp only [Tryz.ntmps22,envFrom,Nat.reduceAdd]
 have T:=Tys.mk (And.intro Ty.t3 (And.intro Ty.t9 Ty.t47))
 have F:=Fc.mk True.intro
 refine v_seqR [0,1] ?_;intro K1 k1;refine zAssign ⟨?_⟩;refine k1 _ ?_;refine zk ⟨?_⟩;refine v_seq ?_;intro Q2 n2 e2 r2;refine v_seqR [0,1,5] ?_;intro K3 k3;refine zAssign ⟨?_⟩;refine k3 _ ?_;refine zk ⟨?_⟩;refine v_block ?_;intro Q4 n4 x4 e4 r4;refine v_loop (fun i=>⟨[(0,.ref 0),(1,.int .i64 (k+Nat.cast i)),(5,.int .i64 (Nat.cast i))],[.arr ((markG (fun j:Nat=>markT (k+(j:Int))) i++l.drop i).map V.str) .flat],false,20,0⟩) (fun i=>i≤l.length) (fun i=>l.length - i) 0 ?_ ?_ ?_
 ·refine weak_bothS [0,1,5] [0] ⟨?_⟩
  simp [markG]
 ·exact Nat.zero_le _
 ·rintro i hok5 Q5 n5 e5 r5
  have hi1:i≤l.length:=hok5
  refine v_seq ?_;intro Q6 n6 e6 r6;refine v_seqR [0,1,5,9] ?_;intro K7 k7;refine zq14 ⟨?_⟩;refine k7 _ ?_;refine zk ⟨?_⟩;refine v_condS _ rfl ?_ ?_
  ·intro hc0
   have hml:=markG_all (g:=(fun j:Nat=>markT (k+(j:Int)))) hi1
   rw [hml] at hc0
   have hlt:i < l.length:=by omega
   obtain ⟨x,hx⟩:∃x,l[i]? =some x:=⟨l[i],List.getElem?_eq_getElem hlt⟩
   have hmg:=markG_get (g:=(fun j:Nat=>markT (k+(j:Int)))) hx
   have hms:=markG_step (g:=(fun j:Nat=>markT (k+(j:Int)))) hx
   refine v_skip ?_;refine n6 _ _ (weak_keep [0,1,5] _) ?_;refine zk ⟨?_⟩;refine v_seq ?_;intro Q9 n9 e9 r9;refine v_block ?_;intro Q10 n10 x10 e10 r10;refine v_seqR [0,1,5] ?_;intro K11 k11
   have F:=Fc.mk (And.intro (fun f=>getD_map (f:=f) hmg) (And.intro hml (And.intro @set_map hms)))
   refine zq20 ⟨?_⟩;refine zc (markText_con (k+(i:Int)) (by omega)) ⟨?_⟩;refine zIndexAddr ⟨?_⟩;refine zStore ⟨?_⟩;refine k11 _ ?_;refine zk ⟨?_⟩;refine v_region ?_;intro K12 k12;refine zq6 ⟨?_⟩;refine k12 _ ?_;refine n10 _ ?_;refine n9 _ _ (weak_keep [0,1,5] _) ?_;refine zk ⟨?_⟩;refine v_region ?_;intro K13 k13;refine zq6 ⟨?_⟩;refine k13 _ ?_;refine n5 _ (i+1) ?_ ?_ ?_
   ·refine weak_bothS [0,1,5] [0] ⟨?_⟩
    rw [show (k+(i:Int)+1)=k+((i+1:Nat):Int) by omega];rfl
   ·exact hlt
   ·show _ < _;omega
  ·intro hc0
   rw [markG_all (g:=(fun j:Nat=>markT (k+(j:Int)))) hi1] at hc0
   refine v_exit ?_;refine e6 _ _ ?_;refine e5 _ _ ?_;refine x4 _ ?_;refine n2 _ _ (weak_keep [1] _) ?_;refine zk ⟨?_⟩;refine v_seqR [4] ?_;intro K14 k14;refine zq8 ⟨?_⟩;refine k14 _ ?_;refine zk ⟨?_⟩;refine v_ret ?_;refine r0 _ ?_;refine zf ⟨?_⟩
   have hend:i=l.length:=by omega
   subst hend
   exact ret_lent rfl (by simp) rfl (by simp [markStr]) (by simp [Blk.kindIs]) (.inl rfl)
def markStreet (kk:Int) (n:Nat):List (Int×Int×Int):=markG (fun j:Nat=>((kk+3 * (j:Int)),(kk+3 * (j:Int)+1),(kk+3 * (j:Int)+1+1))) n
set_option maxHeartbeats 1000000 in
theorem markStreetS_con (l:List (Int×Int×Int)) (kk:Int) (hl:l.length≤1048576) (hk:0≤kk∧kk≤1000000000000000):Con Tryz.prog 81 [.ref 0,.int .i64 kk] [.arr (l.map (fun t:Int×Int×Int=>V.agg [V.int .i64 t.1,V.int .i64 t.2.1,V.int .i64 t.2.2])) .flat] (.int .i64 (kk+3 * l.length)) [.arr ((markStreet kk l.length).map (fun t:Int×Int×Int=>V.agg [V.int .i64 t.1,V.int .i64 t.2.1,V.int .i64 t.2.2])) .flat]:=by
 refine v_con [.tmp 4] [] Tryz.func81 rfl rfl rfl (by simp [Tryz.ntmps81]) ?_
 intro Q0 n0 r0
 simp only [Tryz.ntmps81,envFrom,Nat.reduceAdd]
 have T:=Tys.mk (And.intro Ty.t3 (And.intro Ty.t34 Ty.t153))
 have F:=Fc.mk True.intro
 refine v_seqR [0,1] ?_;intro K1 k1;refine zAssign ⟨?_⟩;refine k1 _ ?_;refine zk ⟨?_⟩;refine v_seq ?_;intro Q2 n2 e2 r2;refine v_seqR [0,1,5] ?_;intro K3 k3;refine zAssign ⟨?_⟩;refine k3 _ ?_;refine zk ⟨?_⟩;refine v_block ?_;intro Q4 n4 x4 e4 r4;refine v_loop (fun i=>⟨[(0,.ref 0),(1,.int .i64 (kk+3 * (Nat.cast i))),(5,.int .i64 (Nat.cast i))],[.arr ((markG (fun j:Nat=>((kk+3 * (j:Int)),(kk+3 * (j:Int)+1),(kk+3 * (j:Int)+1+1))) i++l.drop i).map (fun t:Int×Int×Int=>V.agg [V.int .i64 t.1,V.int .i64 t.2.1,V.int .i64 t.2.2])) .flat],false,34,0⟩) (fun i=>i≤l.length) (fun i=>l.length - i) 0 ?_ ?_ ?_
 ·refine weak_bothS [0,1,5] [0] ⟨?_⟩
  simp [markG]
 ·exact Nat.zero_le _
 ·rintro i hok5 Q5 n5 e5 r5
  have hi1:i≤l.length:=hok5
  refine v_seq ?_;intro Q6 n6 e6 r6;refine v_seqR [0,1,5,9] ?_;intro K7 k7;refine zq14 ⟨?_⟩;refine k7 _ ?_;refine zk ⟨?_⟩;refine v_condS _ rfl ?_ ?_
  ·intro hc0
   have hml:=markG_all (g:=(fun j:Nat=>((kk+3 * (j:Int)),(kk+3 * (j:Int)+1),(kk+3 * (j:Int)+1+1)))) hi1
   rw [hml] at hc0
   have hlt:i < l.length:=by omega
   obtain ⟨⟨x0,x1,x2⟩,hx⟩:∃x:Int×Int×Int,l[i]? =some x:=⟨l[i]'(by omega),List.getElem?_eq_getElem (by omega)⟩
   have hmg:=markG_get (g:=(fun j:Nat=>((kk+3 * (j:Int)),(kk+3 * (j:Int)+1),(kk+3 * (j:Int)+1+1)))) hx
   have hms:((markG (fun j:Nat=>((kk+3 * (j:Int)),(kk+3 * (j:Int)+1),(kk+3 * (j:Int)+1+1))) i++l.drop i).map (fun t:Int×Int×Int=>V.agg [V.int .i64 t.1,V.int .i64 t.2.1,V.int .i64 t.2.2])).set i (.agg [V.int .i64 (kk+3 * (i:Int)),V.int .i64 (kk+3 * (i:Int)+1),V.int .i64 (kk+3 * (i:Int)+1+1)])=(markG (fun j:Nat=>((kk+3 * (j:Int)),(kk+3 * (j:Int)+1),(kk+3 * (j:Int)+1+1))) (i+1)++l.drop (i+1)).map (fun t:Int×Int×Int=>V.agg [V.int .i64 t.1,V.int .i64 t.2.1,V.int .i64 t.2.2]):=by
    have h:=set_map (f:=(fun t:Int×Int×Int=>V.agg [V.int .i64 t.1,V.int .i64 t.2.1,V.int .i64 t.2.2])) (l:=(markG (fun j:Nat=>((kk+3 * (j:Int)),(kk+3 * (j:Int)+1),(kk+3 * (j:Int)+1+1))) i++l.drop i)) (i:=i) (x:=(fun j:Nat=>((kk+3 * (j:Int)),(kk+3 * (j:Int)+1),(kk+3 * (j:Int)+1+1))) i)
    rw [markG_step hx] at h
    exact h
   refine v_skip ?_;refine n6 _ _ (weak_keep [0,1,5] _) ?_;refine zk ⟨?_⟩;refine v_seq ?_;intro Q9 n9 e9 r9;refine v_block ?_;intro Q10 n10 x10 e10 r10;refine v_seqR [0,1,5] ?_;intro K11 k11
   have F:=Fc.mk (And.intro (fun f=>getD_map (f:=f) hmg) (And.intro hml (And.intro @getD_set (And.intro hlt (And.intro @List.length_set.{0} (And.intro @List.set_set.{0} hms))))))
   refine zq20 ⟨?_⟩;refine v_op ?_;intro K k
   simp only [zE,zL,zN,aStepM,optable,set_some,Nat.reduceEqDiff,reduceIte,Nat.reduceLT,implies_true,forall_const,reduceCtorEq,V.ofValue,V.ofScalar,V.un,V.gd,aExec,aop,List.mem_cons,List.not_mem_nil,or_false,forall_eq_or_imp,forall_eq,aIndexAddr,row_mk,Blk.row,Go.Vm.V.cells,List.forall_mem_map,List.length_map,Int.toNat_natCast,Int.reduceToNat,TypeDesc.slice.injEq,Nat.reduceAdd,Nat.reduceLeDiff,Nat.reduceMul,Tryz.underlying34,Ty.c34,Ty.a34,Tryz.underlying153,Ty.c153,Ty.a153,getD_map hmg,hml,getD_set,hlt,List.length_set,List.set_set,hms]
   repeat (refine And.intro (by first | omega | (exact set_all (fun x hx=>by obtain ⟨t,_,rfl⟩:=List.mem_map.1 hx;rfl) rfl) | (intros;omega) | (intros;simp_all;done)) ?_)
   refine k _ ?_;clear k K;refine v_op ?_;intro K k
   simp only [zE,zL,zN,aStepM,optable,set_some,Nat.reduceEqDiff,reduceIte,Nat.reduceLT,implies_true,forall_const,reduceCtorEq,V.ofValue,V.ofScalar,V.un,V.gd,aExec,aop,aFieldAddr,Nat.reduceAdd,Nat.reduceLeDiff,Nat.reduceMul,Tryz.underlying3,Ty.c3,Ty.a3,Tryz.underlying153,Ty.c153,Ty.a153,getD_map hmg,hml,getD_set,hlt,List.length_set,List.set_set,hms]
   repeat (refine And.intro (by first | omega | (exact set_all (fun x hx=>by obtain ⟨t,_,rfl⟩:=List.mem_map.1 hx;rfl) rfl) | (intros;omega) | (intros;simp_all;done)) ?_)
   refine k _ ?_;clear k K;refine v_op ?_;intro K k
   simp only [zE,zS,zJ,zL,zO,zN,aStepM,optable,set_some,Nat.reduceEqDiff,reduceIte,Nat.reduceLT,implies_true,forall_const,reduceCtorEq,V.ofValue,V.ofScalar,V.un,V.gd,aExec,aop,aStore,setCells,V.isVal,V.cells,kindOf,kindAll,V.noSl,V.noRef,gt_iff_lt,Nat.reduceAdd,Nat.reduceLeDiff,Nat.reduceMul,takeV,takeCell,takeCells,row_mk,Blk.row,killAll,Nat.reduceBEq,join_t,Tryz.underlying3,Ty.c3,Ty.a3,getD_map hmg,hml,getD_set,hlt,List.length_set,List.set_set,hms]
   repeat (refine And.intro (by first | omega | (exact set_all (fun x hx=>by obtain ⟨t,_,rfl⟩:=List.mem_map.1 hx;rfl) rfl) | (intros;omega) | (intros;simp_all;done)) ?_)
   refine k _ ?_;clear k K;refine k11 _ ?_;refine zk ⟨?_⟩;refine v_seqR [0,1,5] ?_;intro K12 k12;refine zq6 ⟨?_⟩;refine k12 _ ?_;refine zk ⟨?_⟩;refine v_seqR [0,1,5] ?_;intro K13 k13;refine zq20 ⟨?_⟩;refine v_op ?_;intro K k
   simp only [zE,zL,zN,aStepM,optable,set_some,Nat.reduceEqDiff,reduceIte,Nat.reduceLT,implies_true,forall_const,reduceCtorEq,V.ofValue,V.ofScalar,V.un,V.gd,aExec,aop,List.mem_cons,List.not_mem_nil,or_false,forall_eq_or_imp,forall_eq,aIndexAddr,row_mk,Blk.row,Go.Vm.V.cells,List.forall_mem_map,List.length_map,Int.toNat_natCast,Int.reduceToNat,TypeDesc.slice.injEq,Nat.reduceAdd,Nat.reduceLeDiff,Nat.reduceMul,Tryz.underlying34,Ty.c34,Ty.a34,Tryz.underlying153,Ty.c153,Ty.a153,getD_map hmg,hml,getD_set,hlt,List.length_set,List.set_set,hms]
   repeat (refine And.intro (by first | omega | (exact set_all (fun x hx=>by obtain ⟨t,_,rfl⟩:=List.mem_map.1 hx;rfl) rfl) | (intros;omega) | (intros;simp_all;done)) ?_)
   refine k _ ?_;clear k K;refine v_op ?_;intro K k
   simp only [zE,zL,zN,aStepM,optable,set_some,Nat.reduceEqDiff,reduceIte,Nat.reduceLT,implies_true,forall_const,reduceCtorEq,V.ofValue,V.ofScalar,V.un,V.gd,aExec,aop,aFieldAddr,Nat.reduceAdd,Nat.reduceLeDiff,Nat.reduceMul,Tryz.underlying3,Ty.c3,Ty.a3,Tryz.underlying153,Ty.c153,Ty.a153,getD_map hmg,hml,getD_set,hlt,List.length_set,List.set_set,hms]
   repeat (refine And.intro (by first | omega | (exact set_all (fun x hx=>by obtain ⟨t,_,rfl⟩:=List.mem_map.1 hx;rfl) rfl) | (intros;omega) | (intros;simp_all;done)) ?_)
   refine k _ ?_;clear k K;refine v_op ?_;intro K k
   simp only [zE,zS,zJ,zL,zO,zN,aStepM,optable,set_some,Nat.reduceEqDiff,reduceIte,Nat.reduceLT,implies_true,forall_const,reduceCtorEq,V.ofValue,V.ofScalar,V.un,V.gd,aExec,aop,aStore,setCells,V.isVal,V.cells,kindOf,kindAll,V.noSl,V.noRef,gt_iff_lt,Nat.reduceAdd,Nat.reduceLeDiff,Nat.reduceMul,takeV,takeCell,takeCells,row_mk,Blk.row,killAll,Nat.reduceBEq,join_t,Tryz.underlying3,Ty.c3,Ty.a3,getD_map hmg,hml,getD_set,hlt,List.length_set,List.set_set,hms]
   repeat (refine And.intro (by first | omega | (exact set_all (fun x hx=>by obtain ⟨t,_,rfl⟩:=List.mem_map.1 hx;rfl) rfl) | (intros;omega) | (intros;simp_all;done)) ?_)
   refine k _ ?_;clear k K;refine k13 _ ?_;refine zk ⟨?_⟩;refine v_seqR [0,1,5] ?_;intro K14 k14;refine zq6 ⟨?_⟩;refine k14 _ ?_;refine zk ⟨?_⟩;refine v_seqR [0,1,5] ?_;intro K15 k15;refine zq20 ⟨?_⟩;refine v_op ?_;intro K k
   simp only [zE,zL,zN,aStepM,optable,set_some,Nat.reduceEqDiff,reduceIte,Nat.reduceLT,implies_true,forall_const,reduceCtorEq,V.ofValue,V.ofScalar,V.un,V.gd,aExec,aop,List.mem_cons,List.not_mem_nil,or_false,forall_eq_or_imp,forall_eq,aIndexAddr,row_mk,Blk.row,Go.Vm.V.cells,List.forall_mem_map,List.length_map,Int.toNat_natCast,Int.reduceToNat,TypeDesc.slice.injEq,Nat.reduceAdd,Nat.reduceLeDiff,Nat.reduceMul,Tryz.underlying34,Ty.c34,Ty.a34,Tryz.underlying153,Ty.c153,Ty.a153,getD_map hmg,hml,getD_set,hlt,List.length_set,List.set_set,hms]
   repeat (refine And.intro (by first | omega | (exact set_all (fun x hx=>by obtain ⟨t,_,rfl⟩:=List.mem_map.1 hx;rfl) rfl) | (intros;omega) | (intros;simp_all;done)) ?_)
   refine k _ ?_;clear k K;refine v_op ?_;intro K k
   simp only [zE,zL,zN,aStepM,optable,set_some,Nat.reduceEqDiff,reduceIte,Nat.reduceLT,implies_true,forall_const,reduceCtorEq,V.ofValue,V.ofScalar,V.un,V.gd,aExec,aop,aFieldAddr,Nat.reduceAdd,Nat.reduceLeDiff,Nat.reduceMul,Tryz.underlying3,Ty.c3,Ty.a3,Tryz.underlying153,Ty.c153,Ty.a153,getD_map hmg,hml,getD_set,hlt,List.length_set,List.set_set,hms]
   repeat (refine And.intro (by first | omega | (exact set_all (fun x hx=>by obtain ⟨t,_,rfl⟩:=List.mem_map.1 hx;rfl) rfl) | (intros;omega) | (intros;simp_all;done)) ?_)
   refine k _ ?_;clear k K;refine v_op ?_;intro K k
   simp only [zE,zS,zJ,zL,zO,zN,aStepM,optable,set_some,Nat.reduceEqDiff,reduceIte,Nat.reduceLT,implies_true,forall_const,reduceCtorEq,V.ofValue,V.ofScalar,V.un,V.gd,aExec,aop,aStore,setCells,V.isVal,V.cells,kindOf,kindAll,V.noSl,V.noRef,gt_iff_lt,Nat.reduceAdd,Nat.reduceLeDiff,Nat.reduceMul,takeV,takeCell,takeCells,row_mk,Blk.row,killAll,Nat.reduceBEq,join_t,Tryz.underlying3,Ty.c3,Ty.a3,getD_map hmg,hml,getD_set,hlt,List.length_set,List.set_set,hms]
   repeat (refine And.intro (by first | omega | (exact set_all (fun x hx=>by obtain ⟨t,_,rfl⟩:=List.mem_map.1 hx;rfl) rfl) | (intros;omega) | (intros;simp_all;done)) ?_)
   refine k _ ?_;clear k K;refine k15 _ ?_;refine zk ⟨?_⟩;refine v_region ?_;intro K16 k16;refine zq6 ⟨?_⟩;refine k16 _ ?_;refine n10 _ ?_;refine n9 _ _ (weak_keep [0,1,5] _) ?_;refine zk ⟨?_⟩;refine v_region ?_;intro K17 k17;refine zq6 ⟨?_⟩;refine k17 _ ?_;refine n5 _ (i+1) ?_ ?_ ?_
   ·refine weak_bothS [0,1,5] [0] ⟨?_⟩
    simp only [getD_set,List.length_map,hml,hlt,List.length_set,List.set_set,hms,List.take_succ_cons,List.take_zero,List.drop_succ_cons,List.drop_zero,List.drop_nil,List.cons_append,List.nil_append,List.append_nil];rw [show (kk+3 * (i:Int)+1+1+1)=kk+3 * ((i+1:Nat):Int) by omega];rfl
   ·exact hlt
   ·show _ < _;omega
  ·intro hc0
   rw [markG_all (g:=(fun j:Nat=>((kk+3 * (j:Int)),(kk+3 * (j:Int)+1),(kk+3 * (j:Int)+1+1)))) hi1] at hc0
   refine v_exit ?_;refine e6 _ _ ?_;refine e5 _ _ ?_;refine x4 _ ?_;refine n2 _ _ (weak_keep [1] _) ?_;refine zk ⟨?_⟩;refine v_seqR [4] ?_;intro K18 k18;refine zq8 ⟨?_⟩;refine k18 _ ?_;refine zk ⟨?_⟩;refine v_ret ?_;refine r0 _ ?_;refine zf ⟨?_⟩
   have hend:i=l.length:=by omega
   subst hend
   exact ret_lent rfl (by simp) rfl (by simp [markStreet]) (by simp [Blk.kindIs]) (.inl rfl)
def markAppliance (kk:Int) (n:Nat):List (ByteArray×Int×Int×Int×Int):=markG (fun j:Nat=>(markT (kk+5 * (j:Int)),(kk+5 * (j:Int)+1),(kk+5 * (j:Int)+1+1),(kk+5 * (j:Int)+1+1+1),(kk+5 * (j:Int)+1+1+1+1))) n
set_option maxHeartbeats 1000000 in
theorem markApplianceS_con (l:List (ByteArray×Int×Int×Int×Int)) (kk:Int) (hl:l.length≤1048576) (hk:0≤kk∧kk≤1000000000000000):Con Tryz.prog 82 [.ref 0,.int .i64 kk] [.arr (l.map (fun t:ByteArray×Int×Int×Int×Int=>V.agg [V.str t.1,V.int .i64 t.2.1,V.int .i64 t.2.2.1,V.int .i64 t.2.2.2.1,V.int .i64 t.2.2.2.2])) .flat] (.int .i64 (kk+5 * l.length)) [.arr ((markAppliance kk l.length).map (fun t:ByteArray×Int×Int×Int×Int=>V.agg [V.str t.1,V.int .i64 t.2.1,V.int .i64 t.2.2.1,V.int .i64 t.2.2.2.1,V.int .i64 t.2.2.2.2])) .flat]:=by
 refine v_con [.tmp 4] [] Tryz.func82 rfl rfl rfl (by simp [Tryz.ntmps82]) ?_
 intro Q0 n0 r0
 simp only [Tryz.ntmps82,envFrom,Nat.reduceAdd]
 have T:=Tys.mk (And.intro Ty.t3 (And.intro Ty.t9 (And.intro Ty.t38 Ty.t76)))
 have F:=Fc.mk True.intro
 refine v_seqR [0,1] ?_;intro K1 k1;refine zAssign ⟨?_⟩;refine k1 _ ?_;refine zk ⟨?_⟩;refine v_seq ?_;intro Q2 n2 e2 r2;refine v_seqR [0,1,5] ?_;intro K3 k3;refine zAssign ⟨?_⟩;refine k3 _ ?_;refine zk ⟨?_⟩;refine v_block ?_;intro Q4 n4 x4 e4 r4;refine v_loop (fun i=>⟨[(0,.ref 0),(1,.int .i64 (kk+5 * (Nat.cast i))),(5,.int .i64 (Nat.cast i))],[.arr ((markG (fun j:Nat=>(markT (kk+5 * (j:Int)),(kk+5 * (j:Int)+1),(kk+5 * (j:Int)+1+1),(kk+5 * (j:Int)+1+1+1),(kk+5 * (j:Int)+1+1+1+1))) i++l.drop i).map (fun t:ByteArray×Int×Int×Int×Int=>V.agg [V.str t.1,V.int .i64 t.2.1,V.int .i64 t.2.2.1,V.int .i64 t.2.2.2.1,V.int .i64 t.2.2.2.2])) .flat],false,49,0⟩) (fun i=>i≤l.length) (fun i=>l.length - i) 0 ?_ ?_ ?_
 ·refine weak_bothS [0,1,5] [0] ⟨?_⟩
  simp [markG]
 ·exact Nat.zero_le _
 ·rintro i hok5 Q5 n5 e5 r5
  have hi1:i≤l.length:=hok5
  refine v_seq ?_;intro Q6 n6 e6 r6;refine v_seqR [0,1,5,9] ?_;intro K7 k7;refine zq14 ⟨?_⟩;refine k7 _ ?_;refine zk ⟨?_⟩;refine v_condS _ rfl ?_ ?_
  ·intro hc0
   have hml:=markG_all (g:=(fun j:Nat=>(markT (kk+5 * (j:Int)),(kk+5 * (j:Int)+1),(kk+5 * (j:Int)+1+1),(kk+5 * (j:Int)+1+1+1),(kk+5 * (j:Int)+1+1+1+1)))) hi1
   rw [hml] at hc0
   have hlt:i < l.length:=by omega
   obtain ⟨⟨x0,x1,x2,x3,x4⟩,hx⟩:∃x:ByteArray×Int×Int×Int×Int,l[i]? =some x:=⟨l[i]'(by omega),List.getElem?_eq_getElem (by omega)⟩
   have hmg:=markG_get (g:=(fun j:Nat=>(markT (kk+5 * (j:Int)),(kk+5 * (j:Int)+1),(kk+5 * (j:Int)+1+1),(kk+5 * (j:Int)+1+1+1),(kk+5 * (j:Int)+1+1+1+1)))) hx
   have hms:((markG (fun j:Nat=>(markT (kk+5 * (j:Int)),(kk+5 * (j:Int)+1),(kk+5 * (j:Int)+1+1),(kk+5 * (j:Int)+1+1+1),(kk+5 * (j:Int)+1+1+1+1))) i++l.drop i).map (fun t:ByteArray×Int×Int×Int×Int=>V.agg [V.str t.1,V.int .i64 t.2.1,V.int .i64 t.2.2.1,V.int .i64 t.2.2.2.1,V.int .i64 t.2.2.2.2])).set i (.agg [V.str (markT (kk+5 * (i:Int))),V.int .i64 (kk+5 * (i:Int)+1),V.int .i64 (kk+5 * (i:Int)+1+1),V.int .i64 (kk+5 * (i:Int)+1+1+1),V.int .i64 (kk+5 * (i:Int)+1+1+1+1)])=(markG (fun j:Nat=>(markT (kk+5 * (j:Int)),(kk+5 * (j:Int)+1),(kk+5 * (j:Int)+1+1),(kk+5 * (j:Int)+1+1+1),(kk+5 * (j:Int)+1+1+1+1))) (i+1)++l.drop (i+1)).map (fun t:ByteArray×Int×Int×Int×Int=>V.agg [V.str t.1,V.int .i64 t.2.1,V.int .i64 t.2.2.1,V.int .i64 t.2.2.2.1,V.int .i64 t.2.2.2.2]):=by
    have h:=set_map (f:=(fun t:ByteArray×Int×Int×Int×Int=>V.agg [V.str t.1,V.int .i64 t.2.1,V.int .i64 t.2.2.1,V.int .i64 t.2.2.2.1,V.int .i64 t.2.2.2.2])) (l:=(markG (fun j:Nat=>(markT (kk+5 * (j:Int)),(kk+5 * (j:Int)+1),(kk+5 * (j:Int)+1+1),(kk+5 * (j:Int)+1+1+1),(kk+5 * (j:Int)+1+1+1+1))) i++l.drop i)) (i:=i) (x:=(fun j:Nat=>(markT (kk+5 * (j:Int)),(kk+5 * (j:Int)+1),(kk+5 * (j:Int)+1+1),(kk+5 * (j:Int)+1+1+1),(kk+5 * (j:Int)+1+1+1+1))) i)
    rw [markG_step hx] at h
    exact h
   refine v_skip ?_;refine n6 _ _ (weak_keep [0,1,5] _) ?_;refine zk ⟨?_⟩;refine v_seq ?_;intro Q9 n9 e9 r9;refine v_block ?_;intro Q10 n10 x10 e10 r10;refine v_seqR [0,1,5] ?_;intro K11 k11
   have F:=Fc.mk (And.intro (fun f=>getD_map (f:=f) hmg) (And.intro hml (And.intro @getD_set (And.intro hlt (And.intro @List.length_set.{0} (And.intro @List.set_set.{0} hms))))))
   refine zq20 ⟨?_⟩;refine zc (markText_con (kk+5 * (i:Int)) (by omega)) ⟨?_⟩;refine v_op ?_;intro K k
   simp only [zE,zL,zN,aStepM,optable,set_some,Nat.reduceEqDiff,reduceIte,Nat.reduceLT,implies_true,forall_const,reduceCtorEq,V.ofValue,V.ofScalar,V.un,V.gd,aExec,aop,List.mem_cons,List.not_mem_nil,or_false,forall_eq_or_imp,forall_eq,aIndexAddr,row_mk,Blk.row,Go.Vm.V.cells,List.forall_mem_map,List.length_map,Int.toNat_natCast,Int.reduceToNat,TypeDesc.slice.injEq,Nat.reduceAdd,Nat.reduceLeDiff,Nat.reduceMul,Tryz.underlying38,Ty.c38,Ty.a38,Tryz.underlying76,Ty.c76,Ty.a76,getD_map hmg,hml,getD_set,hlt,List.length_set,List.set_set,hms]
   repeat (refine And.intro (by first | omega | (exact set_all (fun x hx=>by obtain ⟨t,_,rfl⟩:=List.mem_map.1 hx;rfl) rfl) | (intros;omega) | (intros;simp_all;done)) ?_)
   refine k _ ?_;clear k K;refine v_op ?_;intro K k
   simp only [zE,zL,zN,aStepM,optable,set_some,Nat.reduceEqDiff,reduceIte,Nat.reduceLT,implies_true,forall_const,reduceCtorEq,V.ofValue,V.ofScalar,V.un,V.gd,aExec,aop,aFieldAddr,Nat.reduceAdd,Nat.reduceLeDiff,Nat.reduceMul,Tryz.underlying3,Ty.c3,Ty.a3,Tryz.underlying9,Ty.c9,Ty.a9,Tryz.underlying76,Ty.c76,Ty.a76,getD_map hmg,hml,getD_set,hlt,List.length_set,List.set_set,hms]
   repeat (refine And.intro (by first | omega | (exact set_all (fun x hx=>by obtain ⟨t,_,rfl⟩:=List.mem_map.1 hx;rfl) rfl) | (intros;omega) | (intros;simp_all;done)) ?_)
   refine k _ ?_;clear k K;refine v_op ?_;intro K k
   simp only [zE,zS,zJ,zL,zO,zN,aStepM,optable,set_some,Nat.reduceEqDiff,reduceIte,Nat.reduceLT,implies_true,forall_const,reduceCtorEq,V.ofValue,V.ofScalar,V.un,V.gd,aExec,aop,aStore,setCells,V.isVal,V.cells,kindOf,kindAll,V.noSl,V.noRef,gt_iff_lt,Nat.reduceAdd,Nat.reduceLeDiff,Nat.reduceMul,takeV,takeCell,takeCells,row_mk,Blk.row,killAll,Nat.reduceBEq,join_t,Tryz.underlying9,Ty.c9,Ty.a9,getD_map hmg,hml,getD_set,hlt,List.length_set,List.set_set,hms]
   repeat (refine And.intro (by first | omega | (exact set_all (fun x hx=>by obtain ⟨t,_,rfl⟩:=List.mem_map.1 hx;rfl) rfl) | (intros;omega) | (intros;simp_all;done)) ?_)
   refine k _ ?_;clear k K;refine k11 _ ?_;refine zk ⟨?_⟩;refine v_seqR [0,1,5] ?_;intro K12 k12;refine zq6 ⟨?_⟩;refine k12 _ ?_;refine zk ⟨?_⟩;refine v_seqR [0,1,5] ?_;intro K13 k13;refine zq20 ⟨?_⟩;refine v_op ?_;intro K k
   simp only [zE,zL,zN,aStepM,optable,set_some,Nat.reduceEqDiff,reduceIte,Nat.reduceLT,implies_true,forall_const,reduceCtorEq,V.ofValue,V.ofScalar,V.un,V.gd,aExec,aop,List.mem_cons,List.not_mem_nil,or_false,forall_eq_or_imp,forall_eq,aIndexAddr,row_mk,Blk.row,Go.Vm.V.cells,List.forall_mem_map,List.length_map,Int.toNat_natCast,Int.reduceToNat,TypeDesc.slice.injEq,Nat.reduceAdd,Nat.reduceLeDiff,Nat.reduceMul,Tryz.underlying38,Ty.c38,Ty.a38,Tryz.underlying76,Ty.c76,Ty.a76,getD_map hmg,hml,getD_set,hlt,List.length_set,List.set_set,hms]
   repeat (refine And.intro (by first | omega | (exact set_all (fun x hx=>by obtain ⟨t,_,rfl⟩:=List.mem_map.1 hx;rfl) rfl) | (intros;omega) | (intros;simp_all;done)) ?_)
   refine k _ ?_;clear k K;refine v_op ?_;intro K k
   simp only [zE,zL,zN,aStepM,optable,set_some,Nat.reduceEqDiff,reduceIte,Nat.reduceLT,implies_true,forall_const,reduceCtorEq,V.ofValue,V.ofScalar,V.un,V.gd,aExec,aop,aFieldAddr,Nat.reduceAdd,Nat.reduceLeDiff,Nat.reduceMul,Tryz.underlying3,Ty.c3,Ty.a3,Tryz.underlying9,Ty.c9,Ty.a9,Tryz.underlying76,Ty.c76,Ty.a76,getD_map hmg,hml,getD_set,hlt,List.length_set,List.set_set,hms]
   repeat (refine And.intro (by first | omega | (exact set_all (fun x hx=>by obtain ⟨t,_,rfl⟩:=List.mem_map.1 hx;rfl) rfl) | (intros;omega) | (intros;simp_all;done)) ?_)
   refine k _ ?_;clear k K;refine v_op ?_;intro K k
   simp only [zE,zS,zJ,zL,zO,zN,aStepM,optable,set_some,Nat.reduceEqDiff,reduceIte,Nat.reduceLT,implies_true,forall_const,reduceCtorEq,V.ofValue,V.ofScalar,V.un,V.gd,aExec,aop,aStore,setCells,V.isVal,V.cells,kindOf,kindAll,V.noSl,V.noRef,gt_iff_lt,Nat.reduceAdd,Nat.reduceLeDiff,Nat.reduceMul,takeV,takeCell,takeCells,row_mk,Blk.row,killAll,Nat.reduceBEq,join_t,Tryz.underlying3,Ty.c3,Ty.a3,getD_map hmg,hml,getD_set,hlt,List.length_set,List.set_set,hms]
   repeat (refine And.intro (by first | omega | (exact set_all (fun x hx=>by obtain ⟨t,_,rfl⟩:=List.mem_map.1 hx;rfl) rfl) | (intros;omega) | (intros;simp_all;done)) ?_)
   refine k _ ?_;clear k K;refine k13 _ ?_;refine zk ⟨?_⟩;refine v_seqR [0,1,5] ?_;intro K14 k14;refine zq6 ⟨?_⟩;refine k14 _ ?_;refine zk ⟨?_⟩;refine v_seqR [0,1,5] ?_;intro K15 k15;refine zq20 ⟨?_⟩;refine v_op ?_;intro K k
   simp only [zE,zL,zN,aStepM,optable,set_some,Nat.reduceEqDiff,reduceIte,Nat.reduceLT,implies_true,forall_const,reduceCtorEq,V.ofValue,V.ofScalar,V.un,V.gd,aExec,aop,List.mem_cons,List.not_mem_nil,or_false,forall_eq_or_imp,forall_eq,aIndexAddr,row_mk,Blk.row,Go.Vm.V.cells,List.forall_mem_map,List.length_map,Int.toNat_natCast,Int.reduceToNat,TypeDesc.slice.injEq,Nat.reduceAdd,Nat.reduceLeDiff,Nat.reduceMul,Tryz.underlying38,Ty.c38,Ty.a38,Tryz.underlying76,Ty.c76,Ty.a76,getD_map hmg,hml,getD_set,hlt,List.length_set,List.set_set,hms]
   repeat (refine And.intro (by first | omega | (exact set_all (fun x hx=>by obtain ⟨t,_,rfl⟩:=List.mem_map.1 hx;rfl) rfl) | (intros;omega) | (intros;simp_all;done)) ?_)
   refine k _ ?_;clear k K;refine v_op ?_;intro K k
   simp only [zE,zL,zN,aStepM,optable,set_some,Nat.reduceEqDiff,reduceIte,Nat.reduceLT,implies_true,forall_const,reduceCtorEq,V.ofValue,V.ofScalar,V.un,V.gd,aExec,aop,aFieldAddr,Nat.reduceAdd,Nat.reduceLeDiff,Nat.reduceMul,Tryz.underlying3,Ty.c3,Ty.a3,Tryz.underlying9,Ty.c9,Ty.a9,Tryz.underlying76,Ty.c76,Ty.a76,getD_map hmg,hml,getD_set,hlt,List.length_set,List.set_set,hms]
   repeat (refine And.intro (by first | omega | (exact set_all (fun x hx=>by obtain ⟨t,_,rfl⟩:=List.mem_map.1 hx;rfl) rfl) | (intros;omega) | (intros;simp_all;done)) ?_)
   refine k _ ?_;clear k K;refine v_op ?_;intro K k
   simp only [zE,zS,zJ,zL,zO,zN,aStepM,optable,set_some,Nat.reduceEqDiff,reduceIte,Nat.reduceLT,implies_true,forall_const,reduceCtorEq,V.ofValue,V.ofScalar,V.un,V.gd,aExec,aop,aStore,setCells,V.isVal,V.cells,kindOf,kindAll,V.noSl,V.noRef,gt_iff_lt,Nat.reduceAdd,Nat.reduceLeDiff,Nat.reduceMul,takeV,takeCell,takeCells,row_mk,Blk.row,killAll,Nat.reduceBEq,join_t,Tryz.underlying3,Ty.c3,Ty.a3,getD_map hmg,hml,getD_set,hlt,List.length_set,List.set_set,hms]
   repeat (refine And.intro (by first | omega | (exact set_all (fun x hx=>by obtain ⟨t,_,rfl⟩:=List.mem_map.1 hx;rfl) rfl) | (intros;omega) | (intros;simp_all;done)) ?_)
   refine k _ ?_;clear k K;refine k15 _ ?_;refine zk ⟨?_⟩;refine v_seqR [0,1,5] ?_;intro K16 k16;refine zq6 ⟨?_⟩;refine k16 _ ?_;refine zk ⟨?_⟩;refine v_seqR [0,1,5] ?_;intro K17 k17;refine zq20 ⟨?_⟩;refine v_op ?_;intro K k
   simp only [zE,zL,zN,aStepM,optable,set_some,Nat.reduceEqDiff,reduceIte,Nat.reduceLT,implies_true,forall_const,reduceCtorEq,V.ofValue,V.ofScalar,V.un,V.gd,aExec,aop,List.mem_cons,List.not_mem_nil,or_false,forall_eq_or_imp,forall_eq,aIndexAddr,row_mk,Blk.row,Go.Vm.V.cells,List.forall_mem_map,List.length_map,Int.toNat_natCast,Int.reduceToNat,TypeDesc.slice.injEq,Nat.reduceAdd,Nat.reduceLeDiff,Nat.reduceMul,Tryz.underlying38,Ty.c38,Ty.a38,Tryz.underlying76,Ty.c76,Ty.a76,getD_map hmg,hml,getD_set,hlt,List.length_set,List.set_set,hms]
   repeat (refine And.intro (by first | omega | (exact set_all (fun x hx=>by obtain ⟨t,_,rfl⟩:=List.mem_map.1 hx;rfl) rfl) | (intros;omega) | (intros;simp_all;done)) ?_)
   refine k _ ?_;clear k K;refine v_op ?_;intro K k
   simp only [zE,zL,zN,aStepM,optable,set_some,Nat.reduceEqDiff,reduceIte,Nat.reduceLT,implies_true,forall_const,reduceCtorEq,V.ofValue,V.ofScalar,V.un,V.gd,aExec,aop,aFieldAddr,Nat.reduceAdd,Nat.reduceLeDiff,Nat.reduceMul,Tryz.underlying3,Ty.c3,Ty.a3,Tryz.underlying9,Ty.c9,Ty.a9,Tryz.underlying76,Ty.c76,Ty.a76,getD_map hmg,hml,getD_set,hlt,List.length_set,List.set_set,hms]
   repeat (refine And.intro (by first | omega | (exact set_all (fun x hx=>by obtain ⟨t,_,rfl⟩:=List.mem_map.1 hx;rfl) rfl) | (intros;omega) | (intros;simp_all;done)) ?_)
   refine k _ ?_;clear k K;refine v_op ?_;intro K k
   simp only [zE,zS,zJ,zL,zO,zN,aStepM,optable,set_some,Nat.reduceEqDiff,reduceIte,Nat.reduceLT,implies_true,forall_const,reduceCtorEq,V.ofValue,V.ofScalar,V.un,V.gd,aExec,aop,aStore,setCells,V.isVal,V.cells,kindOf,kindAll,V.noSl,V.noRef,gt_iff_lt,Nat.reduceAdd,Nat.reduceLeDiff,Nat.reduceMul,takeV,takeCell,takeCells,row_mk,Blk.row,killAll,Nat.reduceBEq,join_t,Tryz.underlying3,Ty.c3,Ty.a3,getD_map hmg,hml,getD_set,hlt,List.length_set,List.set_set,hms]
   repeat (refine And.intro (by first | omega | (exact set_all (fun x hx=>by obtain ⟨t,_,rfl⟩:=List.mem_map.1 hx;rfl) rfl) | (intros;omega) | (intros;simp_all;done)) ?_)
   refine k _ ?_;clear k K;refine k17 _ ?_;refine zk ⟨?_⟩;refine v_seqR [0,1,5] ?_;intro K18 k18;refine zq6 ⟨?_⟩;refine k18 _ ?_;refine zk ⟨?_⟩;refine v_seqR [0,1,5] ?_;intro K19 k19;refine zq20 ⟨?_⟩;refine v_op ?_;intro K k
   simp only [zE,zL,zN,aStepM,optable,set_some,Nat.reduceEqDiff,reduceIte,Nat.reduceLT,implies_true,forall_const,reduceCtorEq,V.ofValue,V.ofScalar,V.un,V.gd,aExec,aop,List.mem_cons,List.not_mem_nil,or_false,forall_eq_or_imp,forall_eq,aIndexAddr,row_mk,Blk.row,Go.Vm.V.cells,List.forall_mem_map,List.length_map,Int.toNat_natCast,Int.reduceToNat,TypeDesc.slice.injEq,Nat.reduceAdd,Nat.reduceLeDiff,Nat.reduceMul,Tryz.underlying38,Ty.c38,Ty.a38,Tryz.underlying76,Ty.c76,Ty.a76,getD_map hmg,hml,getD_set,hlt,List.length_set,List.set_set,hms]
   repeat (refine And.intro (by first | omega | (exact set_all (fun x hx=>by obtain ⟨t,_,rfl⟩:=List.mem_map.1 hx;rfl) rfl) | (intros;omega) | (intros;simp_all;done)) ?_)
   refine k _ ?_;clear k K;refine v_op ?_;intro K k
   simp only [zE,zL,zN,aStepM,optable,set_some,Nat.reduceEqDiff,reduceIte,Nat.reduceLT,implies_true,forall_const,reduceCtorEq,V.ofValue,V.ofScalar,V.un,V.gd,aExec,aop,aFieldAddr,Nat.reduceAdd,Nat.reduceLeDiff,Nat.reduceMul,Tryz.underlying3,Ty.c3,Ty.a3,Tryz.underlying9,Ty.c9,Ty.a9,Tryz.underlying76,Ty.c76,Ty.a76,getD_map hmg,hml,getD_set,hlt,List.length_set,List.set_set,hms]
   repeat (refine And.intro (by first | omega | (exact set_all (fun x hx=>by obtain ⟨t,_,rfl⟩:=List.mem_map.1 hx;rfl) rfl) | (intros;omega) | (intros;simp_all;done)) ?_)
   refine k _ ?_;clear k K;refine v_op ?_;intro K k
   simp only [zE,zS,zJ,zL,zO,zN,aStepM,optable,set_some,Nat.reduceEqDiff,reduceIte,Nat.reduceLT,implies_true,forall_const,reduceCtorEq,V.ofValue,V.ofScalar,V.un,V.gd,aExec,aop,aStore,setCells,V.isVal,V.cells,kindOf,kindAll,V.noSl,V.noRef,gt_iff_lt,Nat.reduceAdd,Nat.reduceLeDiff,Nat.reduceMul,takeV,takeCell,takeCells,row_mk,Blk.row,killAll,Nat.reduceBEq,join_t,Tryz.underlying3,Ty.c3,Ty.a3,getD_map hmg,hml,getD_set,hlt,List.length_set,List.set_set,hms]
   repeat (refine And.intro (by first | omega | (exact set_all (fun x hx=>by obtain ⟨t,_,rfl⟩:=List.mem_map.1 hx;rfl) rfl) | (intros;omega) | (intros;simp_all;done)) ?_)
   refine k _ ?_;clear k K;refine k19 _ ?_;refine zk ⟨?_⟩;refine v_region ?_;intro K20 k20;refine zq6 ⟨?_⟩;refine k20 _ ?_;refine n10 _ ?_;refine n9 _ _ (weak_keep [0,1,5] _) ?_;refine zk ⟨?_⟩;refine v_region ?_;intro K21 k21;refine zq6 ⟨?_⟩;refine k21 _ ?_;refine n5 _ (i+1) ?_ ?_ ?_
   ·refine weak_bothS [0,1,5] [0] ⟨?_⟩
    simp only [getD_set,List.length_map,hml,hlt,List.length_set,List.set_set,hms,List.take_succ_cons,List.take_zero,List.drop_succ_cons,List.drop_zero,List.drop_nil,List.cons_append,List.nil_append,List.append_nil];rw [show (kk+5 * (i:Int)+1+1+1+1+1)=kk+5 * ((i+1:Nat):Int) by omega];rfl
   ·exact hlt
   ·show _ < _;omega
  ·intro hc0
   rw [markG_all (g:=(fun j:Nat=>(markT (kk+5 * (j:Int)),(kk+5 * (j:Int)+1),(kk+5 * (j:Int)+1+1),(kk+5 * (j:Int)+1+1+1),(kk+5 * (j:Int)+1+1+1+1)))) hi1] at hc0
   refine v_exit ?_;refine e6 _ _ ?_;refine e5 _ _ ?_;refine x4 _ ?_;refine n2 _ _ (weak_keep [1] _) ?_;refine zk ⟨?_⟩;refine v_seqR [4] ?_;intro K22 k22;refine zq8 ⟨?_⟩;refine k22 _ ?_;refine zk ⟨?_⟩;refine v_ret ?_;refine r0 _ ?_;refine zf ⟨?_⟩
   have hend:i=l.length:=by omega
   subst hend
   exact ret_lent rfl (by simp) rfl (by simp [markAppliance]) (by simp [Blk.kindIs]) (.inl rfl)
set_option maxHeartbeats 1000000 in
theorem markTown_con (n:Int) (ss:List (Int×Int×Int)) (k:Int) (hl:ss.length≤1048576) (hk:0≤k∧k≤1000000000000000):Con Tryz.prog 20 [.agg [.int .i64 n,.ref 0],.int .i64 k] [.arr (ss.map (fun t:Int×Int×Int=>V.agg [V.int .i64 t.1,V.int .i64 t.2.1,V.int .i64 t.2.2])) .flat] (.int .i64 (k+3 * ss.length)) [.arr ((markStreet k ss.length).map (fun t:Int×Int×Int=>V.agg [V.int .i64 t.1,V.int .i64 t.2.1,V.int .i64 t.2.2])) .flat]:=by
 refine v_con [.tmp 4] [(81,[0])] Tryz.func20 rfl rfl rfl (by simp [Tryz.ntmps20]) ?_
 intro Q0 n0 r0
 simp only [Tryz.ntmps20,envFrom,Nat.reduceAdd]
 have T:=Tys.mk (And.intro Ty.t3 (And.intro Ty.t34 (And.intro Ty.t36 Ty.t153)))
 have F:=Fc.mk True.intro
 refine v_seqR [1,2] ?_;intro K1 k1;refine zq9 ⟨?_⟩;refine k1 _ ?_;refine zk ⟨?_⟩;refine v_seqR [1] ?_;intro K2 k2;refine zq26 ⟨?_⟩;refine zcl (markStreetS_con ss k hl hk) ⟨?_⟩;refine zAssign ⟨?_⟩;refine k2 _ ?_;refine zk ⟨?_⟩;refine v_seqR [4] ?_;intro K3 k3;refine zq8 ⟨?_⟩;refine k3 _ ?_;refine zk ⟨?_⟩;refine v_ret ?_;refine r0 _ ?_;refine zf ⟨?_⟩
 exact ret_lent rfl (by simp) rfl (by simp) (by simp [Blk.kindIs]) (.inl rfl)
set_option maxHeartbeats 1000000 in
theorem markStr0_con (k0:Int):Con Tryz.prog 22 [.sl [],.int .i64 k0] [] (.int .i64 k0) []:=by
 refine v_con [.tmp 4] [] Tryz.func22 rfl rfl rfl (by simp [Tryz.ntmps22]) ?_
 intro Q0 n0 r0
 simp only [Tryz.ntmps22,envFrom,Nat.reduceAdd]
 have T:=Tys.mk (And.intro Ty.t3 (And.intro Ty.t9 Ty.t47))
 have F:=Fc.mk True.intro
 refine v_seqR [0,1] ?_;intro K1 k1;refine zAssign ⟨?_⟩;refine k1 _ ?_;refine zk ⟨?_⟩;refine v_seq ?_;intro Q2 n2 e2 r2;refine v_seqR [0,1,5] ?_;intro K3 k3;refine zAssign ⟨?_⟩;refine k3 _ ?_;refine zk ⟨?_⟩;refine v_block ?_;intro Q4 n4 x4 e4 r4;refine v_loop (fun i=>⟨[(0,.sl []),(1,.int .i64 k0),(5,.int .i64 0)],[],false,20,0⟩) (fun i=>True) (fun i=>0) () ?_ ?_ ?_
 ·refine weak_of [0,1,5] ?_
  simp only [keep_mk,keepE_nil,keepE_cons,look_cons,look_nil,Nat.reduceEqDiff,reduceIte]
  all_goals rfl
 ·trivial
 ·rintro i hok5 Q5 n5 e5 r5
  have hok:True:=hok5
  refine v_seq ?_;intro Q6 n6 e6 r6;refine v_seqR [0,1,5,9] ?_;intro K7 k7;refine zq14 ⟨?_⟩;refine k7 _ ?_;refine zk ⟨?_⟩;refine v_cond _ rfl ?_ ?_
  ·intro hc0
   exfalso;simp at hc0
  ·intro hc0
   try simp only [zC,reduceCtorEq] at hc0
   refine v_exit ?_;refine e6 _ _ ?_;refine e5 _ _ ?_;refine x4 _ ?_;refine n2 _ _ (weak_keep [1] _) ?_;refine zk ⟨?_⟩;refine v_seqR [4] ?_;intro K9 k9;refine zq8 ⟨?_⟩;refine k9 _ ?_;refine zk ⟨?_⟩;refine v_ret ?_;refine r0 _ ?_;refine zf ⟨?_⟩
   exact ret_pure rfl rfl (.inl rfl)
end Go.Proofs.YtaefoaghpehbpaaGreatDoor
