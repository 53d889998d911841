/- What functions compute. No condition. -/
import Derived.Test.YtmhaafinhpopmaaGreatDoorX16
import Derived.Test.YtmhaafinhpopmaaGreatDoorX28
set_option linter.unusedSimpArgs false
set_option linter.unusedVariables false
set_option linter.defProp false
namespace Go.Proofs.YtmhaafinhpopmaaGreatDoor
open Go Go.Vm
set_option maxHeartbeats 8000000
set_option maxRecDepth 100000 in
theorem implRun_con (n:Int) (ss:List TS) (fl:List TA) (ins:List TI) (ws:List TW) (L:List ByteArray) (hLl:L.length≤1048576) (hLs:∀s∈L,s.size≤1048576) (hs:ss.length≤1048576) (hl:fl.length≤1048576) (hls:∀t∈fl,t.1.size≤9223372036854775807) (hil:ins.length≤1048576) (hin:∀x∈ins,x.2.2.2.length≤1048576) (his:∀x∈ins,∀s∈x.2.2.2,s.size≤9223372036854775807) (hwl:ws.length≤1048576) (hwn:∀x∈ws,x.2.length≤1048576):Con Tryz.prog 35 [.agg [.int .i64 n,.sl (ss.map (fun t:TS=>V.agg [V.int .i64 t.1,V.int .i64 t.2.1,V.int .i64 t.2.2]))],.agg [.sl (fl.map (fun t:TA=>V.agg [V.str t.1,V.int .i64 t.2.1,V.int .i64 t.2.2.1,V.int .i64 t.2.2.2.1,V.int .i64 t.2.2.2.2])),.sl (ins.map (fun t:TI=>V.agg [V.int .i64 t.1,V.int .i64 t.2.1,V.bool t.2.2.1,V.sl (t.2.2.2.map V.str)])),.sl (ws.map (fun t:TW=>V.agg [V.int .i64 t.1,V.sl (t.2.map (V.int .i64))]))],.sl (L.map V.str)] [] (.tup [.agg [.ref 0,.ref 1,.ref 2],.ref 3,.bool (runB n ss fl ins ws L)]) [.arr ((orNil (runB n ss fl ins ws L) (runTo fl ins L L.length).1).map (fun t:TA=>V.agg [V.str t.1,V.int .i64 t.2.1,V.int .i64 t.2.2.1,V.int .i64 t.2.2.2.1,V.int .i64 t.2.2.2.2])) .flat,.arr ((orNil (runB n ss fl ins ws L) (runTo fl ins L L.length).2.1).map (fun t:TI=>V.agg [V.int .i64 t.1,V.int .i64 t.2.1,V.bool t.2.2.1,V.sl (t.2.2.2.map V.str)])) (fillK (orNil (runB n ss fl ins ws L) (runTo fl ins L L.length).2.1).length),.arr ((orNil (runB n ss fl ins ws L) ws).map (fun t:TW=>V.agg [V.int .i64 t.1,V.sl (t.2.map (V.int .i64))])) (fillK (orNil (runB n ss fl ins ws L) ws).length),.arr ((orNil (runB n ss fl ins ws L) (runTo fl ins L L.length).2.2).map (V.int .i64)) .flat]:=by
 refine v_con [.cell 6 67,.tmp 7,.tmp 8] [] Tryz.func35 rfl rfl rfl (by simp [Tryz.ntmps35]) ?_;intro Q0 n0 r0;simp only [Tryz.ntmps35,envFrom,Nat.reduceAdd];have T:=Tys.mk (ai Ty.t3 (ai Ty.t4 (ai Ty.t9 (ai Ty.t35 (ai Ty.t59 (ai Ty.t63 (ai Ty.t64 (ai Ty.t65 (ai Ty.t67 (ai Ty.t70 (ai Ty.t72 (ai Ty.t120 (ai Ty.t122 (ai Ty.t154 (ai Ty.t156 (ai Ty.t158 Ty.t164))))))))))))))));have F:=Fc.mk True.intro;refine yR [2,3,4,6] ⟨?_⟩;refine v_seq ?_;intros;refine yRcg [2,4,6,30] (isTown_con n ss hs) (isControl_con n ss fl ins ws hs hl hls hil hin his hwl hwn) ⟨?_⟩;refine v_condS _ rfl ?_ ?_
 ·intro hc0;have hR:(runB n ss fl ins ws L)=false:=by
   rw [runB];cases q:(ctlB n ss fl ins ws) with
   |false=>rfl
   |true=>
    have ht:=ctl_town q;rw [Bool.true_and,decide_eq_false_iff_not];first | (simp [q,ht] at hc0;omega) | (simp [q] at hc0;omega)
  refine yR [6,7,8] ⟨?_⟩;refine zq1 ⟨?_⟩;simp only [hR,orNil_f,List.map_nil,List.length_nil,fillK_0];exact rta
 ·intro hc0;have hB:(ctlB n ss fl ins ws)=true:=by
   cases q:(ctlB n ss fl ins ws) with
   |true=>rfl
   |false=>simp [q] at hc0
  have h40:(L.length:Int)≤40:=by
   have ht:=ctl_town hB;first | (simp [hB,ht] at hc0;omega) | omega
  have hR:(runB n ss fl ins ws L)=true:=by rw [runB,hB,decide_eq_true h40];rfl
  refine zn [2,4,6] ⟨?_⟩;refine yRc [2,6,9] (copyControl_con fl ins ws hl hil hin hwl hwn) ⟨?_⟩;refine yR [2,6,9,10] ⟨?_⟩;refine v_seq ?_;intros;refine yR [6,9,10,33,34,35] ⟨?_⟩;refine v_block ?_;intros;refine v_loop (fun i=>⟨[(6,.ptr 3 0 0),(9,.ptr 7 0 0),(10,.ref 8),(33,.sl (L.map V.str)),(34,.int .i64 L.length),(35,.int .i64 (Nat.cast i))],[.arr [] .flat,.arr [] .flat,.arr [] .flat,.box (.agg [.ref 0,.ref 1,.ref 2]) .mix,.arr ((runTo fl ins L i).1.map (fun t:TA=>V.agg [V.str t.1,V.int .i64 t.2.1,V.int .i64 t.2.2.1,V.int .i64 t.2.2.2.1,V.int .i64 t.2.2.2.2])) .flat,.arr ((runTo fl ins L i).2.1.map (fun t:TI=>V.agg [V.int .i64 t.1,V.int .i64 t.2.1,V.bool t.2.2.1,V.sl (t.2.2.2.map V.str)])) (fillK (runTo fl ins L i).2.1.length),.arr (ws.map (fun t:TW=>V.agg [V.int .i64 t.1,V.sl (t.2.map (V.int .i64))])) (fillK ws.length),.box (.agg [.ref 4,.ref 5,.ref 6]) .mix,.arr ((runTo fl ins L i).2.2.map (V.int .i64)) .flat],false,75,0⟩) (fun i=>i≤L.length) (fun i=>L.length - i) 0 ?_ ?_ ?_
  ·refine weak_bothN [6,9,10,33,34,35] [2,3,4,5,7,8,9,13,14] ⟨?_⟩;rfl
  ·exact qld _
  ·rintro i hok11 Q11 n11 e11 r11;have hi1:i≤L.length:=hok11;refine yR [6,9,10,33,34,35,36] ⟨?_⟩;refine v_seq ?_;intros;refine v_condS _ rfl ?_ ?_
   ·intro hc1;have hlt:i < L.length:=by omega
    obtain ⟨s,hx⟩:∃s,L[i]? =some s:=⟨_,qla hlt⟩;have hnx:=run_next (fl:=fl) (ins:=ins) hx;have hI:=run_inv (L:=L) hB i;obtain ⟨st,hst⟩:∃st,st=runTo fl ins L i:=⟨_,rfl⟩;rw [←hst] at hnx hI;obtain ⟨z1,z2,z3,z4⟩:=ctl_sizesR hI.ok;have hz:=hLs s (qlb hx);have hfl:=hI.len;rw [←hst];obtain ⟨hca,hcb⟩:=cut_sz s hz;refine zn [6,9,10,33,34,35] ⟨?_⟩;refine v_seq ?_;intros;refine v_block ?_;intros;have F:=Fc.mk (gdm hx);refine yR [6,9,10,11,12,33,34,35] ⟨?_⟩;refine yRc [6,9,10,11,13,14,33,34,35] (cut_con s hz) ⟨?_⟩;refine yRc [6,9,10,11,13,14,16,17,33,34,35] (readNumber_con (cutB s) hcb) ⟨?_⟩;refine yR [6,9,10,11,13,14,16,17,18,19,33,34,35] ⟨?_⟩;refine v_seq ?_;intros;refine yR [6,9,10,11,13,16,17,18,19,33,34,35,53] ⟨?_⟩;refine v_condS _ rfl ?_ ?_
    ·intro hc2;have hat:cutB s=(⟨#[97,116]⟩:ByteArray):=by simpa using hc2
     have hLB:=lineB_at (fl:=st.1) hat;refine yQc [6,9,10,11,18,19,33,34,35] (arriveAt_con n ss st.1 st.2.1 ws (cutA s) z1 z3 z4 hwl hwn hI.ok) ⟨?_⟩;refine yR [6,9,10,11,18,33,34,35,66] ⟨?_⟩;refine v_condS _ rfl ?_ ?_
     ·intro hc3;have hq:arrB st.1 (cutA s)=true:=by simpa using hc3
      have hL:lineB st.1 s=true:=by rw [hLB];exact hq
      have hn:runTo fl ins L (i+1)=(arrF st.1 st.2.1 (cutA s),st.2.1,st.2.2):=by rw [hnx,runStep,if_pos hL,lineF,lineI,if_pos hat,if_pos hat]
      simp only [hq,orNil_t];refine yQ [6,9,10,33,34,35] ⟨?_⟩;refine yV ⟨?_⟩;refine n11 _ (i+1) ?_ ?_ ?_
      ·refine weak_bothN [6,9,10,33,34,35] [0,1,2,3,13,14,15,7,8] ⟨?_⟩;rw [hn];rfl
      ·exact hlt
      ·show _ < _;omega
     ·intro hc3;have hL:lineB st.1 s=false:=by rw [hLB];simpa using hc3
      have hn:runTo fl ins L (i+1)=(st.1,st.2.1,st.2.2++[(i:Int)]):=by rw [hnx,runStep,if_neg (by rw [hL];decide)]
      have hsn:st.2.2.map (V.int .i64)++[V.int .i64 (i:Int)]=(st.2.2++[(i:Int)]).map (V.int .i64):=by rw [ql3];rfl
      refine yQ [6,9,10,33,34,35] ⟨?_⟩;refine yV ⟨?_⟩;refine n11 _ (i+1) ?_ ?_ ?_
      ·refine weak_bothN [6,9,10,33,34,35] [0,1,2,3,4,5,6,7,17] ⟨?_⟩;rw [hn,hsn];rfl
      ·exact hlt
      ·show _ < _;omega
    ·intro hc2;have hat:cutB s≠(⟨#[97,116]⟩:ByteArray):=by simpa using hc2
     refine yR [6,9,10,11,13,16,18,19,33,34,35,59] ⟨?_⟩;refine v_condS _ rfl ?_ ?_
     ·intro hc4;have hrb:rdB (cutB s)=true:=by simpa using hc4
      obtain ⟨q1,q2⟩:=line_num (fl:=st.1) hat hrb;refine yQc [6,9,10,11,18,19,33,34,35] (reportState_con n ss st.1 st.2.1 ws (cutA s) (rdV (cutB s)) z1 z3 z4 hwl hwn z2 hI.ok) ⟨?_⟩;refine yR [6,9,10,11,18,33,34,35,66] ⟨?_⟩;refine v_condS _ rfl ?_ ?_
      ·intro hc5;have hq:repB st.1 (cutA s) (rdV (cutB s))=true:=by simpa using hc5
       have hL:lineB st.1 s=true:=by rw [q1];exact hq
       have hn:runTo fl ins L (i+1)=(chgF st.1 (cutA s) (rdV (cutB s)),repI st.2.1 (cutA s) (rdV (cutB s)),st.2.2):=by rw [hnx,runStep,if_pos hL,lineF,lineI,if_neg hat,if_neg hat,q2 hL]
       simp only [hq,orNil_t];refine yQ [6,9,10,33,34,35] ⟨?_⟩;refine yV ⟨?_⟩;refine n11 _ (i+1) ?_ ?_ ?_
       ·refine weak_bothN [6,9,10,33,34,35] [0,1,2,3,13,14,15,7,8] ⟨?_⟩;rw [hn];rfl
       ·exact hlt
       ·show _ < _;omega
      ·intro hc5;have hL:lineB st.1 s=false:=by rw [q1];simpa using hc5
       have hn:runTo fl ins L (i+1)=(st.1,st.2.1,st.2.2++[(i:Int)]):=by rw [hnx,runStep,if_neg (by rw [hL];decide)]
       have hsn:st.2.2.map (V.int .i64)++[V.int .i64 (i:Int)]=(st.2.2++[(i:Int)]).map (V.int .i64):=by rw [ql3];rfl
       refine yQ [6,9,10,33,34,35] ⟨?_⟩;refine yV ⟨?_⟩;refine n11 _ (i+1) ?_ ?_ ?_
       ·refine weak_bothN [6,9,10,33,34,35] [0,1,2,3,4,5,6,7,17] ⟨?_⟩;rw [hn,hsn];rfl
       ·exact hlt
       ·show _ < _;omega
     ·intro hc4;have hrb:rdB (cutB s)=false:=by simpa using hc4
      have hL:lineB st.1 s=false:=line_no hat hrb;have hn:runTo fl ins L (i+1)=(st.1,st.2.1,st.2.2++[(i:Int)]):=by rw [hnx,runStep,if_neg (by rw [hL];decide)]
      have hsn:st.2.2.map (V.int .i64)++[V.int .i64 (i:Int)]=(st.2.2++[(i:Int)]).map (V.int .i64):=by rw [ql3];rfl
      refine zn [6,9,10,11,18,19,33,34,35] ⟨?_⟩;refine yR [6,9,10,11,18,33,34,35,66] ⟨?_⟩;refine v_cond _ rfl ?_ ?_
      ·intro hc6;exfalso;simp at hc6
      ·intro hc6;try simp only [zC,reduceCtorEq] at hc6
       refine yQ [6,9,10,33,34,35] ⟨?_⟩;refine yV ⟨?_⟩;refine n11 _ (i+1) ?_ ?_ ?_
       ·refine weak_bothN [6,9,10,33,34,35] [0,1,2,3,4,5,6,7,14] ⟨?_⟩;rw [hn,hsn];rfl
       ·exact hlt
       ·show _ < _;omega
   ·intro hc1;have hie:i=L.length:=by omega
    subst hie;refine zn [6,9,10] ⟨?_⟩;refine yR [6,7,8] ⟨?_⟩;refine zq1 ⟨?_⟩;simp only [hR,orNil_t];exact rta
theorem run_T (n:Int) (ss:List TS) (fl:List TA) (ins:List TI) (ws:List TW) (L:List ByteArray) (hwl:ws.length≤1048576) (hwn:∀x∈ws,x.2.length≤1048576) (hL:L.length≤1048576):(orNil (runB n ss fl ins ws L) (runTo fl ins L L.length).1).length≤1048576∧(orNil (runB n ss fl ins ws L) (runTo fl ins L L.length).2.1).length≤1048576∧(∀x∈orNil (runB n ss fl ins ws L) (runTo fl ins L L.length).2.1,x.2.2.2.length≤1048576)∧(orNil (runB n ss fl ins ws L) ws).length≤1048576∧(∀x∈orNil (runB n ss fl ins ws L) ws,x.2.length≤1048576)∧(orNil (runB n ss fl ins ws L) (runTo fl ins L L.length).2.2).length≤1048576:=by
  rcases Bool.eq_false_or_eq_true (runB n ss fl ins ws L) with hR | hR
  · rw [hR]
    simp only [orNil_t];have hq:=hR;rw [runB,qlf] at hq;have hI:=run_inv (L:=L) hq.1 L.length;obtain ⟨z1,_,z3,z4⟩:=ctl_sizesR hI.ok;exact ⟨z1,z3,z4,hwl,hwn,qlx hI.len hL⟩
  · rw [hR];simp [orNil_f]
theorem szStr1_sz {n:Int} {s:ByteArray} (h:0≤szStr1 n s):(s.size:Int)≤n:=by
  unfold szStr1 at h;split at h<;>omega
theorem szStr_sz {n:Int} {l:List ByteArray} (h0:0≤n) (hn:n≤1048576) (h:0≤(if n - (l.length:Int) < 0 then -1 else szLst szStr1 (n - (l.length:Int)) l)):∀s∈l,s.size≤1048576:=by
  split at h
  · omega
  · intro s hs
    have:=szLst_le (f:=szStr1) (g:=fun s:ByteArray=>(s.size:Int)) (fun n x h0 h1=>⟨szStr1_sz h1,szStr1_le n x h0⟩) (by omega) h s hs;omega
end Go.Proofs.YtmhaafinhpopmaaGreatDoor
