/- What functions compute. No condition. -/
import Derived.Test.YtmhaafinhpopmaaGreatDoorX23
set_option linter.unusedSimpArgs false
set_option linter.unusedVariables false
set_option linter.defProp false
namespace Go.Proofs.YtmhaafinhpopmaaGreatDoor
open Go Go.Vm
set_option maxHeartbeats 8000000
theorem fillK_0:fillK 0=.flat:=rfl
set_option maxRecDepth 100000 in
theorem arriveAt_con (n:Int) (ss:List TS) (fl:List TA) (ins:List TI) (ws:List TW) (s:ByteArray) (hl:fl.length≤1048576) (hil:ins.length≤1048576) (hin:∀x∈ins,x.2.2.2.length≤1048576) (hwl:ws.length≤1048576) (hwn:∀x∈ws,x.2.length≤1048576) (hB:(ctlB n ss fl ins ws)=true):Con Tryz.prog 91 [.pv [.agg [.sl (fl.map (fun t:TA=>V.agg [V.str t.1,V.int .i64 t.2.1,V.int .i64 t.2.2.1,V.int .i64 t.2.2.2.1,V.int .i64 t.2.2.2.2])),.sl (ins.map (fun t:TI=>V.agg [V.int .i64 t.1,V.int .i64 t.2.1,V.bool t.2.2.1,V.sl (t.2.2.2.map V.str)])),.sl (ws.map (fun t:TW=>V.agg [V.int .i64 t.1,V.sl (t.2.map (V.int .i64))]))]] 0 0,.str s] [] (.tup [.agg [.ref 0,.ref 1,.ref 2],.bool (arrB fl s)]) [.arr ((orNil (arrB fl s) (arrF fl ins s)).map (fun t:TA=>V.agg [V.str t.1,V.int .i64 t.2.1,V.int .i64 t.2.2.1,V.int .i64 t.2.2.2.1,V.int .i64 t.2.2.2.2])) .flat,.arr ((orNil (arrB fl s) ins).map (fun t:TI=>V.agg [V.int .i64 t.1,V.int .i64 t.2.1,V.bool t.2.2.1,V.sl (t.2.2.2.map V.str)])) (fillK (orNil (arrB fl s) ins).length),.arr ((orNil (arrB fl s) ws).map (fun t:TW=>V.agg [V.int .i64 t.1,V.sl (t.2.map (V.int .i64))])) (fillK (orNil (arrB fl s) ws).length)]:=by
 refine v_con [.cell 4 67,.tmp 5] [] Tryz.func91 rfl rfl rfl (by simp [Tryz.ntmps91]) ?_;intro Q0 n0 r0;simp only [Tryz.ntmps91,envFrom,Nat.reduceAdd];have T:=Tys.mk (ai Ty.t3 (ai Ty.t4 (ai Ty.t9 (ai Ty.t35 (ai Ty.t59 (ai Ty.t63 (ai Ty.t64 (ai Ty.t65 (ai Ty.t67 (ai Ty.t122 (ai Ty.t154 (ai Ty.t156 Ty.t158))))))))))));have F:=Fc.mk True.intro;rcases findA_cases fl s with hf | ⟨k,⟨a0,a1,a2,a3,a4⟩,ha3,ha1,ha2⟩
 ·skip;have hneg:decide (findA fl s < (0:Int))=true:=by rw [hf];rfl
  have hA:(arrB fl s)=false:=by rw [arrB,decide_eq_false (by omega)];rfl
  have F:=Fc.mk hneg;refine yR [0,1,4] ⟨?_⟩;refine yRc [0,1,4,6] (findAppliance_con fl s hl) ⟨?_⟩;refine v_seq ?_;intros;refine yR [0,1,4,6,26] ⟨?_⟩;refine v_cond _ rfl ?_ ?_
  ·intro hc0;try simp only [zC,reduceCtorEq] at hc0
   have hA:(arrB fl s)=false:=by
    first
    |exact hA
    |(cases hq:(arrB fl s) with
     |false=>rfl
     |true=>(exfalso;rw [arrB,hsa] at hq;simp at hq hc0;exact hc0 hq.2))
   refine yR [4,5] ⟨?_⟩;refine zq1 ⟨?_⟩;simp only [hA,orNil_f,List.map_nil,List.length_nil,fillK_0];exact rta
  ·intro hc0;exfalso;simp at hc0
 ·skip;have hc:=ctl_facts hB;simp only [] at ha2;have hsa:=stA_at ha3 ha1;simp only [] at hsa;have hkl:k < fl.length:=(qlc.1 ha1).1;have hk0:decide ((k:Int) < (0:Int))=false:=decide_eq_false (by omega);have F:=Fc.mk (ai ha3 (ai @qlq (ai hk0 (gdm ha1))));refine yR [0,1,4] ⟨?_⟩;refine yRc [0,1,4,6] (findAppliance_con fl s hl) ⟨?_⟩;refine v_seq ?_;intros;refine yR [0,1,4,6,26] ⟨?_⟩;refine v_condS _ rfl ?_ ?_
  ·intro hc0;have hA:(arrB fl s)=false:=by
    first
    |exact hA
    |(cases hq:(arrB fl s) with
     |false=>rfl
     |true=>(exfalso;rw [arrB,hsa] at hq;simp at hq hc0;exact hc0 hq.2))
   refine yR [4,5] ⟨?_⟩;refine zq1 ⟨?_⟩;simp only [hA,orNil_f,List.map_nil,List.length_nil,fillK_0];exact rta
  ·intro hc0;have hst2:a4=2:=by simpa using hc0
   have hcm:=arr_comm hc ha1 ha2 hst2;obtain ⟨m,⟨x0,x1,x2,x3⟩,hm1,_,hm3⟩:=commF_at hcm;have hml:m < ins.length:=(qlc.1 hm1).1;have hA:(arrB fl s)=true:=by rw [arrB,hsa,hst2,ha3,decide_eq_true (show (0:Int)≤(k:Int) by omega)];rfl
   have hAF:=arrF_at ha3 ha1 hm3 hm1;simp only [] at hAF;have hsm1:(fl.map (fun t:TA=>V.agg [V.str t.1,V.int .i64 t.2.1,V.int .i64 t.2.2.1,V.int .i64 t.2.2.2.1,V.int .i64 t.2.2.2.2])).set k (V.agg [V.str a0,V.int .i64 a1,V.int .i64 a2,V.int .i64 a3,V.int .i64 3])=(fl.set k (a0,a1,a2,a3,3)).map (fun t:TA=>V.agg [V.str t.1,V.int .i64 t.2.1,V.int .i64 t.2.2.1,V.int .i64 t.2.2.2.1,V.int .i64 t.2.2.2.2]):=by have q:=List.map_set (f:=(fun t:TA=>V.agg [V.str t.1,V.int .i64 t.2.1,V.int .i64 t.2.2.1,V.int .i64 t.2.2.2.1,V.int .i64 t.2.2.2.2])) (l:=fl) (i:=k) (a:=(a0,a1,a2,a3,3));exact q.symm
   have hg1:(fl.set k (a0,a1,a2,a3,3))[k]? =some (a0,a1,a2,a3,3):=qlm hkl;have hl1:(fl.set k (a0,a1,a2,a3,3)).length=fl.length:=qlh;have hsm2:((fl.set k (a0,a1,a2,a3,3)).map (fun t:TA=>V.agg [V.str t.1,V.int .i64 t.2.1,V.int .i64 t.2.2.1,V.int .i64 t.2.2.2.1,V.int .i64 t.2.2.2.2])).set k (V.agg [V.str a0,V.int .i64 a1,V.int .i64 x1,V.int .i64 a3,V.int .i64 3])=(fl.set k (a0,a1,x1,a3,3)).map (fun t:TA=>V.agg [V.str t.1,V.int .i64 t.2.1,V.int .i64 t.2.2.1,V.int .i64 t.2.2.2.1,V.int .i64 t.2.2.2.2]):=by have q:=List.map_set (f:=(fun t:TA=>V.agg [V.str t.1,V.int .i64 t.2.1,V.int .i64 t.2.2.1,V.int .i64 t.2.2.2.1,V.int .i64 t.2.2.2.2])) (l:=fl.set k (a0,a1,a2,a3,3)) (i:=k) (a:=(a0,a1,x1,a3,3));rw [List.set_set] at q;exact q.symm
   refine zn [0,1,4,6] ⟨?_⟩;have F:=Fc.mk (ai ha3 (ai @qlq (ai hk0 (ai (gdm ha1) (ai hm3 (ai (gdm hm1) (ai hsm1 (ai (gdm hg1) (ai hl1 hsm2)))))))));refine yRc [0,1,4,6,7] (copyControl_con fl ins ws hl hil hin hwl hwn) ⟨?_⟩;refine yR [0,1,4,6,7] ⟨?_⟩;refine v_seq ?_;intro Q15 n15 e15 r15;refine v_draw (by kernel_rfl) ?_;intro K16 q16 k16;show aAny _ _ _ _ 19 (Array.replicate 19 false) _;refine zdFieldAddr q16 true 0 35 ?_;refine zdLoadX q16 true 1 36 ?_;refine zdMove q16 true 2 37 ?_;refine zdMove q16 true 3 38 ?_;refine zdNilCheck q16 true 4 39 ?_;refine zdFieldAddr q16 true 5 40 ?_;refine zdLoadX q16 true 6 41 ?_;refine zdMove q16 true 7 42 ?_;refine zdNilCheck q16 true 8 43 ?_;refine zdFieldAddr q16 true 9 44 ?_;refine zdLoadX q16 true 10 45 ?_;refine zdMove q16 true 11 46 ?_;refine zoc 12 (committedAt_con ins s hil hin) ⟨?_⟩;refine zdIndexAddr q16 true 13 48 ?_;refine zdFieldAddr q16 true 14 49 ?_;refine zdLoadX q16 true 15 50 ?_;refine zdIndexAddr q16 true 16 51 ?_;refine zdFieldAddr q16 true 17 52 ?_;refine zoStore 18 ⟨?_⟩;refine aAny_done (by kernel_rfl) ?_;refine k16 _ ?_;refine n15 _ _ (weak_keep [4,7] _) ?_;refine zk ⟨?_⟩;refine yR [4,5] ⟨?_⟩;refine zq1 ⟨?_⟩;simp only [hA,orNil_t];rw [hAF];exact rta
set_option maxRecDepth 100000 in
theorem roArrive_con (n:Int) (ss:List TS) (fl:List TA) (ins:List TI) (ws:List TW) (s:ByteArray) (hl:fl.length≤1048576) (hil:ins.length≤1048576) (hin:∀x∈ins,x.2.2.2.length≤1048576) (hwl:ws.length≤1048576) (hwn:∀x∈ws,x.2.length≤1048576) (hB:(ctlB n ss fl ins ws)=true):Con Tryz.prog 129 [.agg [.sl (fl.map (fun t:TA=>V.agg [V.str t.1,V.int .i64 t.2.1,V.int .i64 t.2.2.1,V.int .i64 t.2.2.2.1,V.int .i64 t.2.2.2.2])),.sl (ins.map (fun t:TI=>V.agg [V.int .i64 t.1,V.int .i64 t.2.1,V.bool t.2.2.1,V.sl (t.2.2.2.map V.str)])),.sl (ws.map (fun t:TW=>V.agg [V.int .i64 t.1,V.sl (t.2.map (V.int .i64))]))],.str s] [] (.tup [.agg [.ref 0,.ref 1,.ref 2],.bool (arrB fl s)]) [.arr ((orNil (arrB fl s) (arrF fl ins s)).map (fun t:TA=>V.agg [V.str t.1,V.int .i64 t.2.1,V.int .i64 t.2.2.1,V.int .i64 t.2.2.2.1,V.int .i64 t.2.2.2.2])) .flat,.arr ((orNil (arrB fl s) ins).map (fun t:TI=>V.agg [V.int .i64 t.1,V.int .i64 t.2.1,V.bool t.2.2.1,V.sl (t.2.2.2.map V.str)])) (fillK (orNil (arrB fl s) ins).length),.arr ((orNil (arrB fl s) ws).map (fun t:TW=>V.agg [V.int .i64 t.1,V.sl (t.2.map (V.int .i64))])) (fillK (orNil (arrB fl s) ws).length)]:=by
 refine v_con [.cell 4 67,.tmp 5] [] Tryz.func129 rfl rfl rfl (by simp [Tryz.ntmps129]) ?_;intro Q0 n0 r0;simp only [Tryz.ntmps129,envFrom,Nat.reduceAdd];have T:=Tys.mk (ai Ty.t3 (ai Ty.t4 (ai Ty.t9 (ai Ty.t35 (ai Ty.t59 (ai Ty.t63 (ai Ty.t64 (ai Ty.t65 (ai Ty.t67 (ai Ty.t154 (ai Ty.t156 Ty.t158)))))))))));have F:=Fc.mk True.intro;rcases findA_cases fl s with hf | ⟨k,⟨a0,a1,a2,a3,a4⟩,ha3,ha1,ha2⟩
 ·skip;have hneg:decide (findA fl s < (0:Int))=true:=by rw [hf];rfl
  have hA:(arrB fl s)=false:=by rw [arrB,decide_eq_false (by omega)];rfl
  have F:=Fc.mk hneg;refine yR [1,2,4] ⟨?_⟩;refine yRc [1,2,4,6] (apFind_con fl s hl) ⟨?_⟩;refine v_seq ?_;intros;refine yR [1,2,4,6,23] ⟨?_⟩;refine v_cond _ rfl ?_ ?_
  ·intro hc0;try simp only [zC,reduceCtorEq] at hc0
   have hA:(arrB fl s)=false:=by
    first
    |exact hA
    |(cases hq:(arrB fl s) with
     |false=>rfl
     |true=>(exfalso;rw [arrB,hsa] at hq;simp at hq hc0;exact hc0 hq.2))
   refine yR [4,5] ⟨?_⟩;refine zq1 ⟨?_⟩;simp only [hA,orNil_f,List.map_nil,List.length_nil,fillK_0];exact rta
  ·intro hc0;exfalso;simp at hc0
 ·skip;have hc:=ctl_facts hB;simp only [] at ha2;have hsa:=stA_at ha3 ha1;simp only [] at hsa;have hkl:k < fl.length:=(qlc.1 ha1).1;have hk0:decide ((k:Int) < (0:Int))=false:=decide_eq_false (by omega);have F:=Fc.mk (ai ha3 (ai @qlq (ai hk0 (gdm ha1))));refine yR [1,2,4] ⟨?_⟩;refine yRc [1,2,4,6] (apFind_con fl s hl) ⟨?_⟩;refine v_seq ?_;intros;refine yR [1,2,4,6,23] ⟨?_⟩;refine v_condS _ rfl ?_ ?_
  ·intro hc0;have hA:(arrB fl s)=false:=by
    first
    |exact hA
    |(cases hq:(arrB fl s) with
     |false=>rfl
     |true=>(exfalso;rw [arrB,hsa] at hq;simp at hq hc0;exact hc0 hq.2))
   refine yR [4,5] ⟨?_⟩;refine zq1 ⟨?_⟩;simp only [hA,orNil_f,List.map_nil,List.length_nil,fillK_0];exact rta
  ·intro hc0;have hst2:a4=2:=by simpa using hc0
   have hcm:=arr_comm hc ha1 ha2 hst2;obtain ⟨m,⟨x0,x1,x2,x3⟩,hm1,_,hm3⟩:=commF_at hcm;have hml:m < ins.length:=(qlc.1 hm1).1;have hA:(arrB fl s)=true:=by rw [arrB,hsa,hst2,ha3,decide_eq_true (show (0:Int)≤(k:Int) by omega)];rfl
   have hAF:=arrF_at ha3 ha1 hm3 hm1;simp only [] at hAF;have hsm1:(fl.map (fun t:TA=>V.agg [V.str t.1,V.int .i64 t.2.1,V.int .i64 t.2.2.1,V.int .i64 t.2.2.2.1,V.int .i64 t.2.2.2.2])).set k (V.agg [V.str a0,V.int .i64 a1,V.int .i64 a2,V.int .i64 a3,V.int .i64 3])=(fl.set k (a0,a1,a2,a3,3)).map (fun t:TA=>V.agg [V.str t.1,V.int .i64 t.2.1,V.int .i64 t.2.2.1,V.int .i64 t.2.2.2.1,V.int .i64 t.2.2.2.2]):=by have q:=List.map_set (f:=(fun t:TA=>V.agg [V.str t.1,V.int .i64 t.2.1,V.int .i64 t.2.2.1,V.int .i64 t.2.2.2.1,V.int .i64 t.2.2.2.2])) (l:=fl) (i:=k) (a:=(a0,a1,a2,a3,3));exact q.symm
   have hg1:(fl.set k (a0,a1,a2,a3,3))[k]? =some (a0,a1,a2,a3,3):=qlm hkl;have hl1:(fl.set k (a0,a1,a2,a3,3)).length=fl.length:=qlh;have hsm2:((fl.set k (a0,a1,a2,a3,3)).map (fun t:TA=>V.agg [V.str t.1,V.int .i64 t.2.1,V.int .i64 t.2.2.1,V.int .i64 t.2.2.2.1,V.int .i64 t.2.2.2.2])).set k (V.agg [V.str a0,V.int .i64 a1,V.int .i64 x1,V.int .i64 a3,V.int .i64 3])=(fl.set k (a0,a1,x1,a3,3)).map (fun t:TA=>V.agg [V.str t.1,V.int .i64 t.2.1,V.int .i64 t.2.2.1,V.int .i64 t.2.2.2.1,V.int .i64 t.2.2.2.2]):=by have q:=List.map_set (f:=(fun t:TA=>V.agg [V.str t.1,V.int .i64 t.2.1,V.int .i64 t.2.2.1,V.int .i64 t.2.2.2.1,V.int .i64 t.2.2.2.2])) (l:=fl.set k (a0,a1,a2,a3,3)) (i:=k) (a:=(a0,a1,x1,a3,3));rw [List.set_set] at q;exact q.symm
   refine zn [1,2,4,6] ⟨?_⟩;have F:=Fc.mk (ai ha3 (ai @qlq (ai hk0 (ai (gdm ha1) (ai hm3 (ai (gdm hm1) (ai hsm1 (ai (gdm hg1) (ai hl1 hsm2)))))))));refine yRc [1,2,4,6,7] (roOwn_con fl ins ws hl hil hin hwl hwn) ⟨?_⟩;refine yR [1,2,4,6,7,8] ⟨?_⟩;refine yR [1,2,4,6,7,8] ⟨?_⟩;refine v_seq ?_;intro Q16 n16 e16 r16;refine v_draw (by kernel_rfl) ?_;intro K17 q17 k17;show aAny _ _ _ _ 11 (Array.replicate 11 false) _;refine zdFieldAddr q17 true 0 33 ?_;refine zdLoadX q17 true 1 34 ?_;refine zdFieldAddr q17 true 2 35 ?_;refine zdLoadX q17 true 3 36 ?_;refine zdMove q17 true 4 37 ?_;refine zoc 5 (ixOf_con ins s hil hin) ⟨?_⟩;refine zdIndexAddr q17 true 6 39 ?_;refine zdFieldAddr q17 true 7 40 ?_;refine zdLoadX q17 true 8 41 ?_;refine zdFieldAddr q17 true 9 42 ?_;refine zoStore 10 ⟨?_⟩;refine aAny_done (by kernel_rfl) ?_;refine k17 _ ?_;refine n16 _ _ (weak_keep [2,4,6,7,8] _) ?_;refine zk ⟨?_⟩;refine yRc [4,7] (apWith_con fl k a0 a1 x1 a3 3 hl hkl) ⟨?_⟩;refine yR [4,5] ⟨?_⟩;refine zq1 ⟨?_⟩;simp only [hA,orNil_t];rw [hAF];exact rta
def nextI (s:Int):List Int:=if s=0 then [1,5] else if s=1 then [2,0] else if s=2 then [3,4] else if s=3 then [4] else if s=4 then [0,1,5] else [0]
def nextX (s:Int):List Int:=if s=0 then [1,5] else if s=1 then [0,2] else if s=2 then [3,4] else if s=3 then [4] else if s=4 then [0,1,5] else [0]
theorem next_len (s:Int):(nextI s).length≤3∧(nextX s).length≤3:=by
  unfold nextI nextX;repeat' split
  all_goals simp
theorem next_mem (s t:Int):t∈nextX s↔t∈nextI s:=by
  unfold nextI nextX;repeat' split
  all_goals simp [or_comm]
def chgB (fl:List TA) (s:ByteArray) (t:Int):Bool:=decide (0≤findA fl s) && (decide (0≤t) && decide (t≤5)) && decide (t∈nextI (stA fl s))
def chgF (fl:List TA) (s:ByteArray) (t:Int):List TA:=match fl[(findA fl s).toNat]? with
  | some a=>fl.set (findA fl s).toNat (a.1,a.2.1,a.2.2.1,a.2.2.2.1,t)
  | none=>fl
theorem chgF_at {fl:List TA} {s:ByteArray} {t:Int} {k:Nat} {a:TA} (h1:findA fl s=(k:Int)) (h2:fl[k]? =some a):chgF fl s t=fl.set k (a.1,a.2.1,a.2.2.1,a.2.2.2.1,t):=by
  rw [chgF,h1,qlq,h2]
theorem chg_cases (fl:List TA) (s:ByteArray) (t:Int):(findA fl s=-1∧chgB fl s t=false)∨(∃(k:Nat) (a:TA),findA fl s=(k:Int)∧fl[k]? =some a∧(decide (0≤t) && decide (t≤5))=false∧chgB fl s t=false)∨
    ∃(k:Nat) (a:TA),findA fl s=(k:Int)∧fl[k]? =some a∧(decide (0≤t) && decide (t≤5))=true∧chgB fl s t=decide (t∈nextI a.2.2.2.2):=by
  rcases findA_cases fl s with h | ⟨k,a,h1,h2,_⟩
  · exact .inl ⟨h,by rw [chgB,h];rfl⟩
  · right
    cases q:(decide (0≤t) && decide (t≤5)) with
    | false=>exact .inl ⟨k,a,h1,h2,rfl,by rw [chgB,q];simp⟩
    | true=>exact .inr ⟨k,a,h1,h2,rfl,by rw [chgB,q,stA_at h1 h2,h1,decide_eq_true (show (0:Int)≤(k:Int) by omega)];rfl⟩
def repB (fl:List TA) (s:ByteArray) (t:Int):Bool:=chgB fl s t && !decide (t=1)
def repI (ins:List TI) (s:ByteArray) (t:Int):List TI:=if 0≤commF ins s∧¬(1≤t∧t≤3) then (match ins[(commF ins s).toNat]? with
  | some x=>ins.set (commF ins s).toNat (x.1,x.2.1,x.2.2.1,x.2.2.2.filter fun y=> !decide (y=s))
  | none=>ins) else ins
theorem repI_no {ins:List TI} {s:ByteArray} {t:Int} (h:¬(0≤commF ins s∧¬(1≤t∧t≤3))):repI ins s t=ins:=by rw [repI,if_neg h]
theorem repI_at {ins:List TI} {s:ByteArray} {t:Int} {k:Nat} {x:TI} (h:¬(1≤t∧t≤3)) (h1:commF ins s=(k:Int)) (h2:ins[k]? =some x):repI ins s t=ins.set k (x.1,x.2.1,x.2.2.1,x.2.2.2.filter fun y=> !decide (y=s)):=by
  rw [repI,if_pos ⟨by omega,h⟩,h1,qlq,h2]
theorem inS_ne {s:ByteArray} {l:List ByteArray} (h:inS s l=true):l≠[]:=by
  intro e;subst e;simp [inS] at h
theorem toArgs_ptrl {s:St} {ls:List Nat} {id i off j:Nat} {cs cs':List V} (h:idx ls id=some j) (h2:toArgs s ls cs=some cs'):toArgs s ls (.ptr id i off::cs)=some (.ptr j i off::cs'):=by
  have e:toArg s ls (.ptr id i off)=some (.ptr j i off):=by cases i<;>simp [toArg,toCell,h]
  rw [toArgs,e,h2]
end Go.Proofs.YtmhaafinhpopmaaGreatDoor
