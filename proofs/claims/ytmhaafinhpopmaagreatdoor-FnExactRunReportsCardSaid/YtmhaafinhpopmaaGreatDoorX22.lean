/- What functions compute. No condition. -/
import Derived.Test.YtmhaafinhpopmaaGreatDoorX21
import Derived.Test.YtmhaafinhpopmaaGreatDoorX20
set_option linter.unusedSimpArgs false
set_option linter.unusedVariables false
set_option linter.defProp false
namespace Go.Proofs.YtmhaafinhpopmaaGreatDoor
open Go Go.Vm
set_option maxHeartbeats 8000000
theorem markControl_con (fl:List TA) (ins:List TI) (ws:List TW) (kk:Int) (hl:fl.length≤1048576) (hil:ins.length≤1048576) (hin:∀x∈ins,x.2.2.2.length≤1048576) (hwl:ws.length≤1048576) (hwn:∀x∈ws,x.2.length≤1048576) (hk:0≤kk∧kk≤5000000000000):Con Tryz.prog 41 [.agg [.ref 0,.ref 1,.ref 2],.int .i64 kk] [.arr (fl.map (fun t:TA=>V.agg [V.str t.1,V.int .i64 t.2.1,V.int .i64 t.2.2.1,V.int .i64 t.2.2.2.1,V.int .i64 t.2.2.2.2])) .flat,.arr (ins.map (fun t:TI=>V.agg [V.int .i64 t.1,V.int .i64 t.2.1,V.bool t.2.2.1,V.sl (t.2.2.2.map V.str)])) (fillK ins.length),.arr (ws.map (fun t:TW=>V.agg [V.int .i64 t.1,V.sl (t.2.map (V.int .i64))])) (fillK ws.length)] (.int .i64 (((kk+5 * fl.length)+totIncident ins)+totWant ws)) [.arr ((markAppliance kk fl.length).map (fun t:TA=>V.agg [V.str t.1,V.int .i64 t.2.1,V.int .i64 t.2.2.1,V.int .i64 t.2.2.2.1,V.int .i64 t.2.2.2.2])) .flat,.arr ((markIncidents (kk+5 * fl.length) ins).map (fun t:TI=>V.agg [V.int .i64 t.1,V.int .i64 t.2.1,V.bool t.2.2.1,V.sl (t.2.2.2.map V.str)])) (fillK ins.length),.arr ((markWants ((kk+5 * fl.length)+totIncident ins) ws).map (fun t:TW=>V.agg [V.int .i64 t.1,V.sl (t.2.map (V.int .i64))])) (fillK ws.length)]:=by
 have hti:=totIncident_le hin;have htw:=totWant_le hwn;have hpi:=totIncident_pos ins;have hpw:=totWant_pos ws;refine v_con [.tmp 4] [(98,[0]),(99,[0]),(100,[0])] Tryz.func41 rfl rfl rfl (by simp [Tryz.ntmps41]) ?_;intro Q0 n0 r0;simp only [Tryz.ntmps41,envFrom,Nat.reduceAdd];have T:=Tys.mk (ai Ty.t3 (ai Ty.t4 (ai Ty.t9 (ai Ty.t35 (ai Ty.t59 (ai Ty.t63 (ai Ty.t64 (ai Ty.t65 (ai Ty.t67 (ai Ty.t154 (ai Ty.t156 Ty.t158)))))))))));have F:=Fc.mk True.intro;refine yR [1,2] ⟨?_⟩;refine yRl [1,2] (markApplianceS_con fl kk hl (by omega)) ⟨?_⟩;refine yRl [1,2] (markIncidentS_con ins (kk+5 * fl.length) hil hin (by omega)) ⟨?_⟩;refine yRl [1] (markWantS_con ws ((kk+5 * fl.length)+totIncident ins) hwl hwn (by omega)) ⟨?_⟩;refine yR [4] ⟨?_⟩;refine zr ⟨?_⟩;exact ret_lent rfl (by simp) rfl (by simp) (by simp [Blk.kindIs,fillK_fd]) (.inl rfl)
theorem heldControl_con (fl:List TA) (ins:List TI) (ws:List TW) (kk:Int) (hl:fl.length≤1048576) (hil:ins.length≤1048576) (hin:∀x∈ins,x.2.2.2.length≤1048576) (hwl:ws.length≤1048576) (hwn:∀x∈ws,x.2.length≤1048576) (hk:0≤kk∧kk≤5000000000000):Con Tryz.prog 44 [.agg [.sl ((markAppliance kk fl.length).map (fun t:TA=>V.agg [V.str t.1,V.int .i64 t.2.1,V.int .i64 t.2.2.1,V.int .i64 t.2.2.2.1,V.int .i64 t.2.2.2.2])),.sl ((markIncidents (kk+5 * fl.length) ins).map (fun t:TI=>V.agg [V.int .i64 t.1,V.int .i64 t.2.1,V.bool t.2.2.1,V.sl (t.2.2.2.map V.str)])),.sl ((markWants ((kk+5 * fl.length)+totIncident ins) ws).map (fun t:TW=>V.agg [V.int .i64 t.1,V.sl (t.2.map (V.int .i64))]))],.int .i64 kk] [] (.int .i64 (((kk+5 * fl.length)+totIncident ins)+totWant ws)) []:=by
 have hti:=totIncident_le hin;have htw:=totWant_le hwn;have hpi:=totIncident_pos ins;have hpw:=totWant_pos ws;refine v_con [.tmp 4] [] Tryz.func44 rfl rfl rfl (by simp [Tryz.ntmps44]) ?_;intro Q0 n0 r0;simp only [Tryz.ntmps44,envFrom,Nat.reduceAdd];have T:=Tys.mk (ai Ty.t3 (ai Ty.t4 (ai Ty.t9 (ai Ty.t35 (ai Ty.t59 (ai Ty.t63 (ai Ty.t64 (ai Ty.t65 (ai Ty.t67 (ai Ty.t154 (ai Ty.t156 Ty.t158)))))))))));have F:=Fc.mk True.intro;refine yR [1,2] ⟨?_⟩;refine yRc [1,2] (heldApplianceS_con kk fl.length hl (by omega)) ⟨?_⟩;refine v_seq ?_;intros;refine yR [1,2,10] ⟨?_⟩;refine v_cond _ rfl ?_ ?_
 ·intro hc0;exfalso;first | (simp at hc0;done) | (simp at hc0;omega)
 ·intro hc0;try simp only [zC,reduceCtorEq] at hc0
  refine zn [1,2] ⟨?_⟩;refine yRc [1,2] (heldIncidentS_con ins (kk+5 * fl.length) hil hin (by omega)) ⟨?_⟩;refine v_seq ?_;intros;refine yR [1,2,16] ⟨?_⟩;refine v_cond _ rfl ?_ ?_
  ·intro hc1;exfalso;first | (simp at hc1;done) | (simp at hc1;omega)
  ·intro hc1;try simp only [zC,reduceCtorEq] at hc1
   refine zn [1,2] ⟨?_⟩;refine yRc [1] (heldWantS_con ws ((kk+5 * fl.length)+totIncident ins) hwl hwn (by omega)) ⟨?_⟩;refine v_seq ?_;intros;refine yR [1,22] ⟨?_⟩;refine v_cond _ rfl ?_ ?_
   ·intro hc2;exfalso;first | (simp at hc2;done) | (simp at hc2;omega)
   ·intro hc2;try simp only [zC,reduceCtorEq] at hc2
    refine zn [1] ⟨?_⟩;refine yR [4] ⟨?_⟩;refine zr ⟨?_⟩;exact ret_pure rfl rfl (.inl rfl)
def orNil {α:Type} (b:Bool) (l:List α):List α:=bif b then l else []
theorem orNil_t {α:Type} (l:List α):orNil true l=l:=rfl
theorem orNil_f {α:Type} (l:List α):orNil false l=[]:=rfl
theorem firstP_at {α:Type} {p:α→Bool} {l:List α} (h:0≤firstP p 0 l):∃(k:Nat) (x:α),l[k]? =some x∧p x=true∧firstP p 0 l=(k:Int):=by
  obtain ⟨k,_,h2,_,x,h4,h5⟩:=first_some (p:=p) (l:=l) (i:=0) (by omega);exact ⟨k,x,h4,h5,by rw [h2,Nat.zero_add]⟩
theorem findA_at {fl:List TA} {s:ByteArray} (h:0≤findA fl s):∃(k:Nat) (x:TA),fl[k]? =some x∧x.1=s∧findA fl s=(k:Int):=by
  rcases findA_cases fl s with q | ⟨k,x,h1,h2,h3⟩
  · omega
  · exact ⟨k,x,h2,h3,h1⟩
theorem commF_at {ins:List TI} {s:ByteArray} (h:0≤commF ins s):∃(k:Nat) (x:TI),ins[k]? =some x∧inS s x.2.2.2=true∧commF ins s=(k:Int):=firstP_at h
structure CtlFacts (n:Int) (ss:List TS) (fl:List TA) (ins:List TI) (ws:List TW):Prop where
  ds:DsFacts n ss fl
  town:townB n ss=true
  ins8:incsB ins=true
  node:∀x∈ins,0≤x.2.1∧x.2.1 < n
  names:∀x∈ins,∀s∈x.2.2.2,0≤findA fl s
  busy:∀a∈fl,busyA a=decide (0≤commF ins a.1)
  ws8:ws.length≤8
  want:∀w∈ws,0≤openF ins w.1∧realNeed w.2=true
theorem ctl_facts {n:Int} {ss:List TS} {fl:List TA} {ins:List TI} {ws:List TW} (h:ctlB n ss fl ins ws=true):CtlFacts n ss fl ins ws:=by
  simp only [ctlB,ctlH,Bool.and_eq_true,List.all_eq_true,decide_eq_true_eq,Bool.not_eq_true',decide_eq_false_iff_not,List.mem_range] at h;obtain ⟨⟨⟨⟨⟨h1,h2⟩,h3⟩,h4⟩,h5⟩,h6⟩:=h;have hd:=ds_facts h1;refine ⟨hd,?_,h2,fun x hx=> ?_,fun x hx s hs=> ?_,fun a ha=> ?_,by omega,fun w hw=> ?_⟩
  · simp only [dsB,Bool.and_eq_true] at h1;exact h1.1.1
  · have:=h4 x hx
    rw [inP,qlf,has_facts hd.hn,qlf,decide_eq_true_eq,decide_eq_true_eq] at this;exact this.1
  · have:=h4 x hx
    rw [inP,qlf,qls] at this;simpa using this.2 s hs
  · have:=h5 a ha
    rw [fleetP] at this;simpa using this
  · obtain ⟨i,hi,rfl⟩:=List.getElem_of_mem hw
    have:=h6 i hi;rw [wantP,qla hi] at this;simp only [Bool.and_eq_true,decide_eq_true_eq] at this;exact ⟨this.1.1,this.1.2⟩
theorem ctl_town {n:Int} {ss:List TS} {fl:List TA} {ins:List TI} {ws:List TW} (h:ctlB n ss fl ins ws=true):townB n ss=true:=(ctl_facts h).town
def stA (fl:List TA) (s:ByteArray):Int:=match fl[(findA fl s).toNat]? with | some a=>a.2.2.2.2 | none=>0
theorem stA_at {fl:List TA} {s:ByteArray} {k:Nat} {x:TA} (h:findA fl s=(k:Int)) (hx:fl[k]? =some x):stA fl s=x.2.2.2.2:=by
  rw [stA,h,qlq,hx]
theorem take_map_step {α β:Type} {f:α→β} {l:List α} {i:Nat} {x:α} (h:l[i]? =some x):(l.take (i+1)).map f=(l.take i).map f++[f x]:=by
  rw [List.take_add_one,h,Option.toList,ql3];rfl
def arrB (fl:List TA) (s:ByteArray):Bool:=decide (0≤findA fl s) && decide (stA fl s=2)
def arrF (fl:List TA) (ins:List TI) (s:ByteArray):List TA:=match fl[(findA fl s).toNat]?,ins[(commF ins s).toNat]? with
  | some a,some x=>fl.set (findA fl s).toNat (a.1,a.2.1,x.2.1,a.2.2.2.1,3)
  | _,_=>fl
theorem arrF_at {fl:List TA} {ins:List TI} {s:ByteArray} {k m:Nat} {a:TA} {x:TI} (h1:findA fl s=(k:Int)) (h2:fl[k]? =some a) (h3:commF ins s=(m:Int)) (h4:ins[m]? =some x):arrF fl ins s=fl.set k (a.1,a.2.1,x.2.1,a.2.2.2.1,3):=by
  rw [arrF,h1,h3,qlq,qlq,h2,h4]
theorem arr_comm {n:Int} {ss:List TS} {fl:List TA} {ins:List TI} {ws:List TW} (h:CtlFacts n ss fl ins ws) {s:ByteArray} {k:Nat} {a:TA} (h1:fl[k]? =some a) (h2:a.1=s) (h3:a.2.2.2.2=2):0≤commF ins s:=by
  have:=h.busy a (qlb h1);rw [busyA,h3,h2] at this;simpa using this.symm
end Go.Proofs.YtmhaafinhpopmaaGreatDoor
