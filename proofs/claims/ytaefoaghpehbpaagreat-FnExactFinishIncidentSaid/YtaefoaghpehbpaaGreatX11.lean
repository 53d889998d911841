/- What functions compute. No condition. -/
import Derived.Test.YtaefoaghpehbpaaGreatUz
import Derived.Test.YtaefoaghpehbpaaGreatUty
import Derived.Test.YtaefoaghpehbpaaGreatUmG
import Derived.Test.YtaefoaghpehbpaaGreatX10
import Derived.Test.YtaefoaghpehbpaaGreatX9
import Derived.Test.YtaefoaghpehbpaaGreatX7
import Derived.Test.YtaefoaghpehbpaaGreatX5
import Derived.Test.YtaefoaghpehbpaaGreatX3
import Derived.Test.YtaefoaghpehbpaaGreatX6
import Derived.Test.YtaefoaghpehbpaaGreatX4
set_option linter.unusedSimpArgs false
set_option linter.unusedVariables false
set_option linter.defProp false
namespace Go.Proofs.YtaefoaghpehbpaaGreat
open Go Go.Vm
set_option maxHeartbeats 1000000 in
theorem markControl_con (fl:List (ByteArray×Int×Int×Int×Int)) (ins:List (Int×Int×Bool×List ByteArray)) (ws:List (Int×List Int)) (kk:Int) (hl:fl.length≤1048576) (hil:ins.length≤1048576) (hin:∀x∈ins,x.2.2.2.length≤1048576) (hwl:ws.length≤1048576) (hwn:∀x∈ws,x.2.length≤1048576) (hk:0≤kk∧kk≤5000000000000):Con Tryz.prog 17 [.agg [.ref 0,.ref 1,.ref 2],.int .i64 kk] [.arr (fl.map (fun t:ByteArray×Int×Int×Int×Int=>V.agg [V.str t.1,V.int .i64 t.2.1,V.int .i64 t.2.2.1,V.int .i64 t.2.2.2.1,V.int .i64 t.2.2.2.2])) .flat,.arr (ins.map (fun t:Int×Int×Bool×List ByteArray=>V.agg [V.int .i64 t.1,V.int .i64 t.2.1,V.bool t.2.2.1,V.sl (t.2.2.2.map V.str)])) (fillK ins.length),.arr (ws.map (fun t:Int×List Int=>V.agg [V.int .i64 t.1,V.sl (t.2.map (V.int .i64))])) (fillK ws.length)] (.int .i64 (((kk+5 * fl.length)+totIncident ins)+totWant ws)) [.arr ((markAppliance kk fl.length).map (fun t:ByteArray×Int×Int×Int×Int=>V.agg [V.str t.1,V.int .i64 t.2.1,V.int .i64 t.2.2.1,V.int .i64 t.2.2.2.1,V.int .i64 t.2.2.2.2])) .flat,.arr ((markIncidents (kk+5 * fl.length) ins).map (fun t:Int×Int×Bool×List ByteArray=>V.agg [V.int .i64 t.1,V.int .i64 t.2.1,V.bool t.2.2.1,V.sl (t.2.2.2.map V.str)])) (fillK ins.length),.arr ((markWants ((kk+5 * fl.length)+totIncident ins) ws).map (fun t:Int×List Int=>V.agg [V.int .i64 t.1,V.sl (t.2.map (V.int .i64))])) (fillK ws.length)]:=by
 have hti:=totIncident_le hin
 have htw:=totWant_le hwn
 have hpi:=totIncident_pos ins
 have hpw:=totWant_pos ws
 refine v_con [.tmp 4] [(76,[0]),(77,[0]),(78,[0])] Tryz.func17 rfl rfl rfl (by simp [Tryz.ntmps17]) ?_
 intro Q0 n0 r0
 simp only [Tryz.ntmps17,envFrom,Nat.reduceAdd]
 have T:=Tys.mk (And.intro Ty.t3 (And.intro Ty.t4 (And.intro Ty.t9 (And.intro Ty.t32 (And.intro Ty.t33 (And.intro Ty.t34 (And.intro Ty.t36 (And.intro Ty.t51 (And.intro Ty.t75 (And.intro Ty.t96 (And.intro Ty.t99 Ty.t102)))))))))))
 have F:=Fc.mk True.intro
 refine yR [1,2] ⟨?_⟩;refine yRl [1,2] (markApplianceS_con fl kk hl (by omega)) ⟨?_⟩;refine yRl [1,2] (markIncidentS_con ins (kk+5 * fl.length) hil hin (by omega)) ⟨?_⟩;refine yRl [1] (markWantS_con ws ((kk+5 * fl.length)+totIncident ins) hwl hwn (by omega)) ⟨?_⟩;refine yR [4] ⟨?_⟩;refine zr ⟨?_⟩
 exact ret_lent rfl (by simp) rfl (by simp) (by simp [Blk.kindIs,fillK_fd]) (.inl rfl)
set_option maxHeartbeats 1000000 in
theorem heldControl_con (fl:List (ByteArray×Int×Int×Int×Int)) (ins:List (Int×Int×Bool×List ByteArray)) (ws:List (Int×List Int)) (kk:Int) (hl:fl.length≤1048576) (hil:ins.length≤1048576) (hin:∀x∈ins,x.2.2.2.length≤1048576) (hwl:ws.length≤1048576) (hwn:∀x∈ws,x.2.length≤1048576) (hk:0≤kk∧kk≤5000000000000):Con Tryz.prog 18 [.agg [.sl ((markAppliance kk fl.length).map (fun t:ByteArray×Int×Int×Int×Int=>V.agg [V.str t.1,V.int .i64 t.2.1,V.int .i64 t.2.2.1,V.int .i64 t.2.2.2.1,V.int .i64 t.2.2.2.2])),.sl ((markIncidents (kk+5 * fl.length) ins).map (fun t:Int×Int×Bool×List ByteArray=>V.agg [V.int .i64 t.1,V.int .i64 t.2.1,V.bool t.2.2.1,V.sl (t.2.2.2.map V.str)])),.sl ((markWants ((kk+5 * fl.length)+totIncident ins) ws).map (fun t:Int×List Int=>V.agg [V.int .i64 t.1,V.sl (t.2.map (V.int .i64))]))],.int .i64 kk] [] (.int .i64 (((kk+5 * fl.length)+totIncident ins)+totWant ws)) []:=by
 have hti:=totIncident_le hin
 have htw:=totWant_le hwn
 have hpi:=totIncident_pos ins
 have hpw:=totWant_pos ws
 refine v_con [.tmp 4] [] Tryz.func18 rfl rfl rfl (by simp [Tryz.ntmps18]) ?_
 intro Q0 n0 r0
 simp only [Tryz.ntmps18,envFrom,Nat.reduceAdd]
 have T:=Tys.mk (And.intro Ty.t3 (And.intro Ty.t4 (And.intro Ty.t9 (And.intro Ty.t32 (And.intro Ty.t33 (And.intro Ty.t34 (And.intro Ty.t36 (And.intro Ty.t51 (And.intro Ty.t75 (And.intro Ty.t96 (And.intro Ty.t99 Ty.t102)))))))))))
 have F:=Fc.mk True.intro
 refine yR [1,2] ⟨?_⟩;refine yRc [1,2] (heldApplianceS_con kk fl.length hl (by omega)) ⟨?_⟩;refine v_seq ?_;intros;refine yR [1,2,10] ⟨?_⟩;refine v_cond _ rfl ?_ ?_
 ·intro hc0
  exfalso;first | (simp at hc0;done) | (simp at hc0;omega)
 ·intro hc0
  try simp only [zC,reduceCtorEq] at hc0
  refine zn [1,2] ⟨?_⟩;refine yRc [1,2] (heldIncidentS_con ins (kk+5 * fl.length) hil hin (by omega)) ⟨?_⟩;refine v_seq ?_;intros;refine yR [1,2,16] ⟨?_⟩;refine v_cond _ rfl ?_ ?_
  ·intro hc1
   exfalso;first | (simp at hc1;done) | (simp at hc1;omega)
  ·intro hc1
   try simp only [zC,reduceCtorEq] at hc1
   refine zn [1,2] ⟨?_⟩;refine yRc [1] (heldWantS_con ws ((kk+5 * fl.length)+totIncident ins) hwl hwn (by omega)) ⟨?_⟩;refine v_seq ?_;intros;refine yR [1,22] ⟨?_⟩;refine v_cond _ rfl ?_ ?_
   ·intro hc2
    exfalso;first | (simp at hc2;done) | (simp at hc2;omega)
   ·intro hc2
    try simp only [zC,reduceCtorEq] at hc2
    refine zn [1] ⟨?_⟩;refine yR [4] ⟨?_⟩;refine zr ⟨?_⟩
    exact ret_pure rfl rfl (.inl rfl)
set_option maxHeartbeats 1000000 in
theorem markControlT_con (fl:List (ByteArray×Int×Int×Int×Int)) (ins:List (Int×Int×Bool×List ByteArray)) (ws:List (Int×List Int)) (kk:Int) (hl:fl.length≤1048576) (hil:ins.length≤1048576) (hin:∀x∈ins,x.2.2.2.length≤1048576) (hwl:ws.length≤1048576) (hwn:∀x∈ws,x.2.length≤1048576) (hk:0≤kk∧kk≤5000000000000):Con Tryz.prog 17 [.agg [.ref 0,.ref 1,.ref 2],.int .i64 kk] [.arr (fl.map (fun t:ByteArray×Int×Int×Int×Int=>V.agg [V.str t.1,V.int .i64 t.2.1,V.int .i64 t.2.2.1,V.int .i64 t.2.2.2.1,V.int .i64 t.2.2.2.2])) .flat,.arr (ins.map (fun t:Int×Int×Bool×List ByteArray=>V.agg [V.int .i64 t.1,V.int .i64 t.2.1,V.bool t.2.2.1,V.sl (t.2.2.2.map V.str)])) (fillK ins.length),.arr (ws.map (fun t:Int×List Int=>V.agg [V.int .i64 t.1,V.sl (t.2.map (V.int .i64))])) (thK ws.length)] (.int .i64 (((kk+5 * fl.length)+totIncident ins)+totWant ws)) [.arr ((markAppliance kk fl.length).map (fun t:ByteArray×Int×Int×Int×Int=>V.agg [V.str t.1,V.int .i64 t.2.1,V.int .i64 t.2.2.1,V.int .i64 t.2.2.2.1,V.int .i64 t.2.2.2.2])) .flat,.arr ((markIncidents (kk+5 * fl.length) ins).map (fun t:Int×Int×Bool×List ByteArray=>V.agg [V.int .i64 t.1,V.int .i64 t.2.1,V.bool t.2.2.1,V.sl (t.2.2.2.map V.str)])) (fillK ins.length),.arr ((markWants ((kk+5 * fl.length)+totIncident ins) ws).map (fun t:Int×List Int=>V.agg [V.int .i64 t.1,V.sl (t.2.map (V.int .i64))])) (thK ws.length)]:=by
 have hti:=totIncident_le hin
 have htw:=totWant_le hwn
 have hpi:=totIncident_pos ins
 have hpw:=totWant_pos ws
 refine v_con [.tmp 4] [(76,[0]),(77,[0]),(78,[0])] Tryz.func17 rfl rfl rfl (by simp [Tryz.ntmps17]) ?_
 intro Q0 n0 r0
 simp only [Tryz.ntmps17,envFrom,Nat.reduceAdd]
 have T:=Tys.mk (And.intro Ty.t3 (And.intro Ty.t4 (And.intro Ty.t9 (And.intro Ty.t32 (And.intro Ty.t33 (And.intro Ty.t34 (And.intro Ty.t36 (And.intro Ty.t51 (And.intro Ty.t75 (And.intro Ty.t96 (And.intro Ty.t99 Ty.t102)))))))))))
 have F:=Fc.mk True.intro
 refine yR [1,2] ⟨?_⟩;refine yRl [1,2] (markApplianceS_con fl kk hl (by omega)) ⟨?_⟩;refine yRl [1,2] (markIncidentS_con ins (kk+5 * fl.length) hil hin (by omega)) ⟨?_⟩;refine yRl [1] (markWantST_con ws ((kk+5 * fl.length)+totIncident ins) hwl hwn (by omega)) ⟨?_⟩;refine yR [4] ⟨?_⟩;refine zr ⟨?_⟩
 exact ret_lent rfl (by simp) rfl (by simp) (by simp [Blk.kindIs,fillK_fd,thK_fd]) (.inl rfl)
def orNil {α:Type} (b:Bool) (l:List α):List α:=bif b then l else []
theorem orNil_t {α:Type} (l:List α):orNil true l=l:=rfl
theorem orNil_f {α:Type} (l:List α):orNil false l=[]:=rfl
theorem orNil_len {α:Type} {b:Bool} {l:List α} {n:Nat} (h:l.length≤n):(orNil b l).length≤n:=by
  cases b
  · exact Nat.zero_le _
  · exact h
theorem orNil_all {α:Type} {b:Bool} {l:List α} {P:α→Prop} (h:∀x∈l,P x):∀x∈orNil b l,P x:=by
  cases b
  · intro x hx;cases hx
  · exact h
theorem firstP_at {α:Type} {p:α→Bool} {l:List α} (h:0≤firstP p 0 l):∃(k:Nat) (x:α),l[k]? =some x∧p x=true∧firstP p 0 l=(k:Int):=by
  obtain ⟨k,_,h2,_,x,h4,h5⟩:=first_some (p:=p) (l:=l) (i:=0) (by omega)
  exact ⟨k,x,h4,h5,by rw [h2,Nat.zero_add]⟩
theorem findA_at {fl:List (ByteArray×Int×Int×Int×Int)} {s:ByteArray} (h:0≤findA fl s):∃(k:Nat) (x:(ByteArray×Int×Int×Int×Int)),fl[k]? =some x∧x.1=s∧findA fl s=(k:Int):=by
  rcases findA_cases fl s with q | ⟨k,x,h1,h2,h3⟩
  · omega
  · exact ⟨k,x,h2,h3,h1⟩
theorem openF_at {ins:List (Int×Int×Bool×List ByteArray)} {n:Int} (h:0≤openF ins n):∃(k:Nat) (x:(Int×Int×Bool×List ByteArray)),ins[k]? =some x∧(x.1=n∧x.2.2.1=false)∧openF ins n=(k:Int):=by
  obtain ⟨k,x,h1,h2,h3⟩:=firstP_at h
  simp only [Bool.and_eq_true,decide_eq_true_eq,Bool.not_eq_true'] at h2
  exact ⟨k,x,h1,h2,h3⟩
theorem commF_at {ins:List (Int×Int×Bool×List ByteArray)} {s:ByteArray} (h:0≤commF ins s):∃(k:Nat) (x:(Int×Int×Bool×List ByteArray)),ins[k]? =some x∧inS s x.2.2.2=true∧commF ins s=(k:Int):=firstP_at h
structure CtlFacts (n:Int) (ss:List (Int×Int×Int)) (fl:List (ByteArray×Int×Int×Int×Int)) (ins:List (Int×Int×Bool×List ByteArray)) (ws:List (Int×List Int)):Prop where
  ds:DsFacts n ss fl
  town:townB n ss=true
  ins8:incsB ins=true
  node:∀x∈ins,0≤x.2.1∧x.2.1 < n
  names:∀x∈ins,∀s∈x.2.2.2,0≤findA fl s
  busy:∀a∈fl,busyA a=decide (0≤commF ins a.1)
  ws8:ws.length≤8
  want:∀w∈ws,0≤openF ins w.1∧realNeed w.2=true
theorem ctl_facts {n:Int} {ss:List (Int×Int×Int)} {fl:List (ByteArray×Int×Int×Int×Int)} {ins:List (Int×Int×Bool×List ByteArray)} {ws:List (Int×List Int)} (h:ctlB n ss fl ins ws=true):CtlFacts n ss fl ins ws:=by
  simp only [ctlB,ctlH,Bool.and_eq_true,List.all_eq_true,decide_eq_true_eq,Bool.not_eq_true',decide_eq_false_iff_not,List.mem_range] at h
  obtain ⟨⟨⟨⟨⟨h1,h2⟩,h3⟩,h4⟩,h5⟩,h6⟩:=h
  have hd:=ds_facts h1
  refine ⟨hd,?_,h2,fun x hx=> ?_,fun x hx s hs=> ?_,fun a ha=> ?_,by omega,fun w hw=> ?_⟩
  · simp only [dsB,Bool.and_eq_true] at h1;exact h1.1.1
  · have:=h4 x hx
    rw [inP,Bool.and_eq_true,has_facts hd.hn,Bool.and_eq_true,decide_eq_true_eq,decide_eq_true_eq] at this
    exact this.1
  · have:=h4 x hx
    rw [inP,Bool.and_eq_true,List.all_eq_true] at this
    simpa using this.2 s hs
  · have:=h5 a ha
    rw [fleetP] at this
    simpa using this
  · obtain ⟨i,hi,rfl⟩:=List.getElem_of_mem hw
    have:=h6 i hi
    rw [wantP,List.getElem?_eq_getElem hi] at this
    simp only [Bool.and_eq_true,decide_eq_true_eq] at this
    exact ⟨this.1.1,this.1.2⟩
theorem ctl_town {n:Int} {ss:List (Int×Int×Int)} {fl:List (ByteArray×Int×Int×Int×Int)} {ins:List (Int×Int×Bool×List ByteArray)} {ws:List (Int×List Int)} (h:ctlB n ss fl ins ws=true):townB n ss=true:=(ctl_facts h).town
theorem want_need {n:Int} {ss:List (Int×Int×Int)} {fl:List (ByteArray×Int×Int×Int×Int)} {ins:List (Int×Int×Bool×List ByteArray)} {ws:List (Int×List Int)} (h:CtlFacts n ss fl ins ws):∀w∈ws,w.2.length=4∧∀x∈w.2,0≤x∧x≤6:=by
  intro w hw
  have:=(h.want w hw).2
  rw [realNeed,Bool.and_eq_true] at this
  exact need4_facts this.1
theorem new_ctl (n:Int) (ss:List (Int×Int×Int)) (fl:List (ByteArray×Int×Int×Int×Int)):ctlB n ss fl [] []=(dsB n ss fl && !fl.any busyA):=by
  have h1:ctlH n ss fl [] []=dsB n ss fl:=by simp [ctlH,incsB]
  have h2:(fl.all (fleetP []))= !fl.any busyA:=by
    rw [List.not_any_eq_all_not]
    congr 1
    funext a
    simp [fleetP,commF,firstP]
  rw [ctlB,h1,h2]
  simp
def freeTo (fl:List (ByteArray×Int×Int×Int×Int)) (i:Nat):List ByteArray:=((fl.take i).filter availB).map fun a=>a.1
theorem free_yes {fl:List (ByteArray×Int×Int×Int×Int)} {i:Nat} {x:(ByteArray×Int×Int×Int×Int)} (h:fl[i]? =some x) (hp:availB x=true):freeTo fl (i+1)=freeTo fl i++[x.1]:=by
  rw [freeTo,List.take_add_one,h,Option.toList,List.filter_append];simp [hp,freeTo]
theorem free_no {fl:List (ByteArray×Int×Int×Int×Int)} {i:Nat} {x:(ByteArray×Int×Int×Int×Int)} (h:fl[i]? =some x) (hp:availB x=false):freeTo fl (i+1)=freeTo fl i:=by
  rw [freeTo,List.take_add_one,h,Option.toList,List.filter_append];simp [hp,freeTo]
theorem free_len (fl:List (ByteArray×Int×Int×Int×Int)) (i:Nat):(freeTo fl i).length≤i:=by
  rw [freeTo,List.length_map]
  exact Nat.le_trans (List.length_filter_le ..) (by rw [List.length_take];omega)
theorem free_len2 (fl:List (ByteArray×Int×Int×Int×Int)) (i:Nat):(freeTo fl i).length≤fl.length:=by
  rw [freeTo,List.length_map]
  exact Nat.le_trans (List.length_filter_le ..) (by rw [List.length_take];omega)
theorem freeTo_zero (fl:List (ByteArray×Int×Int×Int×Int)):freeTo fl 0=[]:=rfl
def stA (fl:List (ByteArray×Int×Int×Int×Int)) (s:ByteArray):Int:=match fl[(findA fl s).toNat]? with | some a=>a.2.2.2.2 | none=>0
theorem stA_at {fl:List (ByteArray×Int×Int×Int×Int)} {s:ByteArray} {k:Nat} {x:(ByteArray×Int×Int×Int×Int)} (h:findA fl s=(k:Int)) (hx:fl[k]? =some x):stA fl s=x.2.2.2.2:=by
  rw [stA,h,Int.toNat_natCast,hx]
def namesAt (ins:List (Int×Int×Bool×List ByteArray)) (n:Int):List ByteArray:=match ins[(openF ins n).toNat]? with | some x=>x.2.2.2 | none=>[]
theorem namesAt_at {ins:List (Int×Int×Bool×List ByteArray)} {n:Int} {k:Nat} {x:(Int×Int×Bool×List ByteArray)} (h:openF ins n=(k:Int)) (hx:ins[k]? =some x):namesAt ins n=x.2.2.2:=by
  rw [namesAt,h,Int.toNat_natCast,hx]
def atB (n:Int) (ss:List (Int×Int×Int)) (fl:List (ByteArray×Int×Int×Int×Int)) (ins:List (Int×Int×Bool×List ByteArray)) (ws:List (Int×List Int)) (m:Int):Bool:=ctlB n ss fl ins ws && decide (0≤openF ins m)
def statesL (fl:List (ByteArray×Int×Int×Int×Int)) (ins:List (Int×Int×Bool×List ByteArray)) (m:Int):List Int:=(namesAt ins m).map (stA fl)
theorem take_map_step {α β:Type} {f:α→β} {l:List α} {i:Nat} {x:α} (h:l[i]? =some x):(l.take (i+1)).map f=(l.take i).map f++[f x]:=by
  rw [List.take_add_one,h,Option.toList,List.map_append];rfl
def addL:List Int→List Int→List Int
  | a::xs,b::ys=>(a+b)::addL xs ys
  | xs,[]=>xs
  | [],_=>[]
theorem addL_nil:∀l:List Int,addL l []=l
  | []=>rfl
  | _::_=>rfl
theorem addL_len:∀a b:List Int,(addL a b).length=a.length
  | [],[]=>rfl
  | [],_::_=>rfl
  | _::_,[]=>rfl
  | a::xs,b::ys=>by rw [addL,List.length_cons,List.length_cons,addL_len xs ys]
theorem addL_step:∀{acc l:List Int} {k:Nat} {a b:Int},acc[k]? =some a→l[k]? =some b→(addL acc (l.take k))[k]? =some a∧(addL acc (l.take k)).set k (a+b)=addL acc (l.take (k+1))
  | [],_,_,_,_,h,_=>by simp at h
  | _::_,[],_,_,_,_,h=>by simp at h
  | x::acc,y::l,0,a,b,h,k=>by
    simp at h k
    subst h k
    refine ⟨by simp [addL],?_⟩
    simp [addL,addL_nil]
  | x::acc,y::l,k+1,a,b,h,q=>by
    obtain ⟨h1,h2⟩:=addL_step (acc:=acc) (l:=l) (k:=k) (a:=a) (b:=b) (by simpa using h) (by simpa using q)
    refine ⟨by simpa [addL] using h1,?_⟩
    rw [List.take_succ_cons,addL,List.set_cons_succ,h2,List.take_succ_cons,addL]
theorem addL_bound:∀{acc l:List Int} {A B:Int},0≤B→(∀x∈acc,0≤x∧x≤A)→(∀x∈l,0≤x∧x≤B)→∀x∈addL acc l,0≤x∧x≤A+B
  | [],[],_,_,_,_,_,x,hx=>by cases hx
  | [],_::_,_,_,_,_,_,x,hx=>by cases hx
  | a::acc,[],A,B,hB,h1,_,x,hx=>by
    have:=h1 x hx;omega
  | a ::acc,b::l,A,B,hB,h1,h2,x,hx=>by
    rcases List.mem_cons.1 hx with e | e
    · have q1:=h1 a (List.mem_cons_self ..)
      have q2:=h2 b (List.mem_cons_self ..)
      subst e;omega
    · exact addL_bound hB (fun y hy=>h1 y (List.mem_cons_of_mem _ hy)) (fun y hy=>h2 y (List.mem_cons_of_mem _ hy)) x e
def sumTo (ws:List (Int×List Int)) (i:Nat):List Int:=(ws.take i).foldl (fun acc w=>addL acc w.2) [0,0,0,0]
theorem sumTo_step {ws:List (Int×List Int)} {i:Nat} {w:(Int×List Int)} (h:ws[i]? =some w):sumTo ws (i+1)=addL (sumTo ws i) w.2:=by
  rw [sumTo,List.take_add_one,h,Option.toList,List.foldl_append];rfl
theorem sumTo_len (ws:List (Int×List Int)):∀i,(sumTo ws i).length=4
  | 0=>rfl
  | i+1=>by
    cases h:ws[i]? with
    | none=>rw [sumTo,List.take_add_one,h];simp only [Option.toList,List.append_nil];exact sumTo_len ws i
    | some w=>rw [sumTo_step h,addL_len,sumTo_len ws i]
theorem sumTo_bound {ws:List (Int×List Int)} (hw:∀w∈ws,w.2.length=4∧∀x∈w.2,0≤x∧x≤6):∀i,∀x∈sumTo ws i,0≤x∧x≤6 * (i:Int)
  | 0,x,hx=>by
    have:sumTo ws 0=[0,0,0,0]:=rfl
    rw [this] at hx
    simp at hx
    omega
  | i + 1,x,hx=>by
    cases h:ws[i]? with
    | none=>
      have e:sumTo ws (i+1)=sumTo ws i:=by rw [sumTo,List.take_add_one,h];simp only [Option.toList,List.append_nil];rfl
      rw [e] at hx
      have:=sumTo_bound hw i x hx
      omega
    | some w=>
      rw [sumTo_step h] at hx
      have:=addL_bound (by omega) (sumTo_bound hw i) (hw w (List.mem_of_getElem? h)).2 x hx
      omega
def arrB (fl:List (ByteArray×Int×Int×Int×Int)) (s:ByteArray):Bool:=decide (0≤findA fl s) && decide (stA fl s=2)
def arrF (fl:List (ByteArray×Int×Int×Int×Int)) (ins:List (Int×Int×Bool×List ByteArray)) (s:ByteArray):List (ByteArray×Int×Int×Int×Int):=match fl[(findA fl s).toNat]?,ins[(commF ins s).toNat]? with
  | some a,some x=>fl.set (findA fl s).toNat (a.1,a.2.1,x.2.1,a.2.2.2.1,3)
  | _,_=>fl
theorem arrF_at {fl:List (ByteArray×Int×Int×Int×Int)} {ins:List (Int×Int×Bool×List ByteArray)} {s:ByteArray} {k m:Nat} {a:(ByteArray×Int×Int×Int×Int)} {x:(Int×Int×Bool×List ByteArray)} (h1:findA fl s=(k:Int)) (h2:fl[k]? =some a) (h3:commF ins s=(m:Int)) (h4:ins[m]? =some x):arrF fl ins s=fl.set k (a.1,a.2.1,x.2.1,a.2.2.2.1,3):=by
  rw [arrF,h1,h3,Int.toNat_natCast,Int.toNat_natCast,h2,h4]
theorem arrF_len (fl:List (ByteArray×Int×Int×Int×Int)) (ins:List (Int×Int×Bool×List ByteArray)) (s:ByteArray):(arrF fl ins s).length=fl.length:=by
  rw [arrF]
  split
  · rw [List.length_set]
  · rfl
theorem arr_comm {n:Int} {ss:List (Int×Int×Int)} {fl:List (ByteArray×Int×Int×Int×Int)} {ins:List (Int×Int×Bool×List ByteArray)} {ws:List (Int×List Int)} (h:CtlFacts n ss fl ins ws) {s:ByteArray} {k:Nat} {a:(ByteArray×Int×Int×Int×Int)} (h1:fl[k]? =some a) (h2:a.1=s) (h3:a.2.2.2.2=2):0≤commF ins s:=by
  have:=h.busy a (List.mem_of_getElem? h1)
  rw [busyA,h3,h2] at this
  simpa using this.symm
set_option maxHeartbeats 1000000 in
theorem cloneStr_con (l:List ByteArray) (hl:l.length≤1048576):Con Tryz.prog 201 [.sl (l.map V.str)] [] (.ref 0) [.arr (l.map V.str) .flat]:=by
 have hns:(l.map V.str).all V.noSl=true:=by rw [List.all_map,List.all_eq_true];intro a _;rfl
 refine v_con [.tmp 2] [] Tryz.func201 rfl rfl rfl (by simp [Tryz.ntmps201]) ?_
 intro Q0 n0 r0
 simp only [Tryz.ntmps201,envFrom,Nat.reduceAdd]
 have T:=Tys.mk (And.intro Ty.t9 Ty.t51)
 have F:=Fc.mk True.intro
 have F:=Fc.mk hns
 refine yR [0] ⟨?_⟩;refine v_seq ?_;intros;refine v_seqR [0,4] ?_;intro K3 k3;refine zMove ⟨?_⟩;refine zNil ⟨?_⟩
 intro nb4 hnb4
 refine k3 _ ?_;refine zk ⟨?_⟩;refine v_condS _ rfl ?_ ?_
 ·intro hc0
  have hnil:l=[]:=by cases l with | nil=>rfl | cons a b=>have:=hnb4 (by simp);rw [hc0] at this;cases this
  refine yR [2] ⟨?_⟩;refine zr ⟨?_⟩
  rw [hnil];exact ret_refK rfl rfl rfl
 ·intro hc0
  refine zn [0] ⟨?_⟩;refine yR [2] ⟨?_⟩;refine zr ⟨?_⟩
  exact ret_refK rfl rfl (by simp)
set_option maxHeartbeats 1000000 in
theorem copyIncidents_con (l:List (Int×Int×Bool×List ByteArray)) (hl:l.length≤1048576) (hls:∀t∈l,t.2.2.2.length≤1048576):Con Tryz.prog 140 [.sl (l.map (fun t:Int×Int×Bool×List ByteArray=>V.agg [V.int .i64 t.1,V.int .i64 t.2.1,V.bool t.2.2.1,V.sl (t.2.2.2.map V.str)]))] [] (.ref 0) [.arr (l.map (fun t:Int×Int×Bool×List ByteArray=>V.agg [V.int .i64 t.1,V.int .i64 t.2.1,V.bool t.2.2.1,V.sl (t.2.2.2.map V.str)])) (fillK l.length)]:=by
 refine v_con [.tmp 2] [] Tryz.func140 rfl rfl rfl (by simp [Tryz.ntmps140]) ?_
 intro Q0 n0 r0
 simp only [Tryz.ntmps140,envFrom,Nat.reduceAdd]
 have T:=Tys.mk (And.intro Ty.t3 (And.intro Ty.t4 (And.intro Ty.t9 (And.intro Ty.t33 (And.intro Ty.t51 Ty.t99)))))
 have F:=Fc.mk True.intro
 refine yR [0] ⟨?_⟩;refine yR [0,3] ⟨?_⟩;refine v_seq ?_;intros;refine yR [3,6,7,8] ⟨?_⟩;refine v_block ?_;intros;refine v_loop (fun i=>⟨[(3,.ref 0),(6,.sl (l.map (fun t:Int×Int×Bool×List ByteArray=>V.agg [V.int .i64 t.1,V.int .i64 t.2.1,V.bool t.2.2.1,V.sl (t.2.2.2.map V.str)]))),(7,.int .i64 l.length),(8,.int .i64 (Nat.cast i))],[.arr ((l.take i).map (fun t:Int×Int×Bool×List ByteArray=>V.agg [V.int .i64 t.1,V.int .i64 t.2.1,V.bool t.2.2.1,V.sl (t.2.2.2.map V.str)])) (fillK i)],false,22,0⟩) (fun i=>i≤l.length) (fun i=>l.length - i) 0 ?_ ?_ ?_
 ·refine weak_bothS [3,6,7,8] [1] ⟨?_⟩
  rfl
 ·exact Nat.zero_le _
 ·rintro i hok6 Q6 n6 e6 r6
  have hi1:i≤l.length:=hok6
  refine yR [3,6,7,8,9] ⟨?_⟩;refine v_seq ?_;intros;refine v_condS _ rfl ?_ ?_
  ·intro hc0
   have hlt:i < l.length:=by omega
   obtain ⟨⟨x0,x1,x2,x3⟩,hx⟩:∃x:Int×Int×Bool×List ByteArray,l[i]? =some x:=⟨l[i]'(by omega),List.getElem?_eq_getElem (by omega)⟩
   have hlx:=hls _ (List.mem_of_getElem? hx)
   simp only [] at hlx
   have hsn:(l.take i).map (fun t:Int×Int×Bool×List ByteArray=>V.agg [V.int .i64 t.1,V.int .i64 t.2.1,V.bool t.2.2.1,V.sl (t.2.2.2.map V.str)])++[V.agg [V.int .i64 x0,V.int .i64 x1,V.bool x2,V.sl (x3.map V.str)]]=(l.take (i+1)).map (fun t:Int×Int×Bool×List ByteArray=>V.agg [V.int .i64 t.1,V.int .i64 t.2.1,V.bool t.2.2.1,V.sl (t.2.2.2.map V.str)]):=(take_map_step (f:=(fun t:Int×Int×Bool×List ByteArray=>V.agg [V.int .i64 t.1,V.int .i64 t.2.1,V.bool t.2.2.1,V.sl (t.2.2.2.map V.str)])) hx).symm
   have hti:(l.take i).length=i:=by rw [List.length_take];omega
   refine zn [3,6,7,8] ⟨?_⟩;refine v_seq ?_;intros;refine v_block ?_;intros
   have F:=Fc.mk (And.intro (fun f=>getD_map (f:=f) hx) hti)
   refine yR [3,5,6,7,8] ⟨?_⟩;refine yRc [3,5,6,7,8] (cloneStr_con x3 hlx) ⟨?_⟩;refine yQ [3,6,7,8] ⟨?_⟩;refine yV ⟨?_⟩;refine n6 _ (i+1) ?_ ?_ ?_
   ·refine weak_bothS [3,6,7,8] [5] ⟨?_⟩
    rw [←hsn];rfl
   ·exact hlt
   ·show _ < _;omega
  ·intro hc0
   have hend:i=l.length:=by omega
   subst hend
   refine zn [3] ⟨?_⟩;refine yR [2] ⟨?_⟩;refine zr ⟨?_⟩
   rw [List.take_length]
   exact ret_refK rfl (by unfold fillK;split<;>rfl) rfl
set_option maxHeartbeats 1000000 in
theorem ixOwn_con (l:List (Int×Int×Bool×List ByteArray)) (hl:l.length≤1048576) (hls:∀t∈l,t.2.2.2.length≤1048576):Con Tryz.prog 124 [.sl (l.map (fun t:Int×Int×Bool×List ByteArray=>V.agg [V.int .i64 t.1,V.int .i64 t.2.1,V.bool t.2.2.1,V.sl (t.2.2.2.map V.str)]))] [] (.ref 0) [.arr (l.map (fun t:Int×Int×Bool×List ByteArray=>V.agg [V.int .i64 t.1,V.int .i64 t.2.1,V.bool t.2.2.1,V.sl (t.2.2.2.map V.str)])) (fillK l.length)]:=by
 refine v_con [.tmp 2] [] Tryz.func124 rfl rfl rfl (by simp [Tryz.ntmps124]) ?_
 intro Q0 n0 r0
 simp only [Tryz.ntmps124,envFrom,Nat.reduceAdd]
 have T:=Tys.mk (And.intro Ty.t3 (And.intro Ty.t4 (And.intro Ty.t9 (And.intro Ty.t33 (And.intro Ty.t51 Ty.t99)))))
 have F:=Fc.mk True.intro
 refine yR [0] ⟨?_⟩;refine yR [0,3] ⟨?_⟩;refine v_seq ?_;intros;refine yR [3,6,7,8] ⟨?_⟩;refine v_block ?_;intros;refine v_loop (fun i=>⟨[(3,.ref 0),(6,.sl (l.map (fun t:Int×Int×Bool×List ByteArray=>V.agg [V.int .i64 t.1,V.int .i64 t.2.1,V.bool t.2.2.1,V.sl (t.2.2.2.map V.str)]))),(7,.int .i64 l.length),(8,.int .i64 (Nat.cast i))],[.arr ((l.take i).map (fun t:Int×Int×Bool×List ByteArray=>V.agg [V.int .i64 t.1,V.int .i64 t.2.1,V.bool t.2.2.1,V.sl (t.2.2.2.map V.str)])) (fillK i)],false,23,0⟩) (fun i=>i≤l.length) (fun i=>l.length - i) 0 ?_ ?_ ?_
 ·refine weak_bothS [3,6,7,8] [1] ⟨?_⟩
  rfl
 ·exact Nat.zero_le _
 ·rintro i hok6 Q6 n6 e6 r6
  have hi1:i≤l.length:=hok6
  refine yR [3,6,7,8,9] ⟨?_⟩;refine v_seq ?_;intros;refine v_condS _ rfl ?_ ?_
  ·intro hc0
   have hlt:i < l.length:=by omega
   obtain ⟨⟨x0,x1,x2,x3⟩,hx⟩:∃x:Int×Int×Bool×List ByteArray,l[i]? =some x:=⟨l[i]'(by omega),List.getElem?_eq_getElem (by omega)⟩
   have hlx:=hls _ (List.mem_of_getElem? hx)
   simp only [] at hlx
   have hsn:(l.take i).map (fun t:Int×Int×Bool×List ByteArray=>V.agg [V.int .i64 t.1,V.int .i64 t.2.1,V.bool t.2.2.1,V.sl (t.2.2.2.map V.str)])++[V.agg [V.int .i64 x0,V.int .i64 x1,V.bool x2,V.sl (x3.map V.str)]]=(l.take (i+1)).map (fun t:Int×Int×Bool×List ByteArray=>V.agg [V.int .i64 t.1,V.int .i64 t.2.1,V.bool t.2.2.1,V.sl (t.2.2.2.map V.str)]):=(take_map_step (f:=(fun t:Int×Int×Bool×List ByteArray=>V.agg [V.int .i64 t.1,V.int .i64 t.2.1,V.bool t.2.2.1,V.sl (t.2.2.2.map V.str)])) hx).symm
   have hti:(l.take i).length=i:=by rw [List.length_take];omega
   have hns:(x3.map V.str).all V.noSl=true:=by rw [List.all_map,List.all_eq_true];intro a _;rfl
   refine zn [3,6,7,8] ⟨?_⟩;refine v_seq ?_;intros;refine v_block ?_;intros
   have F:=Fc.mk (And.intro (fun f=>getD_map (f:=f) hx) (And.intro hti hns))
   refine yR [3,5,6,7,8] ⟨?_⟩;refine yR [3,5,6,7,8] ⟨?_⟩;refine yQ [3,6,7,8] ⟨?_⟩;refine yV ⟨?_⟩;refine n6 _ (i+1) ?_ ?_ ?_
   ·refine weak_bothS [3,6,7,8] [6] ⟨?_⟩
    rw [←hsn];rfl
   ·exact hlt
   ·show _ < _;omega
  ·intro hc0
   have hend:i=l.length:=by omega
   subst hend
   refine zn [3] ⟨?_⟩;refine yR [2] ⟨?_⟩;refine zr ⟨?_⟩
   rw [List.take_length]
   exact ret_refK rfl (by unfold fillK;split<;>rfl) rfl
set_option maxHeartbeats 1000000 in
theorem roWants_con (l:List (Int×List Int)) (hl:l.length≤1048576) (hls:∀t∈l,t.2.length≤1048576):Con Tryz.prog 59 [.sl (l.map (fun t:Int×List Int=>V.agg [V.int .i64 t.1,V.sl (t.2.map (V.int .i64))]))] [] (.ref 0) [.arr (l.map (fun t:Int×List Int=>V.agg [V.int .i64 t.1,V.sl (t.2.map (V.int .i64))])) (fillK l.length)]:=by
 refine v_con [.tmp 2] [] Tryz.func59 rfl rfl rfl (by simp [Tryz.ntmps59]) ?_
 intro Q0 n0 r0
 simp only [Tryz.ntmps59,envFrom,Nat.reduceAdd]
 have T:=Tys.mk (And.intro Ty.t3 (And.intro Ty.t34 (And.intro Ty.t75 Ty.t102)))
 have F:=Fc.mk True.intro
 refine yR [0] ⟨?_⟩;refine yR [0,3] ⟨?_⟩;refine v_seq ?_;intros;refine yR [3,6,7,8] ⟨?_⟩;refine v_block ?_;intros;refine v_loop (fun i=>⟨[(3,.ref 0),(6,.sl (l.map (fun t:Int×List Int=>V.agg [V.int .i64 t.1,V.sl (t.2.map (V.int .i64))]))),(7,.int .i64 l.length),(8,.int .i64 (Nat.cast i))],[.arr ((l.take i).map (fun t:Int×List Int=>V.agg [V.int .i64 t.1,V.sl (t.2.map (V.int .i64))])) (fillK i)],false,23,0⟩) (fun i=>i≤l.length) (fun i=>l.length - i) 0 ?_ ?_ ?_
 ·refine weak_bothS [3,6,7,8] [1] ⟨?_⟩
  rfl
 ·exact Nat.zero_le _
 ·rintro i hok6 Q6 n6 e6 r6
  have hi1:i≤l.length:=hok6
  refine yR [3,6,7,8,9] ⟨?_⟩;refine v_seq ?_;intros;refine v_condS _ rfl ?_ ?_
  ·intro hc0
   have hlt:i < l.length:=by omega
   obtain ⟨⟨x0,x1⟩,hx⟩:∃x:Int×List Int,l[i]? =some x:=⟨l[i]'(by omega),List.getElem?_eq_getElem (by omega)⟩
   have hlx:=hls _ (List.mem_of_getElem? hx)
   simp only [] at hlx
   have hsn:(l.take i).map (fun t:Int×List Int=>V.agg [V.int .i64 t.1,V.sl (t.2.map (V.int .i64))])++[V.agg [V.int .i64 x0,V.sl (x1.map (V.int .i64))]]=(l.take (i+1)).map (fun t:Int×List Int=>V.agg [V.int .i64 t.1,V.sl (t.2.map (V.int .i64))]):=(take_map_step (f:=(fun t:Int×List Int=>V.agg [V.int .i64 t.1,V.sl (t.2.map (V.int .i64))])) hx).symm
   have hti:(l.take i).length=i:=by rw [List.length_take];omega
   refine zn [3,6,7,8] ⟨?_⟩;refine v_seq ?_;intro Q10 n10 e10 r10;refine v_block ?_;intro Q11 n11 x11 e11 r11
   have F:=Fc.mk (And.intro (fun f=>getD_map (f:=f) hx) hti)
   refine yR [3,5,6,7,8] ⟨?_⟩;refine v_draw (by kernel_rfl) ?_;intro K13 q13 k13
   show aAny _ _ _ _ 10 (Array.replicate 10 false) _
   refine zdMove q13 true 0 12 ?_;refine zdFieldAddr q13 true 1 13 ?_;refine zdLoad q13 true 2 14 ?_;refine zdFieldAddr q13 true 3 15 ?_;refine zdLoad q13 true 4 16 ?_;refine zoc 5 (l1Own_con x1 hlx) ⟨?_⟩;refine zdBuild q13 true 6 18 ?_;refine zoBuildSlice 7 ⟨?_⟩;refine zoAppend 8 ⟨?_⟩;refine zoAssign 9 ⟨?_⟩;refine aAny_done (by kernel_rfl) ?_;refine k13 _ ?_;refine n11 _ ?_;refine n10 _ _ (weak_keep [3,6,7,8] _) ?_;refine zk ⟨?_⟩;refine yV ⟨?_⟩;refine n6 _ (i+1) ?_ ?_ ?_
   ·refine weak_bothS [3,6,7,8] [5] ⟨?_⟩
    rw [←hsn];rfl
   ·exact hlt
   ·show _ < _;omega
  ·intro hc0
   have hend:i=l.length:=by omega
   subst hend
   refine zn [3] ⟨?_⟩;refine yR [2] ⟨?_⟩;refine zr ⟨?_⟩
   rw [List.take_length]
   exact ret_refK rfl (by unfold fillK;split<;>rfl) rfl
set_option maxRecDepth 8000 in
set_option maxHeartbeats 1000000 in
theorem copyControl_con (fl:List (ByteArray×Int×Int×Int×Int)) (ins:List (Int×Int×Bool×List ByteArray)) (ws:List (Int×List Int)) (hl:fl.length≤1048576) (hil:ins.length≤1048576) (hin:∀x∈ins,x.2.2.2.length≤1048576) (hwl:ws.length≤1048576) (hwn:∀x∈ws,x.2.length≤1048576):Con Tryz.prog 67 [.pv [.agg [.sl (fl.map (fun t:ByteArray×Int×Int×Int×Int=>V.agg [V.str t.1,V.int .i64 t.2.1,V.int .i64 t.2.2.1,V.int .i64 t.2.2.2.1,V.int .i64 t.2.2.2.2])),.sl (ins.map (fun t:Int×Int×Bool×List ByteArray=>V.agg [V.int .i64 t.1,V.int .i64 t.2.1,V.bool t.2.2.1,V.sl (t.2.2.2.map V.str)])),.sl (ws.map (fun t:Int×List Int=>V.agg [V.int .i64 t.1,V.sl (t.2.map (V.int .i64))]))]] 0 0] [] (.agg [.ref 0,.ref 1,.ref 2]) [.arr (fl.map (fun t:ByteArray×Int×Int×Int×Int=>V.agg [V.str t.1,V.int .i64 t.2.1,V.int .i64 t.2.2.1,V.int .i64 t.2.2.2.1,V.int .i64 t.2.2.2.2])) .flat,.arr (ins.map (fun t:Int×Int×Bool×List ByteArray=>V.agg [V.int .i64 t.1,V.int .i64 t.2.1,V.bool t.2.2.1,V.sl (t.2.2.2.map V.str)])) (fillK ins.length),.arr (ws.map (fun t:Int×List Int=>V.agg [V.int .i64 t.1,V.sl (t.2.map (V.int .i64))])) (fillK ws.length)]:=by
 refine v_con [.cell 2 36] [] Tryz.func67 rfl rfl rfl (by simp [Tryz.ntmps67]) ?_
 intro Q0 n0 r0
 simp only [Tryz.ntmps67,envFrom,Nat.reduceAdd]
 have T:=Tys.mk (And.intro Ty.t3 (And.intro Ty.t4 (And.intro Ty.t9 (And.intro Ty.t32 (And.intro Ty.t33 (And.intro Ty.t34 (And.intro Ty.t36 (And.intro Ty.t51 (And.intro Ty.t75 (And.intro Ty.t96 (And.intro Ty.t99 Ty.t102)))))))))))
 have F:=Fc.mk True.intro
 refine yR [0,2] ⟨?_⟩;refine v_seq ?_;intro Q2 n2 e2 r2;refine v_draw (by kernel_rfl) ?_;intro K3 q3 k3
 show aAny _ _ _ _ 13 (Array.replicate 13 false) _
 refine zdMove q3 true 0 6 ?_;refine zdNilCheck q3 true 1 7 ?_;refine zdFieldAddr q3 true 2 8 ?_;refine zdLoadX q3 true 3 9 ?_;refine zdMove q3 true 5 11 ?_;refine zdNilCheck q3 true 6 12 ?_;refine zdFieldAddr q3 true 7 13 ?_;refine zdLoadX q3 true 8 14 ?_;refine aAny_two 4 11 rfl rfl (by kernel_rfl) ?_ ?_
 ·refine zsc (cloneAppliance_con fl hl) ⟨?_⟩
  refine aAny_two 9 11 rfl rfl (by kernel_rfl) ?_ ?_
  ·refine zsc (copyIncidents_con ins hil hin) ⟨?_⟩
   refine zdBuild q3 true 10 16 ?_;refine zoAlloc 11 ⟨?_⟩;refine zoStore 12 ⟨?_⟩;refine aAny_done (by kernel_rfl) ?_;refine k3 _ ?_;refine n2 _ _ (weak_keep [0,2,3] _) ?_;refine zk ⟨?_⟩;refine v_seq ?_;intros;refine yR [2,3,20,21,22] ⟨?_⟩;refine v_block ?_;intros;refine v_loop (fun i=>⟨[(2,.ptr 3 0 0),(3,.ptr 7 0 0),(20,.sl (ws.map (fun t:Int×List Int=>V.agg [V.int .i64 t.1,V.sl (t.2.map (V.int .i64))]))),(21,.int .i64 ws.length),(22,.int .i64 (Nat.cast i))],[.arr [] .flat,.arr [] .flat,.arr [] .flat,.box (.agg [.ref 0,.ref 1,.ref 2]) .mix,.arr (fl.map (fun t:ByteArray×Int×Int×Int×Int=>V.agg [V.str t.1,V.int .i64 t.2.1,V.int .i64 t.2.2.1,V.int .i64 t.2.2.2.1,V.int .i64 t.2.2.2.2])) .flat,.arr (ins.map (fun t:Int×Int×Bool×List ByteArray=>V.agg [V.int .i64 t.1,V.int .i64 t.2.1,V.bool t.2.2.1,V.sl (t.2.2.2.map V.str)])) (fillK ins.length),.arr ((ws.take i).map (fun t:Int×List Int=>V.agg [V.int .i64 t.1,V.sl (t.2.map (V.int .i64))])) (fillK i),.box (.agg [.ref 4,.ref 5,.ref 6]) .mix],false,39,0⟩) (fun i=>i≤ws.length) (fun i=>ws.length - i) 0 ?_ ?_ ?_
   ·refine weak_bothN [2,3,20,21,22] [0,1,2,3,4,5,10,9] ⟨?_⟩
    rfl
   ·exact Nat.zero_le _
   ·rintro i hok7 Q7 n7 e7 r7
    have hi1:i≤ws.length:=hok7
    refine yR [2,3,20,21,22,23] ⟨?_⟩;refine v_seq ?_;intros;refine v_condS _ rfl ?_ ?_
    ·intro hc0
     have hlt:i < ws.length:=by omega
     obtain ⟨⟨x0,x1⟩,hx⟩:∃x:Int×List Int,ws[i]? =some x:=⟨ws[i]'(by omega),List.getElem?_eq_getElem (by omega)⟩
     have hlx:=hwn _ (List.mem_of_getElem? hx)
     simp only [] at hlx
     have hsn:(ws.take i).map (fun t:Int×List Int=>V.agg [V.int .i64 t.1,V.sl (t.2.map (V.int .i64))])++[V.agg [V.int .i64 x0,V.sl (x1.map (V.int .i64))]]=(ws.take (i+1)).map (fun t:Int×List Int=>V.agg [V.int .i64 t.1,V.sl (t.2.map (V.int .i64))]):=(take_map_step (f:=(fun t:Int×List Int=>V.agg [V.int .i64 t.1,V.sl (t.2.map (V.int .i64))])) hx).symm
     have hti:(ws.take i).length=i:=by rw [List.length_take];omega
     refine zn [2,3,20,21,22] ⟨?_⟩;refine v_seq ?_;intro Q11 n11 e11 r11;refine v_block ?_;intro Q12 n12 x12 e12 r12
     have F:=Fc.mk (And.intro (fun f=>getD_map (f:=f) hx) hti)
     refine yR [2,3,5,20,21,22] ⟨?_⟩;refine v_draw (by kernel_rfl) ?_;intro K14 q14 k14
     show aAny _ _ _ _ 12 (Array.replicate 12 false) _
     refine zdFieldAddr q14 true 0 26 ?_;refine zdLoadX q14 true 1 27 ?_;refine zdFieldAddr q14 true 2 28 ?_;refine zdLoadX q14 true 3 29 ?_;refine zdFieldAddr q14 true 4 30 ?_;refine zdLoadX q14 true 5 31 ?_;refine zoc 6 (cloneInt_con x1 hlx) ⟨?_⟩;refine zdBuild q14 true 7 33 ?_;refine zoBuildSlice 8 ⟨?_⟩;refine zoAppend 9 ⟨?_⟩;refine zdFieldAddr q14 true 10 36 ?_;refine zoStore 11 ⟨?_⟩;refine aAny_done (by kernel_rfl) ?_;refine k14 _ ?_;refine n12 _ ?_;refine n11 _ _ (weak_keep [2,3,20,21,22] _) ?_;refine zk ⟨?_⟩;refine yV ⟨?_⟩;refine n7 _ (i+1) ?_ ?_ ?_
     ·refine weak_bothN [2,3,20,21,22] [0,1,2,3,4,5,12,7] ⟨?_⟩
      rw [←hsn];rfl
     ·exact hlt
     ·show _ < _;omega
    ·intro hc0
     have hend:i=ws.length:=by omega
     subst hend
     refine zn [2,3] ⟨?_⟩;refine yR [2] ⟨?_⟩;refine zr ⟨?_⟩
     simp only [zE,zL,zO,zN,aStepM,optable,set_some,Nat.reduceEqDiff,reduceIte,Nat.reduceLT,implies_true,forall_const,reduceCtorEq,V.ofValue,V.ofScalar,V.un,V.gd,aLoad,row_mk,Blk.row,PartOK,Go.Vm.part,V.cells,V.noSl,V.noRef,Nat.reduceAdd,Nat.reduceLeDiff,Nat.reduceMul,Tryz.underlying32,Ty.c32,Ty.a32,Tryz.underlying33,Ty.c33,Ty.a33,Tryz.underlying34,Ty.c34,Ty.a34,Tryz.underlying36,Ty.c36,Ty.a36]
     rw [List.take_length]
     exact ret_all rfl (by first | decide | simp [newIds,refsOf,refs2,refs1]) (by simp) rfl (by simp [newIds,refsOf,refs2,refs1]) (by simp [Blk.kindIs,fillK_fd]) rfl
  ·refine zsAlloc ⟨?_⟩
   refine zoc 9 (copyIncidents_con ins hil hin) ⟨?_⟩;refine zdBuild q3 true 10 16 ?_;refine zoStore 12 ⟨?_⟩;refine aAny_done (by kernel_rfl) ?_;refine k3 _ ?_;refine n2 _ _ (weak_keep [0,2,3] _) ?_;refine zk ⟨?_⟩;refine v_seq ?_;intros;refine yR [2,3,20,21,22] ⟨?_⟩;refine v_block ?_;intros;refine v_loop (fun i=>⟨[(2,.ptr 3 0 0),(3,.ptr 7 0 0),(20,.sl (ws.map (fun t:Int×List Int=>V.agg [V.int .i64 t.1,V.sl (t.2.map (V.int .i64))]))),(21,.int .i64 ws.length),(22,.int .i64 (Nat.cast i))],[.arr [] .flat,.arr [] .flat,.arr [] .flat,.box (.agg [.ref 0,.ref 1,.ref 2]) .mix,.arr (fl.map (fun t:ByteArray×Int×Int×Int×Int=>V.agg [V.str t.1,V.int .i64 t.2.1,V.int .i64 t.2.2.1,V.int .i64 t.2.2.2.1,V.int .i64 t.2.2.2.2])) .flat,.arr (ins.map (fun t:Int×Int×Bool×List ByteArray=>V.agg [V.int .i64 t.1,V.int .i64 t.2.1,V.bool t.2.2.1,V.sl (t.2.2.2.map V.str)])) (fillK ins.length),.arr ((ws.take i).map (fun t:Int×List Int=>V.agg [V.int .i64 t.1,V.sl (t.2.map (V.int .i64))])) (fillK i),.box (.agg [.ref 4,.ref 5,.ref 6]) .mix],false,39,0⟩) (fun i=>i≤ws.length) (fun i=>ws.length - i) 0 ?_ ?_ ?_
   ·refine weak_bothN [2,3,20,21,22] [0,1,2,3,4,9,10,8] ⟨?_⟩
    rfl
   ·exact Nat.zero_le _
   ·rintro i hok20 Q20 n20 e20 r20
    have hi1:i≤ws.length:=hok20
    refine yR [2,3,20,21,22,23] ⟨?_⟩;refine v_seq ?_;intros;refine v_condS _ rfl ?_ ?_
    ·intro hc0
     have hlt:i < ws.length:=by omega
     obtain ⟨⟨x0,x1⟩,hx⟩:∃x:Int×List Int,ws[i]? =some x:=⟨ws[i]'(by omega),List.getElem?_eq_getElem (by omega)⟩
     have hlx:=hwn _ (List.mem_of_getElem? hx)
     simp only [] at hlx
     have hsn:(ws.take i).map (fun t:Int×List Int=>V.agg [V.int .i64 t.1,V.sl (t.2.map (V.int .i64))])++[V.agg [V.int .i64 x0,V.sl (x1.map (V.int .i64))]]=(ws.take (i+1)).map (fun t:Int×List Int=>V.agg [V.int .i64 t.1,V.sl (t.2.map (V.int .i64))]):=(take_map_step (f:=(fun t:Int×List Int=>V.agg [V.int .i64 t.1,V.sl (t.2.map (V.int .i64))])) hx).symm
     have hti:(ws.take i).length=i:=by rw [List.length_take];omega
     refine zn [2,3,20,21,22] ⟨?_⟩;refine v_seq ?_;intro Q24 n24 e24 r24;refine v_block ?_;intro Q25 n25 x25 e25 r25
     have F:=Fc.mk (And.intro (fun f=>getD_map (f:=f) hx) hti)
     refine yR [2,3,5,20,21,22] ⟨?_⟩;refine v_draw (by kernel_rfl) ?_;intro K27 q27 k27
     show aAny _ _ _ _ 12 (Array.replicate 12 false) _
     refine zdFieldAddr q27 true 0 26 ?_;refine zdLoadX q27 true 1 27 ?_;refine zdFieldAddr q27 true 2 28 ?_;refine zdLoadX q27 true 3 29 ?_;refine zdFieldAddr q27 true 4 30 ?_;refine zdLoadX q27 true 5 31 ?_;refine zoc 6 (cloneInt_con x1 hlx) ⟨?_⟩;refine zdBuild q27 true 7 33 ?_;refine zoBuildSlice 8 ⟨?_⟩;refine zoAppend 9 ⟨?_⟩;refine zdFieldAddr q27 true 10 36 ?_;refine zoStore 11 ⟨?_⟩;refine aAny_done (by kernel_rfl) ?_;refine k27 _ ?_;refine n25 _ ?_;refine n24 _ _ (weak_keep [2,3,20,21,22] _) ?_;refine zk ⟨?_⟩;refine yV ⟨?_⟩;refine n20 _ (i+1) ?_ ?_ ?_
     ·refine weak_bothN [2,3,20,21,22] [0,1,2,3,4,5,12,7] ⟨?_⟩
      rw [←hsn];rfl
     ·exact hlt
     ·show _ < _;omega
    ·intro hc0
     have hend:i=ws.length:=by omega
     subst hend
     refine zn [2,3] ⟨?_⟩;refine yR [2] ⟨?_⟩;refine zr ⟨?_⟩
     simp only [zE,zL,zO,zN,aStepM,optable,set_some,Nat.reduceEqDiff,reduceIte,Nat.reduceLT,implies_true,forall_const,reduceCtorEq,V.ofValue,V.ofScalar,V.un,V.gd,aLoad,row_mk,Blk.row,PartOK,Go.Vm.part,V.cells,V.noSl,V.noRef,Nat.reduceAdd,Nat.reduceLeDiff,Nat.reduceMul,Tryz.underlying32,Ty.c32,Ty.a32,Tryz.underlying33,Ty.c33,Ty.a33,Tryz.underlying34,Ty.c34,Ty.a34,Tryz.underlying36,Ty.c36,Ty.a36]
     rw [List.take_length]
     exact ret_all rfl (by first | decide | simp [newIds,refsOf,refs2,refs1]) (by simp) rfl (by simp [newIds,refsOf,refs2,refs1]) (by simp [Blk.kindIs,fillK_fd]) rfl
 ·refine zsAlloc ⟨?_⟩
  refine zoc 4 (cloneAppliance_con fl hl) ⟨?_⟩;refine zoc 9 (copyIncidents_con ins hil hin) ⟨?_⟩;refine zdBuild q3 true 10 16 ?_;refine zoStore 12 ⟨?_⟩;refine aAny_done (by kernel_rfl) ?_;refine k3 _ ?_;refine n2 _ _ (weak_keep [0,2,3] _) ?_;refine zk ⟨?_⟩;refine v_seq ?_;intros;refine yR [2,3,20,21,22] ⟨?_⟩;refine v_block ?_;intros;refine v_loop (fun i=>⟨[(2,.ptr 3 0 0),(3,.ptr 7 0 0),(20,.sl (ws.map (fun t:Int×List Int=>V.agg [V.int .i64 t.1,V.sl (t.2.map (V.int .i64))]))),(21,.int .i64 ws.length),(22,.int .i64 (Nat.cast i))],[.arr [] .flat,.arr [] .flat,.arr [] .flat,.box (.agg [.ref 0,.ref 1,.ref 2]) .mix,.arr (fl.map (fun t:ByteArray×Int×Int×Int×Int=>V.agg [V.str t.1,V.int .i64 t.2.1,V.int .i64 t.2.2.1,V.int .i64 t.2.2.2.1,V.int .i64 t.2.2.2.2])) .flat,.arr (ins.map (fun t:Int×Int×Bool×List ByteArray=>V.agg [V.int .i64 t.1,V.int .i64 t.2.1,V.bool t.2.2.1,V.sl (t.2.2.2.map V.str)])) (fillK ins.length),.arr ((ws.take i).map (fun t:Int×List Int=>V.agg [V.int .i64 t.1,V.sl (t.2.map (V.int .i64))])) (fillK i),.box (.agg [.ref 4,.ref 5,.ref 6]) .mix],false,39,0⟩) (fun i=>i≤ws.length) (fun i=>ws.length - i) 0 ?_ ?_ ?_
  ·refine weak_bothN [2,3,20,21,22] [0,1,2,3,8,9,10,7] ⟨?_⟩
   rfl
  ·exact Nat.zero_le _
  ·rintro i hok33 Q33 n33 e33 r33
   have hi1:i≤ws.length:=hok33
   refine yR [2,3,20,21,22,23] ⟨?_⟩;refine v_seq ?_;intros;refine v_condS _ rfl ?_ ?_
   ·intro hc0
    have hlt:i < ws.length:=by omega
    obtain ⟨⟨x0,x1⟩,hx⟩:∃x:Int×List Int,ws[i]? =some x:=⟨ws[i]'(by omega),List.getElem?_eq_getElem (by omega)⟩
    have hlx:=hwn _ (List.mem_of_getElem? hx)
    simp only [] at hlx
    have hsn:(ws.take i).map (fun t:Int×List Int=>V.agg [V.int .i64 t.1,V.sl (t.2.map (V.int .i64))])++[V.agg [V.int .i64 x0,V.sl (x1.map (V.int .i64))]]=(ws.take (i+1)).map (fun t:Int×List Int=>V.agg [V.int .i64 t.1,V.sl (t.2.map (V.int .i64))]):=(take_map_step (f:=(fun t:Int×List Int=>V.agg [V.int .i64 t.1,V.sl (t.2.map (V.int .i64))])) hx).symm
    have hti:(ws.take i).length=i:=by rw [List.length_take];omega
    refine zn [2,3,20,21,22] ⟨?_⟩;refine v_seq ?_;intro Q37 n37 e37 r37;refine v_block ?_;intro Q38 n38 x38 e38 r38
    have F:=Fc.mk (And.intro (fun f=>getD_map (f:=f) hx) hti)
    refine yR [2,3,5,20,21,22] ⟨?_⟩;refine v_draw (by kernel_rfl) ?_;intro K40 q40 k40
    show aAny _ _ _ _ 12 (Array.replicate 12 false) _
    refine zdFieldAddr q40 true 0 26 ?_;refine zdLoadX q40 true 1 27 ?_;refine zdFieldAddr q40 true 2 28 ?_;refine zdLoadX q40 true 3 29 ?_;refine zdFieldAddr q40 true 4 30 ?_;refine zdLoadX q40 true 5 31 ?_;refine zoc 6 (cloneInt_con x1 hlx) ⟨?_⟩;refine zdBuild q40 true 7 33 ?_;refine zoBuildSlice 8 ⟨?_⟩;refine zoAppend 9 ⟨?_⟩;refine zdFieldAddr q40 true 10 36 ?_;refine zoStore 11 ⟨?_⟩;refine aAny_done (by kernel_rfl) ?_;refine k40 _ ?_;refine n38 _ ?_;refine n37 _ _ (weak_keep [2,3,20,21,22] _) ?_;refine zk ⟨?_⟩;refine yV ⟨?_⟩;refine n33 _ (i+1) ?_ ?_ ?_
    ·refine weak_bothN [2,3,20,21,22] [0,1,2,3,4,5,12,7] ⟨?_⟩
     rw [←hsn];rfl
    ·exact hlt
    ·show _ < _;omega
   ·intro hc0
    have hend:i=ws.length:=by omega
    subst hend
    refine zn [2,3] ⟨?_⟩;refine yR [2] ⟨?_⟩;refine zr ⟨?_⟩
    simp only [zE,zL,zO,zN,aStepM,optable,set_some,Nat.reduceEqDiff,reduceIte,Nat.reduceLT,implies_true,forall_const,reduceCtorEq,V.ofValue,V.ofScalar,V.un,V.gd,aLoad,row_mk,Blk.row,PartOK,Go.Vm.part,V.cells,V.noSl,V.noRef,Nat.reduceAdd,Nat.reduceLeDiff,Nat.reduceMul,Tryz.underlying32,Ty.c32,Ty.a32,Tryz.underlying33,Ty.c33,Ty.a33,Tryz.underlying34,Ty.c34,Ty.a34,Tryz.underlying36,Ty.c36,Ty.a36]
    rw [List.take_length]
    exact ret_all rfl (by first | decide | simp [newIds,refsOf,refs2,refs1]) (by simp) rfl (by simp [newIds,refsOf,refs2,refs1]) (by simp [Blk.kindIs,fillK_fd]) rfl
set_option maxHeartbeats 1000000 in
theorem roOwn_con (fl:List (ByteArray×Int×Int×Int×Int)) (ins:List (Int×Int×Bool×List ByteArray)) (ws:List (Int×List Int)) (hl:fl.length≤1048576) (hil:ins.length≤1048576) (hin:∀x∈ins,x.2.2.2.length≤1048576) (hwl:ws.length≤1048576) (hwn:∀x∈ws,x.2.length≤1048576):Con Tryz.prog 56 [.agg [.sl (fl.map (fun t:ByteArray×Int×Int×Int×Int=>V.agg [V.str t.1,V.int .i64 t.2.1,V.int .i64 t.2.2.1,V.int .i64 t.2.2.2.1,V.int .i64 t.2.2.2.2])),.sl (ins.map (fun t:Int×Int×Bool×List ByteArray=>V.agg [V.int .i64 t.1,V.int .i64 t.2.1,V.bool t.2.2.1,V.sl (t.2.2.2.map V.str)])),.sl (ws.map (fun t:Int×List Int=>V.agg [V.int .i64 t.1,V.sl (t.2.map (V.int .i64))]))]] [] (.agg [.ref 0,.ref 1,.ref 2]) [.arr (fl.map (fun t:ByteArray×Int×Int×Int×Int=>V.agg [V.str t.1,V.int .i64 t.2.1,V.int .i64 t.2.2.1,V.int .i64 t.2.2.2.1,V.int .i64 t.2.2.2.2])) .flat,.arr (ins.map (fun t:Int×Int×Bool×List ByteArray=>V.agg [V.int .i64 t.1,V.int .i64 t.2.1,V.bool t.2.2.1,V.sl (t.2.2.2.map V.str)])) (fillK ins.length),.arr (ws.map (fun t:Int×List Int=>V.agg [V.int .i64 t.1,V.sl (t.2.map (V.int .i64))])) (fillK ws.length)]:=by
 have hns:(fl.map (fun t:ByteArray×Int×Int×Int×Int=>V.agg [V.str t.1,V.int .i64 t.2.1,V.int .i64 t.2.2.1,V.int .i64 t.2.2.2.1,V.int .i64 t.2.2.2.2])).all V.noSl=true:=by rw [List.all_map,List.all_eq_true];intro a _;rfl
 refine v_con [.cell 2 36] [] Tryz.func56 rfl rfl rfl (by simp [Tryz.ntmps56]) ?_
 intro Q0 n0 r0
 simp only [Tryz.ntmps56,envFrom,Nat.reduceAdd]
 have T:=Tys.mk (And.intro Ty.t3 (And.intro Ty.t4 (And.intro Ty.t9 (And.intro Ty.t32 (And.intro Ty.t33 (And.intro Ty.t34 (And.intro Ty.t36 (And.intro Ty.t51 (And.intro Ty.t75 (And.intro Ty.t96 (And.intro Ty.t99 Ty.t102)))))))))))
 have F:=Fc.mk True.intro
 have F:=Fc.mk hns
 refine yR [1,2] ⟨?_⟩;refine v_seq ?_;intro Q2 n2 e2 r2;refine v_draw (by kernel_rfl) ?_;intro K3 q3 k3
 show aAny _ _ _ _ 12 (Array.replicate 12 false) _
 refine zdFieldAddr q3 true 1 4 ?_;refine zdLoadX q3 true 2 5 ?_;refine zdFieldAddr q3 false 4 7 ?_;refine zdFieldAddr q3 false 7 10 ?_;refine aAny_three 0 5 8 rfl rfl rfl (by kernel_rfl) ?_ ?_ ?_
 ·refine zsBuildSlice ⟨?_⟩
  refine aAny_three 3 5 8 rfl rfl rfl (by kernel_rfl) ?_ ?_ ?_
  ·refine zsAppend ⟨?_⟩
   refine zdLoadX q3 true 5 8 ?_;refine zdLoadX q3 true 8 11 ?_;refine zoc 6 (ixOwn_con ins hil hin) ⟨?_⟩;refine zoc 9 (roWants_con ws hwl hwn) ⟨?_⟩;refine zdBuild q3 true 10 13 ?_;refine zoStore 11 ⟨?_⟩;refine aAny_done (by kernel_rfl) ?_;refine k3 _ ?_;refine n2 _ _ (weak_keep [2] _) ?_;refine zq3 ⟨?_⟩
   simp only [zE,zL,zO,zN,aStepM,optable,set_some,Nat.reduceEqDiff,reduceIte,Nat.reduceLT,implies_true,forall_const,reduceCtorEq,V.ofValue,V.ofScalar,V.un,V.gd,aLoad,row_mk,Blk.row,PartOK,Go.Vm.part,V.cells,V.noSl,V.noRef,Nat.reduceAdd,Nat.reduceLeDiff,Nat.reduceMul,Tryz.underlying32,Ty.c32,Ty.a32,Tryz.underlying33,Ty.c33,Ty.a33,Tryz.underlying34,Ty.c34,Ty.a34,Tryz.underlying36,Ty.c36,Ty.a36]
   exact ret_all rfl (by first | decide | simp [newIds,refsOf,refs2,refs1]) (by simp) rfl (by simp [newIds,refsOf,refs2,refs1]) (by simp [Blk.kindIs,fillK_fd]) rfl
  ·intro K k
   skip
   simp only [zE,zL,zO,zN,aStepM,optable,set_some,Nat.reduceEqDiff,reduceIte,Nat.reduceLT,implies_true,forall_const,reduceCtorEq,V.ofValue,V.ofScalar,V.un,V.gd,aExec,aop,aLoad,row_mk,Blk.row,PartOK,Go.Vm.part,V.cells,V.noSl,V.noRef,Nat.reduceAdd,Nat.reduceLeDiff,Nat.reduceMul,Tryz.underlying33,Ty.c33,Ty.a33,Tryz.underlying99,Ty.c99,Ty.a99,hns]
   repeat (refine And.intro (by first | omega | (intros;omega) | (intros;simp_all;done) | (intros;simp_all;omega)) ?_)
   refine k _ ?_;clear k K;refine aAny_two 3 8 rfl rfl (by kernel_rfl) ?_ ?_
   ·refine zsAppend ⟨?_⟩
    refine zdLoadX q3 true 8 11 ?_;refine zoc 6 (ixOwn_con ins hil hin) ⟨?_⟩;refine zoc 9 (roWants_con ws hwl hwn) ⟨?_⟩;refine zdBuild q3 true 10 13 ?_;refine zoStore 11 ⟨?_⟩;refine aAny_done (by kernel_rfl) ?_;refine k3 _ ?_;refine n2 _ _ (weak_keep [2] _) ?_;refine zq3 ⟨?_⟩
    simp only [zE,zL,zO,zN,aStepM,optable,set_some,Nat.reduceEqDiff,reduceIte,Nat.reduceLT,implies_true,forall_const,reduceCtorEq,V.ofValue,V.ofScalar,V.un,V.gd,aLoad,row_mk,Blk.row,PartOK,Go.Vm.part,V.cells,V.noSl,V.noRef,Nat.reduceAdd,Nat.reduceLeDiff,Nat.reduceMul,Tryz.underlying32,Ty.c32,Ty.a32,Tryz.underlying33,Ty.c33,Ty.a33,Tryz.underlying34,Ty.c34,Ty.a34,Tryz.underlying36,Ty.c36,Ty.a36]
    exact ret_all rfl (by first | decide | simp [newIds,refsOf,refs2,refs1]) (by simp) rfl (by simp [newIds,refsOf,refs2,refs1]) (by simp [Blk.kindIs,fillK_fd]) rfl
   ·intro K k
    skip
    simp only [zE,zL,zO,zN,aStepM,optable,set_some,Nat.reduceEqDiff,reduceIte,Nat.reduceLT,implies_true,forall_const,reduceCtorEq,V.ofValue,V.ofScalar,V.un,V.gd,aExec,aop,aLoad,row_mk,Blk.row,PartOK,Go.Vm.part,V.cells,V.noSl,V.noRef,Nat.reduceAdd,Nat.reduceLeDiff,Nat.reduceMul,Tryz.underlying34,Ty.c34,Ty.a34,Tryz.underlying102,Ty.c102,Ty.a102,hns]
    repeat (refine And.intro (by first | omega | (intros;omega) | (intros;simp_all;done) | (intros;simp_all;omega)) ?_)
    refine k _ ?_;clear k K;refine zoAppend 3 ⟨?_⟩;refine zoc 6 (ixOwn_con ins hil hin) ⟨?_⟩;refine zoc 9 (roWants_con ws hwl hwn) ⟨?_⟩;refine zdBuild q3 true 10 13 ?_;refine zoStore 11 ⟨?_⟩;refine aAny_done (by kernel_rfl) ?_;refine k3 _ ?_;refine n2 _ _ (weak_keep [2] _) ?_;refine zq3 ⟨?_⟩
    simp only [zE,zL,zO,zN,aStepM,optable,set_some,Nat.reduceEqDiff,reduceIte,Nat.reduceLT,implies_true,forall_const,reduceCtorEq,V.ofValue,V.ofScalar,V.un,V.gd,aLoad,row_mk,Blk.row,PartOK,Go.Vm.part,V.cells,V.noSl,V.noRef,Nat.reduceAdd,Nat.reduceLeDiff,Nat.reduceMul,Tryz.underlying32,Ty.c32,Ty.a32,Tryz.underlying33,Ty.c33,Ty.a33,Tryz.underlying34,Ty.c34,Ty.a34,Tryz.underlying36,Ty.c36,Ty.a36]
    exact ret_all rfl (by first | decide | simp [newIds,refsOf,refs2,refs1]) (by simp) rfl (by simp [newIds,refsOf,refs2,refs1]) (by simp [Blk.kindIs,fillK_fd]) rfl
  ·intro K k
   skip
   simp only [zE,zL,zO,zN,aStepM,optable,set_some,Nat.reduceEqDiff,reduceIte,Nat.reduceLT,implies_true,forall_const,reduceCtorEq,V.ofValue,V.ofScalar,V.un,V.gd,aExec,aop,aLoad,row_mk,Blk.row,PartOK,Go.Vm.part,V.cells,V.noSl,V.noRef,Nat.reduceAdd,Nat.reduceLeDiff,Nat.reduceMul,Tryz.underlying34,Ty.c34,Ty.a34,Tryz.underlying102,Ty.c102,Ty.a102,hns]
   repeat (refine And.intro (by first | omega | (intros;omega) | (intros;simp_all;done) | (intros;simp_all;omega)) ?_)
   refine k _ ?_;clear k K;refine aAny_two 3 5 rfl rfl (by kernel_rfl) ?_ ?_
   ·refine zsAppend ⟨?_⟩
    refine zdLoadX q3 true 5 8 ?_;refine zoc 6 (ixOwn_con ins hil hin) ⟨?_⟩;refine zoc 9 (roWants_con ws hwl hwn) ⟨?_⟩;refine zdBuild q3 true 10 13 ?_;refine zoStore 11 ⟨?_⟩;refine aAny_done (by kernel_rfl) ?_;refine k3 _ ?_;refine n2 _ _ (weak_keep [2] _) ?_;refine zq3 ⟨?_⟩
    simp only [zE,zL,zO,zN,aStepM,optable,set_some,Nat.reduceEqDiff,reduceIte,Nat.reduceLT,implies_true,forall_const,reduceCtorEq,V.ofValue,V.ofScalar,V.un,V.gd,aLoad,row_mk,Blk.row,PartOK,Go.Vm.part,V.cells,V.noSl,V.noRef,Nat.reduceAdd,Nat.reduceLeDiff,Nat.reduceMul,Tryz.underlying32,Ty.c32,Ty.a32,Tryz.underlying33,Ty.c33,Ty.a33,Tryz.underlying34,Ty.c34,Ty.a34,Tryz.underlying36,Ty.c36,Ty.a36]
    exact ret_all rfl (by first | decide | simp [newIds,refsOf,refs2,refs1]) (by simp) rfl (by simp [newIds,refsOf,refs2,refs1]) (by simp [Blk.kindIs,fillK_fd]) rfl
   ·intro K k
    skip
    simp only [zE,zL,zO,zN,aStepM,optable,set_some,Nat.reduceEqDiff,reduceIte,Nat.reduceLT,implies_true,forall_const,reduceCtorEq,V.ofValue,V.ofScalar,V.un,V.gd,aExec,aop,aLoad,row_mk,Blk.row,PartOK,Go.Vm.part,V.cells,V.noSl,V.noRef,Nat.reduceAdd,Nat.reduceLeDiff,Nat.reduceMul,Tryz.underlying33,Ty.c33,Ty.a33,Tryz.underlying99,Ty.c99,Ty.a99,hns]
    repeat (refine And.intro (by first | omega | (intros;omega) | (intros;simp_all;done) | (intros;simp_all;omega)) ?_)
    refine k _ ?_;clear k K;refine zoAppend 3 ⟨?_⟩;refine zoc 6 (ixOwn_con ins hil hin) ⟨?_⟩;refine zoc 9 (roWants_con ws hwl hwn) ⟨?_⟩;refine zdBuild q3 true 10 13 ?_;refine zoStore 11 ⟨?_⟩;refine aAny_done (by kernel_rfl) ?_;refine k3 _ ?_;refine n2 _ _ (weak_keep [2] _) ?_;refine zq3 ⟨?_⟩
    simp only [zE,zL,zO,zN,aStepM,optable,set_some,Nat.reduceEqDiff,reduceIte,Nat.reduceLT,implies_true,forall_const,reduceCtorEq,V.ofValue,V.ofScalar,V.un,V.gd,aLoad,row_mk,Blk.row,PartOK,Go.Vm.part,V.cells,V.noSl,V.noRef,Nat.reduceAdd,Nat.reduceLeDiff,Nat.reduceMul,Tryz.underlying32,Ty.c32,Ty.a32,Tryz.underlying33,Ty.c33,Ty.a33,Tryz.underlying34,Ty.c34,Ty.a34,Tryz.underlying36,Ty.c36,Ty.a36]
    exact ret_all rfl (by first | decide | simp [newIds,refsOf,refs2,refs1]) (by simp) rfl (by simp [newIds,refsOf,refs2,refs1]) (by simp [Blk.kindIs,fillK_fd]) rfl
 ·intro K k
  skip
  simp only [zE,zL,zO,zN,aStepM,optable,set_some,Nat.reduceEqDiff,reduceIte,Nat.reduceLT,implies_true,forall_const,reduceCtorEq,V.ofValue,V.ofScalar,V.un,V.gd,aExec,aop,aLoad,row_mk,Blk.row,PartOK,Go.Vm.part,V.cells,V.noSl,V.noRef,Nat.reduceAdd,Nat.reduceLeDiff,Nat.reduceMul,Tryz.underlying33,Ty.c33,Ty.a33,Tryz.underlying99,Ty.c99,Ty.a99,hns]
  repeat (refine And.intro (by first | omega | (intros;omega) | (intros;simp_all;done) | (intros;simp_all;omega)) ?_)
  refine k _ ?_;clear k K;refine aAny_two 0 8 rfl rfl (by kernel_rfl) ?_ ?_
  ·refine zsBuildSlice ⟨?_⟩
   refine aAny_two 3 8 rfl rfl (by kernel_rfl) ?_ ?_
   ·refine zsAppend ⟨?_⟩
    refine zdLoadX q3 true 8 11 ?_;refine zoc 6 (ixOwn_con ins hil hin) ⟨?_⟩;refine zoc 9 (roWants_con ws hwl hwn) ⟨?_⟩;refine zdBuild q3 true 10 13 ?_;refine zoStore 11 ⟨?_⟩;refine aAny_done (by kernel_rfl) ?_;refine k3 _ ?_;refine n2 _ _ (weak_keep [2] _) ?_;refine zq3 ⟨?_⟩
    simp only [zE,zL,zO,zN,aStepM,optable,set_some,Nat.reduceEqDiff,reduceIte,Nat.reduceLT,implies_true,forall_const,reduceCtorEq,V.ofValue,V.ofScalar,V.un,V.gd,aLoad,row_mk,Blk.row,PartOK,Go.Vm.part,V.cells,V.noSl,V.noRef,Nat.reduceAdd,Nat.reduceLeDiff,Nat.reduceMul,Tryz.underlying32,Ty.c32,Ty.a32,Tryz.underlying33,Ty.c33,Ty.a33,Tryz.underlying34,Ty.c34,Ty.a34,Tryz.underlying36,Ty.c36,Ty.a36]
    exact ret_all rfl (by first | decide | simp [newIds,refsOf,refs2,refs1]) (by simp) rfl (by simp [newIds,refsOf,refs2,refs1]) (by simp [Blk.kindIs,fillK_fd]) rfl
   ·intro K k
    skip
    simp only [zE,zL,zO,zN,aStepM,optable,set_some,Nat.reduceEqDiff,reduceIte,Nat.reduceLT,implies_true,forall_const,reduceCtorEq,V.ofValue,V.ofScalar,V.un,V.gd,aExec,aop,aLoad,row_mk,Blk.row,PartOK,Go.Vm.part,V.cells,V.noSl,V.noRef,Nat.reduceAdd,Nat.reduceLeDiff,Nat.reduceMul,Tryz.underlying34,Ty.c34,Ty.a34,Tryz.underlying102,Ty.c102,Ty.a102,hns]
    repeat (refine And.intro (by first | omega | (intros;omega) | (intros;simp_all;done) | (intros;simp_all;omega)) ?_)
    refine k _ ?_;clear k K;refine zoAppend 3 ⟨?_⟩;refine zoc 6 (ixOwn_con ins hil hin) ⟨?_⟩;refine zoc 9 (roWants_con ws hwl hwn) ⟨?_⟩;refine zdBuild q3 true 10 13 ?_;refine zoStore 11 ⟨?_⟩;refine aAny_done (by kernel_rfl) ?_;refine k3 _ ?_;refine n2 _ _ (weak_keep [2] _) ?_;refine zq3 ⟨?_⟩
    simp only [zE,zL,zO,zN,aStepM,optable,set_some,Nat.reduceEqDiff,reduceIte,Nat.reduceLT,implies_true,forall_const,reduceCtorEq,V.ofValue,V.ofScalar,V.un,V.gd,aLoad,row_mk,Blk.row,PartOK,Go.Vm.part,V.cells,V.noSl,V.noRef,Nat.reduceAdd,Nat.reduceLeDiff,Nat.reduceMul,Tryz.underlying32,Ty.c32,Ty.a32,Tryz.underlying33,Ty.c33,Ty.a33,Tryz.underlying34,Ty.c34,Ty.a34,Tryz.underlying36,Ty.c36,Ty.a36]
    exact ret_all rfl (by first | decide | simp [newIds,refsOf,refs2,refs1]) (by simp) rfl (by simp [newIds,refsOf,refs2,refs1]) (by simp [Blk.kindIs,fillK_fd]) rfl
  ·intro K k
   skip
   simp only [zE,zL,zO,zN,aStepM,optable,set_some,Nat.reduceEqDiff,reduceIte,Nat.reduceLT,implies_true,forall_const,reduceCtorEq,V.ofValue,V.ofScalar,V.un,V.gd,aExec,aop,aLoad,row_mk,Blk.row,PartOK,Go.Vm.part,V.cells,V.noSl,V.noRef,Nat.reduceAdd,Nat.reduceLeDiff,Nat.reduceMul,Tryz.underlying34,Ty.c34,Ty.a34,Tryz.underlying102,Ty.c102,Ty.a102,hns]
   repeat (refine And.intro (by first | omega | (intros;omega) | (intros;simp_all;done) | (intros;simp_all;omega)) ?_)
   refine k _ ?_;clear k K;refine zoBuildSlice 0 ⟨?_⟩;refine zoAppend 3 ⟨?_⟩;refine zoc 6 (ixOwn_con ins hil hin) ⟨?_⟩;refine zoc 9 (roWants_con ws hwl hwn) ⟨?_⟩;refine zdBuild q3 true 10 13 ?_;refine zoStore 11 ⟨?_⟩;refine aAny_done (by kernel_rfl) ?_;refine k3 _ ?_;refine n2 _ _ (weak_keep [2] _) ?_;refine zq3 ⟨?_⟩
   simp only [zE,zL,zO,zN,aStepM,optable,set_some,Nat.reduceEqDiff,reduceIte,Nat.reduceLT,implies_true,forall_const,reduceCtorEq,V.ofValue,V.ofScalar,V.un,V.gd,aLoad,row_mk,Blk.row,PartOK,Go.Vm.part,V.cells,V.noSl,V.noRef,Nat.reduceAdd,Nat.reduceLeDiff,Nat.reduceMul,Tryz.underlying32,Ty.c32,Ty.a32,Tryz.underlying33,Ty.c33,Ty.a33,Tryz.underlying34,Ty.c34,Ty.a34,Tryz.underlying36,Ty.c36,Ty.a36]
   exact ret_all rfl (by first | decide | simp [newIds,refsOf,refs2,refs1]) (by simp) rfl (by simp [newIds,refsOf,refs2,refs1]) (by simp [Blk.kindIs,fillK_fd]) rfl
 ·intro K k
  skip
  simp only [zE,zL,zO,zN,aStepM,optable,set_some,Nat.reduceEqDiff,reduceIte,Nat.reduceLT,implies_true,forall_const,reduceCtorEq,V.ofValue,V.ofScalar,V.un,V.gd,aExec,aop,aLoad,row_mk,Blk.row,PartOK,Go.Vm.part,V.cells,V.noSl,V.noRef,Nat.reduceAdd,Nat.reduceLeDiff,Nat.reduceMul,Tryz.underlying34,Ty.c34,Ty.a34,Tryz.underlying102,Ty.c102,Ty.a102,hns]
  repeat (refine And.intro (by first | omega | (intros;omega) | (intros;simp_all;done) | (intros;simp_all;omega)) ?_)
  refine k _ ?_;clear k K;refine aAny_two 0 5 rfl rfl (by kernel_rfl) ?_ ?_
  ·refine zsBuildSlice ⟨?_⟩
   refine aAny_two 3 5 rfl rfl (by kernel_rfl) ?_ ?_
   ·refine zsAppend ⟨?_⟩
    refine zdLoadX q3 true 5 8 ?_;refine zoc 6 (ixOwn_con ins hil hin) ⟨?_⟩;refine zoc 9 (roWants_con ws hwl hwn) ⟨?_⟩;refine zdBuild q3 true 10 13 ?_;refine zoStore 11 ⟨?_⟩;refine aAny_done (by kernel_rfl) ?_;refine k3 _ ?_;refine n2 _ _ (weak_keep [2] _) ?_;refine zq3 ⟨?_⟩
    simp only [zE,zL,zO,zN,aStepM,optable,set_some,Nat.reduceEqDiff,reduceIte,Nat.reduceLT,implies_true,forall_const,reduceCtorEq,V.ofValue,V.ofScalar,V.un,V.gd,aLoad,row_mk,Blk.row,PartOK,Go.Vm.part,V.cells,V.noSl,V.noRef,Nat.reduceAdd,Nat.reduceLeDiff,Nat.reduceMul,Tryz.underlying32,Ty.c32,Ty.a32,Tryz.underlying33,Ty.c33,Ty.a33,Tryz.underlying34,Ty.c34,Ty.a34,Tryz.underlying36,Ty.c36,Ty.a36]
    exact ret_all rfl (by first | decide | simp [newIds,refsOf,refs2,refs1]) (by simp) rfl (by simp [newIds,refsOf,refs2,refs1]) (by simp [Blk.kindIs,fillK_fd]) rfl
   ·intro K k
    skip
    simp only [zE,zL,zO,zN,aStepM,optable,set_some,Nat.reduceEqDiff,reduceIte,Nat.reduceLT,implies_true,forall_const,reduceCtorEq,V.ofValue,V.ofScalar,V.un,V.gd,aExec,aop,aLoad,row_mk,Blk.row,PartOK,Go.Vm.part,V.cells,V.noSl,V.noRef,Nat.reduceAdd,Nat.reduceLeDiff,Nat.reduceMul,Tryz.underlying33,Ty.c33,Ty.a33,Tryz.underlying99,Ty.c99,Ty.a99,hns]
    repeat (refine And.intro (by first | omega | (intros;omega) | (intros;simp_all;done) | (intros;simp_all;omega)) ?_)
    refine k _ ?_;clear k K;refine zoAppend 3 ⟨?_⟩;refine zoc 6 (ixOwn_con ins hil hin) ⟨?_⟩;refine zoc 9 (roWants_con ws hwl hwn) ⟨?_⟩;refine zdBuild q3 true 10 13 ?_;refine zoStore 11 ⟨?_⟩;refine aAny_done (by kernel_rfl) ?_;refine k3 _ ?_;refine n2 _ _ (weak_keep [2] _) ?_;refine zq3 ⟨?_⟩
    simp only [zE,zL,zO,zN,aStepM,optable,set_some,Nat.reduceEqDiff,reduceIte,Nat.reduceLT,implies_true,forall_const,reduceCtorEq,V.ofValue,V.ofScalar,V.un,V.gd,aLoad,row_mk,Blk.row,PartOK,Go.Vm.part,V.cells,V.noSl,V.noRef,Nat.reduceAdd,Nat.reduceLeDiff,Nat.reduceMul,Tryz.underlying32,Ty.c32,Ty.a32,Tryz.underlying33,Ty.c33,Ty.a33,Tryz.underlying34,Ty.c34,Ty.a34,Tryz.underlying36,Ty.c36,Ty.a36]
    exact ret_all rfl (by first | decide | simp [newIds,refsOf,refs2,refs1]) (by simp) rfl (by simp [newIds,refsOf,refs2,refs1]) (by simp [Blk.kindIs,fillK_fd]) rfl
  ·intro K k
   skip
   simp only [zE,zL,zO,zN,aStepM,optable,set_some,Nat.reduceEqDiff,reduceIte,Nat.reduceLT,implies_true,forall_const,reduceCtorEq,V.ofValue,V.ofScalar,V.un,V.gd,aExec,aop,aLoad,row_mk,Blk.row,PartOK,Go.Vm.part,V.cells,V.noSl,V.noRef,Nat.reduceAdd,Nat.reduceLeDiff,Nat.reduceMul,Tryz.underlying33,Ty.c33,Ty.a33,Tryz.underlying99,Ty.c99,Ty.a99,hns]
   repeat (refine And.intro (by first | omega | (intros;omega) | (intros;simp_all;done) | (intros;simp_all;omega)) ?_)
   refine k _ ?_;clear k K;refine zoBuildSlice 0 ⟨?_⟩;refine zoAppend 3 ⟨?_⟩;refine zoc 6 (ixOwn_con ins hil hin) ⟨?_⟩;refine zoc 9 (roWants_con ws hwl hwn) ⟨?_⟩;refine zdBuild q3 true 10 13 ?_;refine zoStore 11 ⟨?_⟩;refine aAny_done (by kernel_rfl) ?_;refine k3 _ ?_;refine n2 _ _ (weak_keep [2] _) ?_;refine zq3 ⟨?_⟩
   simp only [zE,zL,zO,zN,aStepM,optable,set_some,Nat.reduceEqDiff,reduceIte,Nat.reduceLT,implies_true,forall_const,reduceCtorEq,V.ofValue,V.ofScalar,V.un,V.gd,aLoad,row_mk,Blk.row,PartOK,Go.Vm.part,V.cells,V.noSl,V.noRef,Nat.reduceAdd,Nat.reduceLeDiff,Nat.reduceMul,Tryz.underlying32,Ty.c32,Ty.a32,Tryz.underlying33,Ty.c33,Ty.a33,Tryz.underlying34,Ty.c34,Ty.a34,Tryz.underlying36,Ty.c36,Ty.a36]
   exact ret_all rfl (by first | decide | simp [newIds,refsOf,refs2,refs1]) (by simp) rfl (by simp [newIds,refsOf,refs2,refs1]) (by simp [Blk.kindIs,fillK_fd]) rfl
theorem fillK_0:fillK 0=.flat:=rfl
def arvB (n:Int) (ss:List (Int×Int×Int)) (fl:List (ByteArray×Int×Int×Int×Int)) (ins:List (Int×Int×Bool×List ByteArray)) (ws:List (Int×List Int)) (s:ByteArray):Bool:=ctlB n ss fl ins ws && arrB fl s
end Go.Proofs.YtaefoaghpehbpaaGreat
