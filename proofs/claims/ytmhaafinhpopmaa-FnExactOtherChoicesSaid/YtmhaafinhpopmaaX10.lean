/- What functions compute. No condition. -/
import Derived.Test.YtmhaafinhpopmaaX9
import Derived.Test.YtmhaafinhpopmaaX8
set_option linter.unusedSimpArgs false
set_option linter.unusedVariables false
set_option linter.defProp false
namespace Go.Proofs.Ytmhaafinhpopmaa
open Go Go.Vm
set_option maxHeartbeats 8000000
def keyOf (fl:List TA) (ts:List Int) (i:Int):Int:=match fl[i.toNat]? with | some a=>Tm.at_ ts a.2.2.1.toNat | none=>0
def byKey (fl:List TA) (ts:List Int) (i j:Int):Bool:=decide (keyOf fl ts i < keyOf fl ts j)
def readyP (fl:List TA) (ts:List Int) (a:TA):Bool:=availB a && decide (0≤Tm.at_ ts a.2.2.1.toNat)
def readyTo (fl:List TA) (ts:List Int):Nat→List Int
  | 0=>[]
  | m+1=>readyTo fl ts m++(match fl[m]? with | some a=>if readyP fl ts a=true then [(m:Int)] else [] | none=>[])
def readyL (fl:List TA) (ts:List Int):List Int:=isort (byKey fl ts) (readyTo fl ts fl.length)
theorem ready_step {fl:List TA} {ts:List Int} {m:Nat} {a:TA} (h:fl[m]? =some a):readyTo fl ts (m+1)=if readyP fl ts a=true then readyTo fl ts m++[(m:Int)] else readyTo fl ts m:=by
  rw [readyTo,h];simp only;split<;>simp
theorem ready_len (fl:List TA) (ts:List Int):∀m,(readyTo fl ts m).length≤m
  | 0=>qlu _
  | m+1=>by
    have:=ready_len fl ts m;rw [readyTo,qlm];split
    · split<;>simp<;>omega
    · simp;omega
theorem ready_mem (fl:List TA) (ts:List Int):∀m,∀i∈readyTo fl ts m,∃(k:Nat) (a:TA),i=(k:Int)∧k < m∧fl[k]? =some a∧readyP fl ts a=true
  | 0,i,h=>by cases h
  | m + 1,i,h=>by
    rw [readyTo,qll] at h;rcases h with h | h
    · obtain ⟨k,a,h1,h2,h3⟩:=ready_mem fl ts m i h
      exact ⟨k,a,h1,by omega,h3⟩
    · split at h
      · rename_i a ha
        split at h
        · rename_i hp
          rw [qlo] at h;exact ⟨m,a,h,by omega,ha,hp⟩
        · cases h
      · cases h
theorem readyL_mem {fl:List TA} {ts:List Int} {i:Int} (h:i∈readyL fl ts):∃(k:Nat) (a:TA),i=(k:Int)∧k < fl.length∧fl[k]? =some a∧readyP fl ts a=true:=ready_mem fl ts _ i (isort_mem.1 h)
theorem readyL_len (fl:List TA) (ts:List Int):(readyL fl ts).length≤fl.length:=by rw [readyL,isort_len];exact ready_len ..
theorem bytesLess_trans:∀{a b c:List UInt8},Op.bytesLess a b=true→Op.bytesLess b c=true→Op.bytesLess a c=true
  | _,[],_,h,_=>by simp [Op.bytesLess] at h
  | _,_::_,[],_,h=>by simp [Op.bytesLess] at h
  | [],_::_,_::_,_,_=>rfl
  | x ::a,y::b,z::c,h,k=>by
    simp only [Op.bytesLess,Bool.or_eq_true,decide_eq_true_eq,Bool.and_eq_true,beq_iff_eq] at h k⊢;rcases h with h | ⟨rfl,h⟩
    · rcases k with k | ⟨rfl,_⟩
      · exact .inl (UInt8.lt_trans h k)
      · exact .inl h
    · rcases k with k | ⟨rfl,k⟩
      · exact .inl k
      · exact .inr ⟨rfl,bytesLess_trans h k⟩
theorem strLt_trans {a b c:ByteArray} (h:strLt a b=true) (k:strLt b c=true):strLt a c=true:=bytesLess_trans h k
theorem chain_pairF {α:Type} {ok:α→Bool} {bf:α→α→Bool} (tr:∀a b c,bf a b=true→bf b c=true→bf a c=true):∀{l:List α} {p:Option α},chainFrom ok bf p l=true→(∀q,p=some q→∀x∈l,bf q x=true)∧l.Pairwise fun x y=>bf x y=true
  | [],_,_=>⟨fun _ _ x hx=>(by cases hx),List.Pairwise.nil⟩
  | y::l,none,h=>by
    simp only [chainFrom,Bool.and_eq_true] at h;obtain ⟨h1,h2⟩:=chain_pairF tr h.2;exact ⟨fun q hq=>(by cases hq),List.pairwise_cons.2 ⟨h1 y rfl,h2⟩⟩
  | y::l,some p,h=>by
    simp only [chainFrom,Bool.and_eq_true] at h;obtain ⟨h1,h2⟩:=chain_pairF tr h.2;refine ⟨fun q hq x hx=> ?_,List.pairwise_cons.2 ⟨h1 y rfl,h2⟩⟩;cases hq;rcases ql1.1 hx with rfl | q
    · exact h.1.2
    · exact tr _ _ _ h.1.2 (h1 y rfl x q)
theorem chain_pair {α:Type} {ok:α→Bool} {bf:α→α→Bool} (tr:∀a b c,bf a b=true→bf b c=true→bf a c=true) {l:List α} (h:chainAt ok bf l 0=true):l.Pairwise fun x y=>bf x y=true:=(chain_pairF tr h).2
def dsB (n:Int) (ss:List TS) (fl:List TA):Bool:=townB n ss && fleetB fl && fl.all fun a=>hasB n a.2.2.1
def askD (n:Int) (ss:List TS) (fl:List TA) (node:Int):Bool:=dsB n ss fl && hasB n node
theorem town_facts {n:Int} {ss:List TS} (h:townB n ss=true):(1≤n∧n≤14)∧ss.length≤40∧∀s∈ss,strOK n s=true:=by
  simp only [townB,townH,Bool.and_eq_true,decide_eq_true_eq,Bool.not_eq_true',decide_eq_false_iff_not] at h;exact ⟨h.1.1,by omega,chain_ok h.2⟩
theorem has_facts {n x:Int} (h1:1≤n∧n≤14):hasB n x=(decide (0≤x) && decide (x < n)):=by
  rw [hasB,wrap64 (by omega) (by omega)]
  congr 1
  exact decide_eq_decide.2 (by omega)
theorem fleet_ok {fl:List TA} (h:fleetB fl=true):∀a∈fl,apOK a=true:=by
  simp only [fleetB,Bool.and_eq_true] at h;exact chain_ok h.1
structure DsFacts (n:Int) (ss:List TS) (fl:List TA):Prop where
  hn:1≤n∧n≤14
  hsl:ss.length≤40
  hss:∀s∈ss,strOK n s=true
  hfl:fl.length≤12
  hap:∀a∈fl,(0≤a.2.1∧a.2.1≤3)∧0≤a.2.2.1∧a.2.2.1 < n
  hinc:fl.Pairwise fun x y=>apBf x y=true
theorem ds_facts {n:Int} {ss:List TS} {fl:List TA} (h:dsB n ss fl=true):DsFacts n ss fl:=by
  simp only [dsB,Bool.and_eq_true,List.all_eq_true] at h;obtain ⟨⟨h1,h2⟩,h3⟩:=h;obtain ⟨t1,t2,t3⟩:=town_facts h1;refine ⟨t1,t2,t3,fleet_len h2,fun a ha=> ?_,?_⟩
  · have k1:=ap_kind (fleet_ok h2 a ha)
    have k2:=h3 a ha;rw [has_facts t1] at k2;simp only [Bool.and_eq_true,decide_eq_true_eq] at k2;exact ⟨⟨k1.1,k1.2.1⟩,k2⟩
  · simp only [fleetB,Bool.and_eq_true] at h2
    exact chain_pair (bf:=apBf) (fun a b c h k=>strLt_trans (show strLt a.1 b.1=true from h) (show strLt b.1 c.1=true from k)) h2.1
theorem ask_facts {n:Int} {ss:List TS} {fl:List TA} {node:Int} (h:askD n ss fl node=true):DsFacts n ss fl∧0≤node∧node < n:=by
  rw [askD,qly] at h;have hd:=ds_facts h.1;have h2:=h.2;rw [has_facts hd.hn] at h2;simp only [Bool.and_eq_true,decide_eq_true_eq] at h2;exact ⟨hd,h2⟩
theorem all_step {α:Type} {p:α→Bool} {l:List α} {i:Nat} {x:α} (h:l[i]? =some x):(l.drop i).all p=(p x && (l.drop (i+1)).all p):=by
  rw [getElem_drop_cons h,List.all_cons]
theorem all_end {α:Type} {p:α→Bool} {l:List α} {i:Nat} (h:l.length≤i):(l.drop i).all p=true:=by
  rw [qle h];rfl
theorem ask_ds {n:Int} {ss:List TS} {fl:List TA} {x:Int}:(dsB n ss fl && (townB n ss && hasB n x))=askD n ss fl x:=by
  rw [askD]
  by_cases h:townB n ss=true
  · rw [h];rfl
  · have h1:townB n ss=false:=by simpa using h
    have h2:dsB n ss fl=false:=by rw [dsB,h1];rfl
    rw [h2];rfl
theorem dispatchFits1_con (x0:ByteArray) (x1:Int) (x2:Int) (x3:Int) (x4:Int) (n:Int) (ss:List TS):Con Try.prog 52 [.agg [V.str x0,V.int .i64 x1,V.int .i64 x2,V.int .i64 x3,V.int .i64 x4],.pv [.pv [.agg [.int .i64 n,.sl (ss.map (fun t:TS=>V.agg [V.int .i64 t.1,V.int .i64 t.2.1,V.int .i64 t.2.2]))]] 0 0] 0 0] [] (.bool (!hasB n x2)) []:=by
 refine v_con [.tmp 3] [] Try.func52 rfl rfl rfl (by simp [Try.ntmps52]) ?_;intro Q0 n0 r0;simp only [Try.ntmps52,envFrom,Nat.reduceAdd];have T:=Tys.mk (ai Ty.t3 (ai Ty.t4 (ai Ty.t9 (ai Ty.t32 (ai Ty.t34 (ai Ty.t60 (ai Ty.t63 Ty.t79)))))));have F:=Fc.mk True.intro;refine yR [1,2] ⟨?_⟩;refine yRc [3] (tHas_con n ss x2) ⟨?_⟩;refine zr ⟨?_⟩;exact ret_pure rfl rfl (.inl rfl)
theorem dispatchFits_con (n:Int) (ss:List TS) (fl:List TA) (hs:ss.length≤1048576) (hl:fl.length≤1048576) (hls:∀t∈fl,t.1.size≤9223372036854775807):Con Try.prog 29 [.pv [.agg [.int .i64 n,.sl (ss.map (fun t:TS=>V.agg [V.int .i64 t.1,V.int .i64 t.2.1,V.int .i64 t.2.2]))]] 0 0,.sl (fl.map (fun t:TA=>V.agg [V.str t.1,V.int .i64 t.2.1,V.int .i64 t.2.2.1,V.int .i64 t.2.2.2.1,V.int .i64 t.2.2.2.2]))] [] (.bool (dsB n ss fl)) []:=by
 refine v_con [.tmp 4] [] Try.func29 rfl rfl rfl (by simp [Try.ntmps29]) ?_;intro Q0 n0 r0;simp only [Try.ntmps29,envFrom,Nat.reduceAdd];have T:=Tys.mk (ai Ty.t3 (ai Ty.t4 (ai Ty.t9 (ai Ty.t32 (ai Ty.t34 (ai Ty.t36 (ai Ty.t60 (ai Ty.t63 (ai Ty.t77 Ty.t79)))))))));have F:=Fc.mk True.intro;rcases Bool.eq_false_or_eq_true (townB n ss) with hT | hT<;>rcases Bool.eq_false_or_eq_true (fleetB fl) with hF | hF
 ·skip;skip;have F:=Fc.mk (ai hT hF);refine yR [1,2] ⟨?_⟩;refine yRcgg [4] (isTown_con n ss hs) (isFleet_con fl hl hls) (containsFuncAppliance_con fl _ _ (fun x=> !hasB n x.2.2.1) hl (.pv _ .nil) (fun x0 x1 x2 x3 x4 _=>dispatchFits1_con x0 x1 x2 x3 x4 n ss)) ⟨?_⟩;refine zr ⟨?_⟩;exact ret_pure rfl (by simp [dsB,hT,hF,List.all_eq_not_any_not]) (.inl rfl)
 ·skip;skip;have F:=Fc.mk (ai hT hF);refine yR [1,2] ⟨?_⟩;refine yRcgg [4] (isTown_con n ss hs) (isFleet_con fl hl hls) (containsFuncAppliance_con fl _ _ (fun x=> !hasB n x.2.2.1) hl (.pv _ .nil) (fun x0 x1 x2 x3 x4 _=>dispatchFits1_con x0 x1 x2 x3 x4 n ss)) ⟨?_⟩;refine zr ⟨?_⟩;exact ret_pure rfl (by simp [dsB,hT,hF,List.all_eq_not_any_not]) (.inl rfl)
 ·skip;skip;have F:=Fc.mk (ai hT hF);refine yR [1,2] ⟨?_⟩;refine yRcgg [4] (isTown_con n ss hs) (isFleet_con fl hl hls) (containsFuncAppliance_con fl _ _ (fun x=> !hasB n x.2.2.1) hl (.pv _ .nil) (fun x0 x1 x2 x3 x4 _=>dispatchFits1_con x0 x1 x2 x3 x4 n ss)) ⟨?_⟩;refine zr ⟨?_⟩;exact ret_pure rfl (by simp [dsB,hT,hF,List.all_eq_not_any_not]) (.inl rfl)
 ·skip;skip;have F:=Fc.mk (ai hT hF);refine yR [1,2] ⟨?_⟩;refine yRcgg [4] (isTown_con n ss hs) (isFleet_con fl hl hls) (containsFuncAppliance_con fl _ _ (fun x=> !hasB n x.2.2.1) hl (.pv _ .nil) (fun x0 x1 x2 x3 x4 _=>dispatchFits1_con x0 x1 x2 x3 x4 n ss)) ⟨?_⟩;refine zr ⟨?_⟩;exact ret_pure rfl (by simp [dsB,hT,hF,List.all_eq_not_any_not]) (.inl rfl)
theorem dsGood_con (n:Int) (ss:List TS) (fl:List TA) (hs:ss.length≤1048576) (hl:fl.length≤1048576) (hls:∀t∈fl,t.1.size≤9223372036854775807):Con Try.prog 41 [.agg [.int .i64 n,.sl (ss.map (fun t:TS=>V.agg [V.int .i64 t.1,V.int .i64 t.2.1,V.int .i64 t.2.2]))],.sl (fl.map (fun t:TA=>V.agg [V.str t.1,V.int .i64 t.2.1,V.int .i64 t.2.2.1,V.int .i64 t.2.2.2.1,V.int .i64 t.2.2.2.2]))] [] (.bool (dsB n ss fl)) []:=by
 refine v_con [.tmp 4] [] Try.func41 rfl rfl rfl (by simp [Try.ntmps41]) ?_;intro Q0 n0 r0;simp only [Try.ntmps41,envFrom,Nat.reduceAdd];have T:=Tys.mk (ai Ty.t3 (ai Ty.t4 (ai Ty.t9 (ai Ty.t32 (ai Ty.t34 (ai Ty.t36 (ai Ty.t60 Ty.t79)))))));have F:=Fc.mk True.intro;refine yR [1,2] ⟨?_⟩;refine v_seq ?_;intros;refine yRcg [1,2,14] (toGood_con n ss hs) (apFleet_con fl hl hls) ⟨?_⟩;refine v_condS _ rfl ?_ ?_
 ·intro hc0;have hh:dsB n ss fl=false:=by rw [dsB];(try simp at hc0);first | (rcases hc0 with h | h<;>simp [h];done) | (simp_all;done)
  refine yR [4] ⟨?_⟩;refine zr ⟨?_⟩;rw [hh];exact ret_pure rfl rfl (.inl rfl)
 ·intro hc0;have hTF:townB n ss=true∧fleetB fl=true:=by first | exact hc0 | (simp at hc0;exact hc0)
  have htf:=town_facts hTF.1;refine zn [1,2] ⟨?_⟩;refine v_seq ?_;intros;refine yR [2,15,16,17] ⟨?_⟩;refine v_block ?_;intros;refine v_loop (fun i=>⟨[(2,.ptr 0 0 0),(15,.sl (fl.map (fun t:TA=>V.agg [V.str t.1,V.int .i64 t.2.1,V.int .i64 t.2.2.1,V.int .i64 t.2.2.2.1,V.int .i64 t.2.2.2.2]))),(16,.int .i64 fl.length),(17,.int .i64 (Nat.cast i))],[.box (.agg [.int .i64 n,.sl (ss.map (fun t:TS=>V.agg [V.int .i64 t.1,V.int .i64 t.2.1,V.int .i64 t.2.2]))]) .shal],false,27,0⟩) (fun i=>i≤fl.length∧(fl.drop i).all (fun a=>hasB n a.2.2.1)=fl.all fun a=>hasB n a.2.2.1) (fun i=>fl.length - i) 0 ?_ ?_ ?_
  ·refine weak_bothS [2,15,16,17] [0] ⟨?_⟩;rfl
  ·exact ⟨qlg _,rfl⟩
  ·rintro i hok9 Q9 n9 e9 r9;obtain ⟨hi1,hR⟩:=hok9;refine yR [2,15,16,17,18] ⟨?_⟩;refine v_seq ?_;intros;refine v_condS _ rfl ?_ ?_
   ·intro hc1;have hlt:i < fl.length:=by omega
    obtain ⟨⟨x0,x1,x2,x3,x4⟩,hx⟩:∃x:TA,fl[i]? =some x:=⟨fl[i]'(by omega),qla (by omega)⟩;have hst:=all_step (p:=fun a=>hasB n a.2.2.1) hx;have hap:=ap_kind (fleet_ok hTF.2 _ (qlb hx));simp only [] at hap;have hhb:=has_facts (x:=x2) htf.1;refine zn [2,15,16,17] ⟨?_⟩;refine v_seq ?_;intros;refine v_block ?_;intros;have F:=Fc.mk (gdm hx);refine yR [2,6,15,16,17] ⟨?_⟩;refine yR [2,15,16,17,25] ⟨?_⟩;refine v_condS _ rfl ?_ ?_
    ·intro hc2;refine yR [4] ⟨?_⟩;refine zr ⟨?_⟩;exact ret_pure rfl (by rw [dsB,hTF.1,hTF.2,←hR,hst,hhb,decide_eq_false (show ¬x2 < n by omega)];simp) (.inl rfl)
    ·intro hc2;refine zn [2,15,16,17] ⟨?_⟩;refine yV ⟨?_⟩;refine n9 _ (i+1) ?_ ?_ ?_
     ·refine weak_bothS [2,15,16,17] [0] ⟨?_⟩;rfl
     ·exact ⟨by omega,by rw [←hR,hst];simp only [];rw [hhb,decide_eq_true (show 0≤x2 by omega),decide_eq_true (show x2 < n by omega)];rfl⟩
     ·show _ < _;omega
   ·intro hc1;refine zn [] ⟨?_⟩;refine yR [4] ⟨?_⟩;refine zr ⟨?_⟩;exact ret_pure rfl (by rw [dsB,hTF.1,hTF.2,←hR,all_end (by omega)];rfl) (.inl rfl)
theorem dsAsked_con (n:Int) (ss:List TS) (fl:List TA) (node:Int) (hs:ss.length≤1048576) (hl:fl.length≤1048576) (hls:∀t∈fl,t.1.size≤9223372036854775807):Con Try.prog 22 [.agg [.int .i64 n,.sl (ss.map (fun t:TS=>V.agg [V.int .i64 t.1,V.int .i64 t.2.1,V.int .i64 t.2.2]))],.sl (fl.map (fun t:TA=>V.agg [V.str t.1,V.int .i64 t.2.1,V.int .i64 t.2.2.1,V.int .i64 t.2.2.2.1,V.int .i64 t.2.2.2.2])),.int .i64 node] [] (.bool (askD n ss fl node)) []:=by
 refine v_con [.tmp 6] [] Try.func22 rfl rfl rfl (by simp [Try.ntmps22]) ?_;intro Q0 n0 r0;simp only [Try.ntmps22,envFrom,Nat.reduceAdd];have T:=Tys.mk (ai Ty.t3 (ai Ty.t4 (ai Ty.t9 (ai Ty.t32 (ai Ty.t34 (ai Ty.t36 (ai Ty.t60 Ty.t79)))))));have F:=Fc.mk True.intro;refine yR [1,2,3] ⟨?_⟩;refine yRcg [6] (dsGood_con n ss fl hs hl hls) (toNode_con n ss node hs) ⟨?_⟩;refine zr ⟨?_⟩;exact ret_pure rfl (by first | exact ask_ds | (rw [←ask_ds];done) | (rw [←ask_ds];simp;done)) (.inl rfl)
theorem snocI {l:List Int} {x:Int}:l.map (V.int .i64)++[V.int .i64 x]=(l++[x]).map (V.int .i64):=by rw [ql2];rfl
def allT (fl:List TA) (ts:List Int):List Int:=fl.map fun a=>Tm.at_ ts a.2.2.1.toNat
theorem ready_is {fl:List TA} {ts:List Int} {x:TA} {w:Nat} {p:Int} (hw:x.2.2.1=(w:Int)) (hp:ts[w]? =some p):readyP fl ts x=(availB x && decide (0≤p)):=by
  rw [readyP,hw,Int.toNat_natCast,Tm.at_get hp]
theorem key_is {fl:List TA} {ts:List Int} {k:Nat} {x:TA} {w:Nat} {p:Int} (hx:fl[k]? =some x) (hw:x.2.2.1=(w:Int)) (hp:ts[w]? =some p):keyOf fl ts (k:Int)=p:=by
  rw [keyOf,Int.toNat_natCast,hx];simp only [hw,Int.toNat_natCast,Tm.at_get hp]
end Go.Proofs.Ytmhaafinhpopmaa
