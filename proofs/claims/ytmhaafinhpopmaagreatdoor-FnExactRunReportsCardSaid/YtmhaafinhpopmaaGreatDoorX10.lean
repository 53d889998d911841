/- What functions compute. No condition. -/
import Derived.Test.YtmhaafinhpopmaaGreatDoorX9
set_option linter.unusedSimpArgs false
set_option linter.unusedVariables false
set_option linter.defProp false
namespace Go.Proofs.YtmhaafinhpopmaaGreatDoor
open Go Go.Vm
set_option maxHeartbeats 8000000
theorem bytesLess_trans:∀{a b c:List UInt8},Op.bytesLess a b=true→Op.bytesLess b c=true→Op.bytesLess a c=true
  | _,[],_,h,_=>by simp [Op.bytesLess] at h
  | _,_::_,[],_,h=>by simp [Op.bytesLess] at h
  | [],_::_,_::_,_,_=>rfl
  | x ::a,y::b,z::c,h,k=>by
    simp only [Op.bytesLess,Bool.or_eq_true,decide_eq_true_eq,Bool.and_eq_true,beq_iff_eq] at h k⊢;rcases h with h | ⟨rfl,h⟩
    · rcases k with k | ⟨rfl,_⟩
      · exact .inl (UInt8.lt_trans h k)
      · exact .inl h
    · rcases k with k | ⟨rfl,k⟩
      · exact .inl k
      · exact .inr ⟨rfl,bytesLess_trans h k⟩
theorem strLt_trans {a b c:ByteArray} (h:strLt a b=true) (k:strLt b c=true):strLt a c=true:=bytesLess_trans h k
theorem chain_pairF {α:Type} {ok:α→Bool} {bf:α→α→Bool} (tr:∀a b c,bf a b=true→bf b c=true→bf a c=true):∀{l:List α} {p:Option α},chainFrom ok bf p l=true→(∀q,p=some q→∀x∈l,bf q x=true)∧l.Pairwise fun x y=>bf x y=true
  | [],_,_=>⟨fun _ _ x hx=>(by cases hx),List.Pairwise.nil⟩
  | y::l,none,h=>by
    simp only [chainFrom,Bool.and_eq_true] at h;obtain ⟨h1,h2⟩:=chain_pairF tr h.2;exact ⟨fun q hq=>(by cases hq),List.pairwise_cons.2 ⟨h1 y rfl,h2⟩⟩
  | y::l,some p,h=>by
    simp only [chainFrom,Bool.and_eq_true] at h;obtain ⟨h1,h2⟩:=chain_pairF tr h.2;refine ⟨fun q hq x hx=> ?_,List.pairwise_cons.2 ⟨h1 y rfl,h2⟩⟩;cases hq;rcases qly.1 hx with rfl | q
    · exact h.1.2
    · exact tr _ _ _ h.1.2 (h1 y rfl x q)
theorem chain_pair {α:Type} {ok:α→Bool} {bf:α→α→Bool} (tr:∀a b c,bf a b=true→bf b c=true→bf a c=true) {l:List α} (h:chainAt ok bf l 0=true):l.Pairwise fun x y=>bf x y=true:=(chain_pairF tr h).2
theorem chain_splitF {α:Type} {ok:α→Bool} {bf:α→α→Bool}:∀{l:List α} {p:Option α},chainFrom ok bf p l=(chainFrom (fun _=>true) bf p l && l.all ok)
  | [],_=>rfl
  | y::l,none=>by
    rw [chainFrom,chainFrom,chain_splitF,List.all_cons];cases ok y<;>cases chainFrom (fun _=>true) bf (some y) l<;>simp
  | y::l,some p=>by
    rw [chainFrom,chainFrom,chain_splitF,List.all_cons];cases ok y<;>cases bf p y<;>cases chainFrom (fun _=>true) bf (some y) l<;>simp
theorem chain_split {α:Type} {ok:α→Bool} {bf:α→α→Bool} {l:List α}:chainAt ok bf l 0=(chainAt (fun _=>true) bf l 0 && l.all ok):=chain_splitF
def findA (fl:List TA) (s:ByteArray):Int:=firstP (fun x:TA=>decide (x.1=s)) 0 fl
def dsB (n:Int) (ss:List TS) (fl:List TA):Bool:=townB n ss && fleetB fl && fl.all fun a=>hasB n a.2.2.1
theorem town_facts {n:Int} {ss:List TS} (h:townB n ss=true):(1≤n∧n≤14)∧ss.length≤40∧∀s∈ss,strOK n s=true:=by
  simp only [townB,townH,Bool.and_eq_true,decide_eq_true_eq,Bool.not_eq_true',decide_eq_false_iff_not] at h;exact ⟨h.1.1,by omega,chain_ok h.2⟩
theorem has_facts {n x:Int} (h1:1≤n∧n≤14):hasB n x=(decide (0≤x) && decide (x < n)):=by
  rw [hasB,wrap64 (by omega) (by omega)]
  congr 1
  exact decide_eq_decide.2 (by omega)
theorem fleet_ok {fl:List TA} (h:fleetB fl=true):∀a∈fl,apOK a=true:=by
  simp only [fleetB,Bool.and_eq_true] at h;exact chain_ok h.1
structure DsFacts (n:Int) (ss:List TS) (fl:List TA):Prop where
  hn:1≤n∧n≤14
  hsl:ss.length≤40
  hss:∀s∈ss,strOK n s=true
  hfl:fl.length≤12
  hap:∀a∈fl,(0≤a.2.1∧a.2.1≤3)∧0≤a.2.2.1∧a.2.2.1 < n
  hinc:fl.Pairwise fun x y=>apBf x y=true
theorem ds_facts {n:Int} {ss:List TS} {fl:List TA} (h:dsB n ss fl=true):DsFacts n ss fl:=by
  simp only [dsB,Bool.and_eq_true,List.all_eq_true] at h;obtain ⟨⟨h1,h2⟩,h3⟩:=h;obtain ⟨t1,t2,t3⟩:=town_facts h1;refine ⟨t1,t2,t3,fleet_len h2,fun a ha=> ?_,?_⟩
  · have k1:=ap_kind (fleet_ok h2 a ha)
    have k2:=h3 a ha;rw [has_facts t1] at k2;simp only [Bool.and_eq_true,decide_eq_true_eq] at k2;exact ⟨⟨k1.1,k1.2.1⟩,k2⟩
  · simp only [fleetB,Bool.and_eq_true] at h2
    exact chain_pair (bf:=apBf) (fun a b c h k=>strLt_trans (show strLt a.1 b.1=true from h) (show strLt b.1 c.1=true from k)) h2.1
theorem all_step {α:Type} {p:α→Bool} {l:List α} {i:Nat} {x:α} (h:l[i]? =some x):(l.drop i).all p=(p x && (l.drop (i+1)).all p):=by
  rw [getElem_drop_cons h,List.all_cons]
theorem all_end {α:Type} {p:α→Bool} {l:List α} {i:Nat} (h:l.length≤i):(l.drop i).all p=true:=by
  rw [qle h];rfl
theorem findAppliance1_con (x0:ByteArray) (x1:Int) (x2:Int) (x3:Int) (x4:Int) (s:ByteArray):Con Tryz.prog 186 [.agg [V.str x0,V.int .i64 x1,V.int .i64 x2,V.int .i64 x3,V.int .i64 x4],.pv [.str s] 0 0] [] (.bool (decide (x0=s))) []:=by
 refine v_con [.tmp 3] [] Tryz.func186 rfl rfl rfl (by simp [Tryz.ntmps186]) ?_;intro Q0 n0 r0;simp only [Tryz.ntmps186,envFrom,Nat.reduceAdd];have T:=Tys.mk (ai Ty.t3 (ai Ty.t9 Ty.t156));have F:=Fc.mk True.intro;refine yR [1,2] ⟨?_⟩;refine yR [3] ⟨?_⟩;refine zr ⟨?_⟩;exact ret_pure rfl (by first | rfl | simp) (.inl rfl)
theorem findAppliance_con (fl:List TA) (s:ByteArray) (hl:fl.length≤1048576):Con Tryz.prog 141 [.sl (fl.map (fun t:TA=>V.agg [V.str t.1,V.int .i64 t.2.1,V.int .i64 t.2.2.1,V.int .i64 t.2.2.2.1,V.int .i64 t.2.2.2.2])),.str s] [] (.int .i64 (findA fl s)) []:=by
 refine v_con [.tmp 4] [] Tryz.func141 rfl rfl rfl (by simp [Tryz.ntmps141]) ?_;intro Q0 n0 r0;simp only [Tryz.ntmps141,envFrom,Nat.reduceAdd];have T:=Tys.mk (ai Ty.t3 (ai Ty.t9 (ai Ty.t63 (ai Ty.t156 Ty.t173))));have F:=Fc.mk True.intro;refine yR [0,3] ⟨?_⟩;refine yRc [4] (indexFuncAppliance_con fl _ _ (fun x=>decide (x.1=s)) hl (.pv _ .nil) (fun x0 x1 x2 x3 x4 _=>findAppliance1_con x0 x1 x2 x3 x4 s)) ⟨?_⟩;refine zr ⟨?_⟩;exact ret_pure rfl rfl (.inl rfl)
theorem apFind_con (fl:List TA) (s:ByteArray) (hl:fl.length≤1048576):Con Tryz.prog 122 [.sl (fl.map (fun t:TA=>V.agg [V.str t.1,V.int .i64 t.2.1,V.int .i64 t.2.2.1,V.int .i64 t.2.2.2.1,V.int .i64 t.2.2.2.2])),.str s] [] (.int .i64 (findA fl s)) []:=by
 refine v_con [.tmp 4] [] Tryz.func122 rfl rfl rfl (by simp [Tryz.ntmps122]) ?_;intro Q0 n0 r0;simp only [Tryz.ntmps122,envFrom,Nat.reduceAdd];have T:=Tys.mk (ai Ty.t3 (ai Ty.t9 (ai Ty.t63 Ty.t156)));have F:=Fc.mk True.intro;refine yR [0,1] ⟨?_⟩;refine v_seq ?_;intros;refine yR [1,7,8,9] ⟨?_⟩;refine v_block ?_;intro Q4 n4 x4 e4 r4;refine v_loop (fun i=>⟨[(1,.str s),(7,.sl (fl.map (fun t:TA=>V.agg [V.str t.1,V.int .i64 t.2.1,V.int .i64 t.2.2.1,V.int .i64 t.2.2.2.1,V.int .i64 t.2.2.2.2]))),(8,.int .i64 fl.length),(9,.int .i64 (Nat.cast i))],[],false,20,0⟩) (fun i=>i≤fl.length∧firstP (fun x:TA=>decide (x.1=s)) i (fl.drop i)=firstP (fun x:TA=>decide (x.1=s)) 0 fl) (fun i=>fl.length - i) 0 ?_ ?_ ?_
 ·refine weak_of [1,7,8,9] ?_;simp only [keep_mk,keepE_nil,keepE_cons,look_cons,look_nil,Nat.reduceEqDiff,reduceIte];rfl
 ·exact ⟨qld _,rfl⟩
 ·rintro i hok5 Q5 n5 e5 r5;obtain ⟨hi1,hR⟩:=hok5;refine yR [1,7,8,9,10] ⟨?_⟩;refine v_seq ?_;intros;refine v_condS _ rfl ?_ ?_
  ·intro hc0;have hlt:i < fl.length:=by omega
   obtain ⟨⟨x0,x1,x2,x3,x4⟩,hx⟩:∃x:TA,fl[i]? =some x:=⟨fl[i]'(by omega),qla (by omega)⟩;have hst:=first_step (p:=fun x:TA=>decide (x.1=s)) hx;refine zn [1,7,8,9] ⟨?_⟩;refine v_seq ?_;intros;refine v_block ?_;intros;have F:=Fc.mk (gdm hx);refine yR [1,5,6,7,8,9] ⟨?_⟩;refine yR [1,5,7,8,9,17] ⟨?_⟩;refine v_condS _ rfl ?_ ?_
   ·intro hc1;refine yR [4] ⟨?_⟩;refine zr ⟨?_⟩;exact ret_pure rfl (by rw [findA,←hR,hst,if_pos (by simpa using hc1)]) (.inl rfl)
   ·intro hc1;refine zn [1,7,8,9] ⟨?_⟩;refine yV ⟨?_⟩;refine n5 _ (i+1) ?_ ?_ ?_
    ·refine weak_bothS [1,7,8,9] [] ⟨?_⟩;rfl
    ·exact ⟨by omega,by rw [←hR,hst,if_neg (by simpa using hc1)]⟩
    ·show _ < _;omega
  ·intro hc0;refine zn [] ⟨?_⟩;refine yR [4] ⟨?_⟩;refine zr ⟨?_⟩;exact ret_pure rfl (by rw [findA,←hR,first_end (by omega)]) (.inl rfl)
theorem dispatchFits1_con (x0:ByteArray) (x1:Int) (x2:Int) (x3:Int) (x4:Int) (n:Int) (ss:List TS):Con Tryz.prog 183 [.agg [V.str x0,V.int .i64 x1,V.int .i64 x2,V.int .i64 x3,V.int .i64 x4],.pv [.pv [.agg [.int .i64 n,.sl (ss.map (fun t:TS=>V.agg [V.int .i64 t.1,V.int .i64 t.2.1,V.int .i64 t.2.2]))]] 0 0] 0 0] [] (.bool (!hasB n x2)) []:=by
 refine v_con [.tmp 3] [] Tryz.func183 rfl rfl rfl (by simp [Tryz.ntmps183]) ?_;intro Q0 n0 r0;simp only [Tryz.ntmps183,envFrom,Nat.reduceAdd];have T:=Tys.mk (ai Ty.t3 (ai Ty.t4 (ai Ty.t9 (ai Ty.t70 (ai Ty.t72 (ai Ty.t120 (ai Ty.t156 Ty.t164)))))));have F:=Fc.mk True.intro;refine yR [1,2] ⟨?_⟩;refine yRc [3] (tHas_con n ss x2) ⟨?_⟩;refine zr ⟨?_⟩;exact ret_pure rfl rfl (.inl rfl)
theorem dispatchFits_con (n:Int) (ss:List TS) (fl:List TA) (hs:ss.length≤1048576) (hl:fl.length≤1048576) (hls:∀t∈fl,t.1.size≤9223372036854775807):Con Tryz.prog 138 [.pv [.agg [.int .i64 n,.sl (ss.map (fun t:TS=>V.agg [V.int .i64 t.1,V.int .i64 t.2.1,V.int .i64 t.2.2]))]] 0 0,.sl (fl.map (fun t:TA=>V.agg [V.str t.1,V.int .i64 t.2.1,V.int .i64 t.2.2.1,V.int .i64 t.2.2.2.1,V.int .i64 t.2.2.2.2]))] [] (.bool (dsB n ss fl)) []:=by
 refine v_con [.tmp 4] [] Tryz.func138 rfl rfl rfl (by simp [Tryz.ntmps138]) ?_;intro Q0 n0 r0;simp only [Tryz.ntmps138,envFrom,Nat.reduceAdd];have T:=Tys.mk (ai Ty.t3 (ai Ty.t4 (ai Ty.t9 (ai Ty.t63 (ai Ty.t70 (ai Ty.t72 (ai Ty.t120 (ai Ty.t156 (ai Ty.t164 Ty.t173)))))))));have F:=Fc.mk True.intro;rcases Bool.eq_false_or_eq_true (townB n ss) with hT | hT<;>rcases Bool.eq_false_or_eq_true (fleetB fl) with hF | hF
 ·skip;skip;have F:=Fc.mk (ai hT hF);refine yR [1,2] ⟨?_⟩;refine yRcgg [4] (isTown_con n ss hs) (isFleet_con fl hl hls) (containsFuncAppliance_con fl _ _ (fun x=> !hasB n x.2.2.1) hl (.pv _ .nil) (fun x0 x1 x2 x3 x4 _=>dispatchFits1_con x0 x1 x2 x3 x4 n ss)) ⟨?_⟩;refine zr ⟨?_⟩;exact ret_pure rfl (by simp [dsB,hT,hF,List.all_eq_not_any_not]) (.inl rfl)
 ·skip;skip;have F:=Fc.mk (ai hT hF);refine yR [1,2] ⟨?_⟩;refine yRcgg [4] (isTown_con n ss hs) (isFleet_con fl hl hls) (containsFuncAppliance_con fl _ _ (fun x=> !hasB n x.2.2.1) hl (.pv _ .nil) (fun x0 x1 x2 x3 x4 _=>dispatchFits1_con x0 x1 x2 x3 x4 n ss)) ⟨?_⟩;refine zr ⟨?_⟩;exact ret_pure rfl (by simp [dsB,hT,hF,List.all_eq_not_any_not]) (.inl rfl)
 ·skip;skip;have F:=Fc.mk (ai hT hF);refine yR [1,2] ⟨?_⟩;refine yRcgg [4] (isTown_con n ss hs) (isFleet_con fl hl hls) (containsFuncAppliance_con fl _ _ (fun x=> !hasB n x.2.2.1) hl (.pv _ .nil) (fun x0 x1 x2 x3 x4 _=>dispatchFits1_con x0 x1 x2 x3 x4 n ss)) ⟨?_⟩;refine zr ⟨?_⟩;exact ret_pure rfl (by simp [dsB,hT,hF,List.all_eq_not_any_not]) (.inl rfl)
 ·skip;skip;have F:=Fc.mk (ai hT hF);refine yR [1,2] ⟨?_⟩;refine yRcgg [4] (isTown_con n ss hs) (isFleet_con fl hl hls) (containsFuncAppliance_con fl _ _ (fun x=> !hasB n x.2.2.1) hl (.pv _ .nil) (fun x0 x1 x2 x3 x4 _=>dispatchFits1_con x0 x1 x2 x3 x4 n ss)) ⟨?_⟩;refine zr ⟨?_⟩;exact ret_pure rfl (by simp [dsB,hT,hF,List.all_eq_not_any_not]) (.inl rfl)
theorem dsGood_con (n:Int) (ss:List TS) (fl:List TA) (hs:ss.length≤1048576) (hl:fl.length≤1048576) (hls:∀t∈fl,t.1.size≤9223372036854775807):Con Tryz.prog 120 [.agg [.int .i64 n,.sl (ss.map (fun t:TS=>V.agg [V.int .i64 t.1,V.int .i64 t.2.1,V.int .i64 t.2.2]))],.sl (fl.map (fun t:TA=>V.agg [V.str t.1,V.int .i64 t.2.1,V.int .i64 t.2.2.1,V.int .i64 t.2.2.2.1,V.int .i64 t.2.2.2.2]))] [] (.bool (dsB n ss fl)) []:=by
 refine v_con [.tmp 4] [] Tryz.func120 rfl rfl rfl (by simp [Tryz.ntmps120]) ?_;intro Q0 n0 r0;simp only [Tryz.ntmps120,envFrom,Nat.reduceAdd];have T:=Tys.mk (ai Ty.t3 (ai Ty.t4 (ai Ty.t9 (ai Ty.t63 (ai Ty.t70 (ai Ty.t72 (ai Ty.t156 Ty.t164)))))));have F:=Fc.mk True.intro;refine yR [1,2] ⟨?_⟩;refine v_seq ?_;intros;refine yRcg [1,2,14] (toGood_con n ss hs) (apFleet_con fl hl hls) ⟨?_⟩;refine v_condS _ rfl ?_ ?_
 ·intro hc0;have hh:dsB n ss fl=false:=by rw [dsB];(try simp at hc0);first | (rcases hc0 with h | h<;>simp [h];done) | (simp_all;done)
  refine yR [4] ⟨?_⟩;refine zr ⟨?_⟩;rw [hh];exact ret_pure rfl rfl (.inl rfl)
 ·intro hc0;have hTF:townB n ss=true∧fleetB fl=true:=by first | exact hc0 | (simp at hc0;exact hc0)
  have htf:=town_facts hTF.1;refine zn [1,2] ⟨?_⟩;refine v_seq ?_;intros;refine yR [2,15,16,17] ⟨?_⟩;refine v_block ?_;intros;refine v_loop (fun i=>⟨[(2,.ptr 0 0 0),(15,.sl (fl.map (fun t:TA=>V.agg [V.str t.1,V.int .i64 t.2.1,V.int .i64 t.2.2.1,V.int .i64 t.2.2.2.1,V.int .i64 t.2.2.2.2]))),(16,.int .i64 fl.length),(17,.int .i64 (Nat.cast i))],[.box (.agg [.int .i64 n,.sl (ss.map (fun t:TS=>V.agg [V.int .i64 t.1,V.int .i64 t.2.1,V.int .i64 t.2.2]))]) .shal],false,27,0⟩) (fun i=>i≤fl.length∧(fl.drop i).all (fun a=>hasB n a.2.2.1)=fl.all fun a=>hasB n a.2.2.1) (fun i=>fl.length - i) 0 ?_ ?_ ?_
  ·refine weak_bothS [2,15,16,17] [0] ⟨?_⟩;rfl
  ·exact ⟨qld _,rfl⟩
  ·rintro i hok9 Q9 n9 e9 r9;obtain ⟨hi1,hR⟩:=hok9;refine yR [2,15,16,17,18] ⟨?_⟩;refine v_seq ?_;intros;refine v_condS _ rfl ?_ ?_
   ·intro hc1;have hlt:i < fl.length:=by omega
    obtain ⟨⟨x0,x1,x2,x3,x4⟩,hx⟩:∃x:TA,fl[i]? =some x:=⟨fl[i]'(by omega),qla (by omega)⟩;have hst:=all_step (p:=fun a=>hasB n a.2.2.1) hx;have hap:=ap_kind (fleet_ok hTF.2 _ (qlb hx));simp only [] at hap;have hhb:=has_facts (x:=x2) htf.1;refine zn [2,15,16,17] ⟨?_⟩;refine v_seq ?_;intros;refine v_block ?_;intros;have F:=Fc.mk (gdm hx);refine yR [2,6,15,16,17] ⟨?_⟩;refine yR [2,15,16,17,25] ⟨?_⟩;refine v_condS _ rfl ?_ ?_
    ·intro hc2;refine yR [4] ⟨?_⟩;refine zr ⟨?_⟩;exact ret_pure rfl (by rw [dsB,hTF.1,hTF.2,←hR,hst,hhb,decide_eq_false (show ¬x2 < n by omega)];simp) (.inl rfl)
    ·intro hc2;refine zn [2,15,16,17] ⟨?_⟩;refine yV ⟨?_⟩;refine n9 _ (i+1) ?_ ?_ ?_
     ·refine weak_bothS [2,15,16,17] [0] ⟨?_⟩;rfl
     ·exact ⟨by omega,by rw [←hR,hst];simp only [];rw [hhb,decide_eq_true (show 0≤x2 by omega),decide_eq_true (show x2 < n by omega)];rfl⟩
     ·show _ < _;omega
   ·intro hc1;refine zn [] ⟨?_⟩;refine yR [4] ⟨?_⟩;refine zr ⟨?_⟩;exact ret_pure rfl (by rw [dsB,hTF.1,hTF.2,←hR,all_end (by omega)];rfl) (.inl rfl)
end Go.Proofs.YtmhaafinhpopmaaGreatDoor
