/- What functions compute. No condition. -/
import Derived.Test.YtmhaafinhpopmaaGreatX15
set_option linter.unusedSimpArgs false
set_option linter.unusedVariables false
set_option linter.defProp false
namespace Go.Proofs.YtmhaafinhpopmaaGreat
open Go Go.Vm
set_option maxHeartbeats 8000000
theorem mosto_step {fl:List TA} {ts order:List Int} {i:Nat} {y:Int} (h:order[i]? =some y):mostOf fl ts (order.take (i+1))=max (mostOf fl ts (order.take i)) (keyOf fl ts y):=by
  rw [mostOf,qme,h,Option.toList,List.foldl_append];rfl
theorem fold_bounds {α:Type} {f:α→Int} {B:Int}:∀(l:List α) (a:Int),0≤a∧a≤B→(∀x∈l,f x≤B)→0≤l.foldl (fun m x=>max m (f x)) a∧l.foldl (fun m x=>max m (f x)) a≤B
  | [],a,h,_=>h
  | x::l,a,h,hf=>by
    have:=hf x (qle ..);have h2:0≤max a (f x)∧max a (f x)≤B:=by omega
    exact fold_bounds l (max a (f x)) h2 fun y hy=>hf y (qlg _ hy)
theorem key_le {fl:List TA} {ts:List Int} (h:∀v,-1≤Tm.at_ ts v∧Tm.at_ ts v≤4608000) (i:Int):keyOf fl ts i≤4608000:=by
  rw [keyOf];split
  · exact (h _).2
  · omega
theorem most_bounds {fl:List TA} {ts:List Int} (h:∀v,-1≤Tm.at_ ts v∧Tm.at_ ts v≤4608000) (order:List Int):0≤mostOf fl ts order∧mostOf fl ts order≤4608000:=
  fold_bounds order 0 (by omega) fun i _=>key_le h i
theorem att_bounds {fl:List TA} {ts:List Int} (h:∀v,-1≤Tm.at_ ts v∧Tm.at_ ts v≤4608000) (names:List ByteArray):0≤attV fl ts names∧attV fl ts names≤4608000:=by
  refine fold_bounds names 0 (by omega) fun s _=> ?_
  rw [attOne];split
  · omega
  · exact key_le h _
def extraB (n:Int) (ss:List TS) (fl:List TA) (node:Int) (need:List Int) (names:List ByteArray):Bool:=
  askD n ss fl node && need4 need && (attR n ss fl node names && (!decide (((choiceL n ss fl node need).2.length:Int)=0) && decide ((names.length:Int)=((choiceL n ss fl node need).2.length:Int))))
def extraV (n:Int) (ss:List TS) (fl:List TA) (node:Int) (need:List Int) (names:List ByteArray):Int:=
  if extraB n ss fl node need names=true then attV fl (tmL n ss node) names - mostOf fl (tmL n ss node) (choiceL n ss fl node need).2 else 0
theorem choice_facts {n:Int} {ss:List TS} {fl:List TA} {node:Int} {need:List Int} (hn:need.length=4∧∀x∈need,0≤x∧x≤6) :
    (choiceL n ss fl node need).2.length≤fl.length∧(choiceL n ss fl node need).2.Nodup∧∀i∈(choiceL n ss fl node need).2,∃(k:Nat) (x:TA),i=(k:Int)∧k < fl.length∧fl[k]? =some x∧0≤keyOf fl (tmL n ss node) i:=by
  have hp:=pick_facts (fl:=fl) hn (readyL fl (tmL n ss node));refine ⟨ql4 hp.2.2.1 (readyL_len ..),hp.2.2.2.nodup (readyL_nodup ..),fun i hi=> ?_⟩;obtain ⟨k,x,h1,h2,h3,h4⟩:=readyL_mem (hp.2.2.2.subset hi);refine ⟨k,x,h1,h2,h3,?_⟩;rw [readyP,qlo,decide_eq_true_eq] at h4;rw [h1,keyOf,ql2,h3];exact h4.2
theorem best_facts {n:Int} {ss:List TS} {fl:List TA} {node:Int} {need:List Int} (hd:DsFacts n ss fl) (hask:askD n ss fl node=true) (hn:need.length=4∧∀x∈need,0≤x∧x≤6) :
    (sentTo fl (choiceL n ss fl node need).2 fl.length).length=(choiceL n ss fl node need).2.length∧attR n ss fl node (sentTo fl (choiceL n ss fl node need).2 fl.length)= !decide (((choiceL n ss fl node need).2.length:Int)=0)∧
    (¬((choiceL n ss fl node need).2.length:Int)=0→attW n ss fl node (sentTo fl (choiceL n ss fl node need).2 fl.length)=mostOf fl (tmL n ss node) (choiceL n ss fl node need).2):=by
  obtain ⟨_,c2,c3⟩:=choice_facts (n:=n) (ss:=ss) (fl:=fl) (node:=node) hn;obtain ⟨s1,s2,s3⟩:=sent_facts (ts:=tmL n ss node) hd.hinc c2 fun i hi=>by obtain ⟨k,x,h1,h2,_,h4⟩:=c3 i hi;exact ⟨k,h1,h2,h4⟩
  have hR:attR n ss fl node (sentTo fl (choiceL n ss fl node need).2 fl.length)= !decide (((choiceL n ss fl node need).2.length:Int)=0):=by rw [attR,hask,s3];rfl
  refine ⟨s1,hR,fun h0=> ?_⟩;rw [attW,hR,decide_eq_false h0,if_pos (by rfl),s2]
set_option maxRecDepth 8000 in
theorem implExtra_con (n:Int) (ss:List TS) (fl:List TA) (node:Int) (need:List Int) (names:List ByteArray) (hs:ss.length≤1048576) (hl:fl.length≤1048576) (hls:∀t∈fl,t.1.size≤9223372036854775807) (hne:need.length≤1048576) (hnl:names.length≤1048576):Con Tryz.prog 13 [.agg [.int .i64 n,.sl (ss.map (fun t:TS=>V.agg [V.int .i64 t.1,V.int .i64 t.2.1,V.int .i64 t.2.2]))],.sl (fl.map (fun t:TA=>V.agg [V.str t.1,V.int .i64 t.2.1,V.int .i64 t.2.2.1,V.int .i64 t.2.2.2.1,V.int .i64 t.2.2.2.2])),.int .i64 node,.sl (need.map (V.int .i64)),.sl (names.map V.str)] [] (.tup [.int .i64 (extraV n ss fl node need names),.bool (extraB n ss fl node need names)]) []:=by
 refine v_con [.tmp 10,.tmp 11] [] Tryz.func13 rfl rfl rfl (by simp [Tryz.ntmps13]) ?_;intro Q0 n0 r0;simp only [Tryz.ntmps13,envFrom,Nat.reduceAdd];have T:=Tys.mk (ai Ty.t3 (ai Ty.t4 (ai Ty.t9 (ai Ty.t24 (ai Ty.t26 (ai Ty.t27 (ai Ty.t28 (ai Ty.t38 (ai Ty.t59 (ai Ty.t72 Ty.t98))))))))));have F:=Fc.mk True.intro;refine yR [1,2,3,4,5] ⟨?_⟩;refine v_seq ?_;intros;refine yRcgg [1,2,3,4,5,31] (dispatchFits_con n ss fl hs hl hls) (tHas_con n ss node) (isNeed_con need hne) ⟨?_⟩;refine v_condS _ rfl ?_ ?_
 ·intro hc0;have hh:extraB n ss fl node need names=false:=by cases hq:extraB n ss fl node need names with | false=>rfl | true=>(exfalso;simp [extraB,askD] at hq;first | (simp_all;done) | (simp_all [askD];done) | (simp_all;omega))
  have hw0:extraV n ss fl node need names=0:=by rw [extraV,hh];rfl
  refine yR [10,11] ⟨?_⟩;refine zr ⟨?_⟩;rw [hh,hw0];exact ret_pure rfl rfl (.inl rfl)
 ·intro hc0;have hH:askD n ss fl node=true∧need4 need=true:=by first | exact hc0 | (simp [askD] at hc0⊢;first | exact hc0 | (simp_all;done))
  obtain ⟨hask,hnd⟩:=hH;have hn:=need4_facts hnd;obtain ⟨hd,hu⟩:=ask_facts hask;have hfl:=hd.hfl;have hbst:=best_facts hd hask hn;have hcf:=choice_facts (n:=n) (ss:=ss) (fl:=fl) (node:=node) hn;have htb:=tm_facts hd.hn hu hd.hss hd.hsl;have hn14:=hd.hn;have hmb:=most_bounds (fl:=fl) htb;have hab:=att_bounds (fl:=fl) htb names;have hEB:extraB n ss fl node need names=(attR n ss fl node names && (!decide (((choiceL n ss fl node need).2.length:Int)=0) && decide ((names.length:Int)=((choiceL n ss fl node need).2.length:Int)))):=by rw [extraB,hask,hnd];rfl
  obtain ⟨co,hco⟩:∃co,co=(choiceL n ss fl node need).2:=⟨_,rfl⟩;obtain ⟨ts,hts⟩:∃ts,ts=tmL n ss node:=⟨_,rfl⟩;have htl:ts.length=n.toNat:=by rw [hts,times_len]
  rw [←hco] at hbst hcf hEB;rw [←hts] at htb hmb hab hbst hcf;have hmo:=hmb co;have hEV:extraB n ss fl node need names=true→extraV n ss fl node need names=attV fl ts names - mostOf fl ts co:=fun h=>by rw [extraV,if_pos h,←hts,←hco]
  have hEN:extraB n ss fl node need names=false→extraV n ss fl node need names=0:=fun h=>by rw [extraV,h];rfl
  have hAW:attR n ss fl node names=true→attW n ss fl node names=attV fl ts names:=fun h=>by rw [attW,if_pos h,←hts]
  have hval:∀{y:Int},y∈co→∃(k:Nat) (x:TA) (w:Nat),y=(k:Int)∧fl[k]? =some x∧x.2.2.1=(w:Int)∧w < ts.length:=by
   intro y hy;obtain ⟨k,x,h1,h2,h3,_⟩:=hcf.2.2 y hy;have hap:=hd.hap _ (qlb h3);obtain ⟨w,hw⟩:=qlf hap.2.1;exact ⟨k,x,w,h1,h3,hw,by rw [htl];omega⟩
  have hcl:=hcf.1;refine zn [1,2,3,4,5] ⟨?_⟩;refine yRc [1,2,3,4,5,12,13] ((hts ▸ tTimes_con n ss node hd.hn hu hd.hss hd.hsl:Con _ _ _ _ _ [.arr (ts.map (V.int .i64)) .flat])) ⟨?_⟩;refine yRc [1,2,4,5,12,13,14] ((hco ▸ choose_con n ss fl node need hd hu hn:Con _ _ _ _ _ [.arr (co.map (V.int .i64)) .flat])) ⟨?_⟩;refine v_seq ?_;intros;refine yR [1,2,4,5,12,13,14,38,39,40] ⟨?_⟩;refine v_block ?_;intros;refine v_loop (fun q=>⟨[(1,.sl (fl.map (fun t:TA=>V.agg [V.str t.1,V.int .i64 t.2.1,V.int .i64 t.2.2.1,V.int .i64 t.2.2.2.1,V.int .i64 t.2.2.2.2]))),(2,.int .i64 node),(4,.sl (names.map V.str)),(5,.ptr 0 0 0),(12,.ref 1),(13,.int .i64 q.2),(14,.ref 2),(38,.ref 2),(39,.int .i64 co.length),(40,.int .i64 (Nat.cast q.1))],[.box (.agg [.int .i64 n,.sl (ss.map (fun t:TS=>V.agg [V.int .i64 t.1,V.int .i64 t.2.1,V.int .i64 t.2.2]))]) .shal,.arr (ts.map (V.int .i64)) .flat,.arr (co.map (V.int .i64)) .flat],false,80,0⟩) (fun q=>q.1≤co.length∧mostOf fl ts (co.take q.1)=q.2) (fun q=>co.length - q.1) ((0,0):Nat×Int) ?_ ?_ ?_
  ·refine weak_bothS [1,2,4,5,12,13,14,38,39,40] [0,1,2] ⟨?_⟩;rfl
  ·exact ⟨qlk _,rfl⟩
  ·rintro ⟨i,most⟩ hok11 Q11 n11 e11 r11;obtain ⟨hi1,hR⟩:=hok11;simp only [] at hi1 hR⊢;have hmi:=hmb (co.take i);rw [hR] at hmi;refine yR [1,2,4,5,12,13,14,38,39,40,41] ⟨?_⟩;refine v_seq ?_;intros;refine v_condS _ rfl ?_ ?_
   ·intro hc1;have hlt:i < co.length:=by omega
    obtain ⟨y,hy⟩:∃y,co[i]? =some y:=⟨_,qla hlt⟩;have hv:=hval (qlb hy);have hst:=mosto_step (fl:=fl) (ts:=ts) hy;obtain ⟨k,⟨x0,x1,x2,x3,x4⟩,w,rfl,hx,hvw,hvl⟩:=hv;simp only [] at hvw;subst hvw;obtain ⟨p,hp⟩:∃p,ts[w]? =some p:=⟨_,qla hvl⟩;have hkl:k < fl.length:=(qlc.1 hx).1;have ek:=key_is (ts:=ts) hx rfl hp;rw [ek] at hst;refine zn [1,2,4,5,12,13,14,38,39,40] ⟨?_⟩;refine v_seq ?_;intros;refine v_block ?_;intros;have F:=Fc.mk (ai (gdm hx) (ai (gdm hy) (gdm hp)));refine yR [1,2,4,5,12,13,14,16,38,39,40] ⟨?_⟩;refine yQ [1,2,4,5,12,13,14,38,39,40] ⟨?_⟩;refine yV ⟨?_⟩;refine n11 _ (i+1,if p > most then p else most) ?_ ?_ ?_
    ·refine weak_bothS [1,2,4,5,12,13,14,38,39,40] [0,1,2] ⟨?_⟩;rfl
    ·exact ⟨hlt,by show mostOf fl ts (co.take (i+1))=(if p > most then p else most);rw [hst,hR];split<;>omega⟩
    ·show _ < _;show co.length - (i+1) < co.length - i;omega
   ·intro hc1;have hend:i=co.length:=by omega
    subst hend;rw [List.take_length] at hR;refine zn [1,2,4,5,13,14] ⟨?_⟩;refine yRc [4,13,14,17,18] (implAtt_con n ss fl node names hs hl hls hnl) ⟨?_⟩;refine v_seq ?_;intros;refine yR [13,17,76] ⟨?_⟩;refine v_condS _ rfl ?_ ?_
    ·intro hc2;have hB:extraB n ss fl node need names=false:=by
      rw [hEB];generalize (co.length:Int)=cl at hc2⊢;generalize (names.length:Int)=nl at hc2⊢;cases hq:attR n ss fl node names with
      |false=>rfl
      |true=>(simp [hq] at hc2;simp;first | omega | (intros;omega))
     refine yR [10,11] ⟨?_⟩;refine zr ⟨?_⟩;rw [hB,hEN hB];exact ret_pure rfl rfl (.inl rfl)
    ·intro hc2;have hRA:attR n ss fl node names=true:=by first | exact hc2.1.1 | exact hc2.1 | (cases hq:attR n ss fl node names with | true=>rfl | false=>(simp [hq] at hc2))
     have hAV:=hAW hRA;have hB:extraB n ss fl node need names=true:=by
      rw [hEB,hRA];generalize (co.length:Int)=cl at hc2⊢;generalize (names.length:Int)=nl at hc2⊢;simp [hRA] at hc2;simp;first | omega | (constructor<;>omega)
     have hmm:most=mostOf fl ts co:=hR.symm;refine zn [13,17] ⟨?_⟩;have F:=Fc.mk hAV;refine yR [10,11] ⟨?_⟩;refine zr ⟨?_⟩;rw [hB,hEV hB];exact ret_pure rfl (by rw [hmm]) (.inl rfl)
set_option maxRecDepth 8000 in
theorem specExtra_con (n:Int) (ss:List TS) (fl:List TA) (node:Int) (need:List Int) (names:List ByteArray) (hs:ss.length≤1048576) (hl:fl.length≤1048576) (hls:∀t∈fl,t.1.size≤9223372036854775807) (hne:need.length≤1048576) (hnl:names.length≤1048576):Con Tryz.prog 14 [.agg [.int .i64 n,.sl (ss.map (fun t:TS=>V.agg [V.int .i64 t.1,V.int .i64 t.2.1,V.int .i64 t.2.2]))],.sl (fl.map (fun t:TA=>V.agg [V.str t.1,V.int .i64 t.2.1,V.int .i64 t.2.2.1,V.int .i64 t.2.2.2.1,V.int .i64 t.2.2.2.2])),.int .i64 node,.sl (need.map (V.int .i64)),.sl (names.map V.str)] [] (.tup [.int .i64 (extraV n ss fl node need names),.bool (extraB n ss fl node need names)]) []:=by
 refine v_con [.tmp 10,.tmp 11] [] Tryz.func14 rfl rfl rfl (by simp [Tryz.ntmps14]) ?_;intro Q0 n0 r0;simp only [Tryz.ntmps14,envFrom,Nat.reduceAdd];have T:=Tys.mk (ai Ty.t3 (ai Ty.t4 (ai Ty.t9 (ai Ty.t24 (ai Ty.t26 (ai Ty.t27 (ai Ty.t28 (ai Ty.t38 (ai Ty.t72 Ty.t98)))))))));have F:=Fc.mk True.intro;refine yR [1,2,3,4,5] ⟨?_⟩;refine v_seq ?_;intros;refine yRcg [1,2,3,4,5,30] (dsAsked_con n ss fl node hs hl hls) (tbNeed_con need hne) ⟨?_⟩;refine v_condS _ rfl ?_ ?_
 ·intro hc0;have hh:extraB n ss fl node need names=false:=by cases hq:extraB n ss fl node need names with | false=>rfl | true=>(exfalso;simp [extraB,askD] at hq;first | (simp_all;done) | (simp_all [askD];done) | (simp_all;omega))
  have hw0:extraV n ss fl node need names=0:=by rw [extraV,hh];rfl
  refine yR [10,11] ⟨?_⟩;refine zr ⟨?_⟩;rw [hh,hw0];exact ret_pure rfl rfl (.inl rfl)
 ·intro hc0;have hH:askD n ss fl node=true∧need4 need=true:=by first | exact hc0 | (simp [askD] at hc0⊢;first | exact hc0 | (simp_all;done))
  obtain ⟨hask,hnd⟩:=hH;have hn:=need4_facts hnd;obtain ⟨hd,hu⟩:=ask_facts hask;have hfl:=hd.hfl;have hbst:=best_facts hd hask hn;have hcf:=choice_facts (n:=n) (ss:=ss) (fl:=fl) (node:=node) hn;have htb:=tm_facts hd.hn hu hd.hss hd.hsl;have hn14:=hd.hn;have hmb:=most_bounds (fl:=fl) htb;have hab:=att_bounds (fl:=fl) htb names;have hEB:extraB n ss fl node need names=(attR n ss fl node names && (!decide (((choiceL n ss fl node need).2.length:Int)=0) && decide ((names.length:Int)=((choiceL n ss fl node need).2.length:Int)))):=by rw [extraB,hask,hnd];rfl
  obtain ⟨co,hco⟩:∃co,co=(choiceL n ss fl node need).2:=⟨_,rfl⟩;obtain ⟨ts,hts⟩:∃ts,ts=tmL n ss node:=⟨_,rfl⟩;have htl:ts.length=n.toNat:=by rw [hts,times_len]
  rw [←hco] at hbst hcf hEB;rw [←hts] at htb hmb hab hbst hcf;have hmo:=hmb co;have hEV:extraB n ss fl node need names=true→extraV n ss fl node need names=attV fl ts names - mostOf fl ts co:=fun h=>by rw [extraV,if_pos h,←hts,←hco]
  have hEN:extraB n ss fl node need names=false→extraV n ss fl node need names=0:=fun h=>by rw [extraV,h];rfl
  have hAW:attR n ss fl node names=true→attW n ss fl node names=attV fl ts names:=fun h=>by rw [attW,if_pos h,←hts]
  have hval:∀{y:Int},y∈co→∃(k:Nat) (x:TA) (w:Nat),y=(k:Int)∧fl[k]? =some x∧x.2.2.1=(w:Int)∧w < ts.length:=by
   intro y hy;obtain ⟨k,x,h1,h2,h3,_⟩:=hcf.2.2 y hy;have hap:=hd.hap _ (qlb h3);obtain ⟨w,hw⟩:=qlf hap.2.1;exact ⟨k,x,w,h1,h3,hw,by rw [htl];omega⟩
  have hcl:=hcf.1;have hsb:(sentTo fl co fl.length).length≤1048576:=by have:=sent_len fl co fl.length;omega
  refine zn [1,2,3,4,5] ⟨?_⟩;refine yRc [1,2,4,5,12] ((hco ▸ hts ▸ dsPick_con n ss fl node need hd hu hn:Con _ _ _ _ _ [.arr (co.map (V.int .i64)) .flat,.arr ((choiceL n ss fl node need).1.map (V.int .i64)) .flat,.arr ((allT fl ts).map (V.int .i64)) .flat])) ⟨?_⟩;refine yRc [1,2,4,5,16] (dsSend_con fl co hl (by omega)) ⟨?_⟩;refine yRc [1,2,4,5,16,17,18] (specAtt_con n ss fl node (sentTo fl co fl.length) hs hl hls hsb) ⟨?_⟩;refine yRc [4,16,17,18,19,20] (specAtt_con n ss fl node names hs hl hls hnl) ⟨?_⟩;refine v_seq ?_;intros;refine yR [17,19,74] ⟨?_⟩;refine v_condS _ rfl ?_ ?_
  ·intro hc1;have hB:extraB n ss fl node need names=false:=by
    rw [hEB];rw [hbst.1,hbst.2.1] at hc1;generalize (co.length:Int)=cl at hc1⊢;generalize (names.length:Int)=nl at hc1⊢;cases hq:attR n ss fl node names with
    |false=>rfl
    |true=>(simp [hq] at hc1;simp;first | omega | (intros;omega))
   refine yR [10,11] ⟨?_⟩;refine zr ⟨?_⟩;rw [hB,hEN hB];exact ret_pure rfl rfl (.inl rfl)
  ·intro hc1;rw [hbst.1,hbst.2.1] at hc1;have hRA:attR n ss fl node names=true:=by cases hq:attR n ss fl node names with | true=>rfl | false=>(simp [hq] at hc1)
   have hAV:=hAW hRA;have hB:extraB n ss fl node need names=true:=by
    rw [hEB,hRA];generalize (co.length:Int)=cl at hc1⊢;generalize (names.length:Int)=nl at hc1⊢;simp [hRA] at hc1;simp;first | omega | (constructor<;>omega)
   have hc0:¬(co.length:Int)=0:=by intro h0;rw [hEB,decide_eq_true h0] at hB;simp at hB
   have hBV:=hbst.2.2 hc0;refine zn [17,19] ⟨?_⟩;have F:=Fc.mk (ai hAV hBV);refine yR [10,11] ⟨?_⟩;refine zr ⟨?_⟩;rw [hB,hEV hB];exact ret_pure rfl rfl (.inl rfl)
theorem cloneStr_con (l:List ByteArray) (hl:l.length≤1048576):Con Tryz.prog 66 [.sl (l.map V.str)] [] (.ref 0) [.arr (l.map V.str) .flat]:=by
 have hns:(l.map V.str).all V.noSl=true:=by rw [List.all_map,qlh];intro a _;rfl
 refine v_con [.tmp 2] [] Tryz.func66 rfl rfl rfl (by simp [Tryz.ntmps66]) ?_;intro Q0 n0 r0;simp only [Tryz.ntmps66,envFrom,Nat.reduceAdd];have T:=Tys.mk (ai Ty.t9 Ty.t38);have F:=Fc.mk True.intro;have F:=Fc.mk hns;refine yR [0] ⟨?_⟩;refine v_seq ?_;intros;refine v_seqR [0,4] ?_;intro K3 k3;refine zMove ⟨?_⟩;refine zNil ⟨?_⟩;intro nb4 hnb4;refine k3 _ ?_;refine zk ⟨?_⟩;refine v_condS _ rfl ?_ ?_
 ·intro hc0;have hnil:l=[]:=by cases l with | nil=>rfl | cons a b=>have:=hnb4 (by simp);rw [hc0] at this;cases this
  refine yR [2] ⟨?_⟩;refine zr ⟨?_⟩;rw [hnil];exact ret_refK rfl rfl rfl
 ·intro hc0;refine zn [0] ⟨?_⟩;refine yR [2] ⟨?_⟩;refine zr ⟨?_⟩;exact ret_refK rfl rfl (by simp)
end Go.Proofs.YtmhaafinhpopmaaGreat
