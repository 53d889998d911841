/- What functions compute. No condition. -/
import Derived.Test.YtmhaafinhpopmaaGreatX13
import Derived.Test.YtmhaafinhpopmaaGreatX11
import Derived.Test.YtmhaafinhpopmaaGreatX2
set_option linter.unusedSimpArgs false
set_option linter.unusedVariables false
set_option linter.defProp false
namespace Go.Proofs.YtmhaafinhpopmaaGreat
open Go Go.Vm
set_option maxHeartbeats 8000000
def rankP (fl:List TA) (ts:List Int) (names:List ByteArray) (far:Int) (i:Int):Bool:=decide (keyOf fl ts i < far) && !inS (nameAt fl i) names
def rankV (n:Int) (ss:List TS) (fl:List TA) (node:Int) (names:List ByteArray):Int:=if attR n ss fl node names=true then (((readyL fl (tmL n ss node)).filter (rankP fl (tmL n ss node) names (attW n ss fl node names))).length:Int) else 0
theorem filt_step {α:Type} {p:α→Bool} {l:List α} {i:Nat} {x:α} (h:l[i]? =some x):((l.take (i+1)).filter p).length=((l.take i).filter p).length+(if p x=true then 1 else 0):=by
  rw [qme,h,Option.toList_some,List.filter_append,qlm]
  congr 1
  by_cases q:p x=true
  · simp [q]
  · simp [q]
theorem allT_at {fl:List TA} {ts:List Int} {k w:Nat} {x:TA} {p:Int} (h:fl[k]? =some x) (hw:x.2.2.1=(w:Int)) (hp:ts[w]? =some p):(allT fl ts)[k]? =some p:=by
  rw [allT,List.getElem?_map,h];simp [hw,Tm.at_get hp]
set_option maxRecDepth 8000 in
theorem implRank_con (n:Int) (ss:List TS) (fl:List TA) (node:Int) (names:List ByteArray) (hs:ss.length≤1048576) (hl:fl.length≤1048576) (hls:∀t∈fl,t.1.size≤9223372036854775807) (hnl:names.length≤1048576):Con Tryz.prog 17 [.agg [.int .i64 n,.sl (ss.map (fun t:TS=>V.agg [V.int .i64 t.1,V.int .i64 t.2.1,V.int .i64 t.2.2]))],.sl (fl.map (fun t:TA=>V.agg [V.str t.1,V.int .i64 t.2.1,V.int .i64 t.2.2.1,V.int .i64 t.2.2.2.1,V.int .i64 t.2.2.2.2])),.int .i64 node,.sl (names.map V.str)] [] (.tup [.int .i64 (rankV n ss fl node names),.bool (attR n ss fl node names)]) []:=by
 refine v_con [.tmp 8,.tmp 9] [] Tryz.func17 rfl rfl rfl (by simp [Tryz.ntmps17]) ?_;intro Q0 n0 r0;simp only [Tryz.ntmps17,envFrom,Nat.reduceAdd];have T:=Tys.mk (ai Ty.t3 (ai Ty.t4 (ai Ty.t9 (ai Ty.t24 (ai Ty.t26 (ai Ty.t27 (ai Ty.t28 (ai Ty.t38 (ai Ty.t59 (ai Ty.t72 Ty.t98))))))))));have F:=Fc.mk True.intro;refine yR [1,2,3,4] ⟨?_⟩;refine yRc [1,2,3,4,10,11] (implAtt_con n ss fl node names hs hl hls hnl) ⟨?_⟩;refine v_seq ?_;intros;refine yR [1,2,3,4,10,25] ⟨?_⟩;refine v_condS _ rfl ?_ ?_
 ·intro hc0;have hAF:attR n ss fl node names=false:=by simpa using hc0
  have hw0:rankV n ss fl node names=0:=by rw [rankV,hAF];rfl
  refine yR [8,9] ⟨?_⟩;refine zr ⟨?_⟩;rw [hAF,hw0];exact ret_pure rfl rfl (.inl rfl)
 ·intro hc0;have hAT:attR n ss fl node names=true:=by simpa using hc0
  have hask:askD n ss fl node=true:=by rw [attR,qlo] at hAT;exact hAT.1
  obtain ⟨hd,hu⟩:=ask_facts hask;have hfl:=hd.hfl;obtain ⟨ts,hts⟩:∃ts,ts=tmL n ss node:=⟨_,rfl⟩;have htl:ts.length=n.toNat:=by rw [hts,times_len]
  have htb:=tm_facts hd.hn hu hd.hss hd.hsl;rw [←hts] at htb;have hn14:=hd.hn;obtain ⟨rl,hrl⟩:∃rl,rl=readyL fl ts:=⟨_,rfl⟩;have hrn:rl.length≤fl.length:=by rw [hrl];exact readyL_len fl ts
  have hRV:rankV n ss fl node names=((rl.filter (rankP fl ts names (attW n ss fl node names))).length:Int):=by rw [rankV,hAT,hrl,hts];rfl
  have hval:∀{y:Int},y∈rl→∃(k:Nat) (x:TA) (w:Nat),y=(k:Int)∧fl[k]? =some x∧x.2.2.1=(w:Int)∧w < ts.length:=by
   intro y hy;rw [hrl] at hy;obtain ⟨k,x,h1,h2,h3,_⟩:=readyL_mem hy;have hap:=hd.hap _ (qlb h3);obtain ⟨w,hw⟩:=qlf hap.2.1;exact ⟨k,x,w,h1,h3,hw,by rw [htl];omega⟩
  refine zn [1,2,3,4,10] ⟨?_⟩;refine yRc [1,2,3,4,10,12,13] ((hts ▸ tTimes_con n ss node hd.hn hu hd.hss hd.hsl:Con _ _ _ _ _ [.arr (ts.map (V.int .i64)) .flat])) ⟨?_⟩;refine v_seq ?_;intros;refine yRc [1,3,10,12,13,30,31,32] ((hrl ▸ hts ▸ readyOrder_con n ss fl node hd hu:Con _ _ _ _ _ [.arr (rl.map (V.int .i64)) .flat])) ⟨?_⟩;refine v_block ?_;intros;refine v_loop (fun q=>⟨[(1,.sl (fl.map (fun t:TA=>V.agg [V.str t.1,V.int .i64 t.2.1,V.int .i64 t.2.2.1,V.int .i64 t.2.2.2.1,V.int .i64 t.2.2.2.2]))),(3,.sl (names.map V.str)),(10,.int .i64 (attW n ss fl node names)),(12,.ref 0),(13,.int .i64 (Nat.cast q.2)),(30,.ref 1),(31,.int .i64 rl.length),(32,.int .i64 (Nat.cast q.1))],[.arr (ts.map (V.int .i64)) .flat,.arr (rl.map (V.int .i64)) .flat],false,60,0⟩) (fun q=>q.1≤rl.length∧q.2=((rl.take q.1).filter (rankP fl ts names (attW n ss fl node names))).length) (fun q=>rl.length - q.1) ((0,0):Nat×Nat) ?_ ?_ ?_
  ·refine weak_bothS [1,3,10,12,13,30,31,32] [1,2] ⟨?_⟩;rfl
  ·exact ⟨qlk _,rfl⟩
  ·rintro ⟨i,c⟩ hok11 Q11 n11 e11 r11;obtain ⟨hi1,hn⟩:=hok11;simp only [] at hi1 hn⊢;have hcb:c≤i:=by rw [hn];exact ql4 (List.length_filter_le ..) (List.length_take_le ..)
   refine yR [1,3,10,12,13,30,31,32,33] ⟨?_⟩;refine v_seq ?_;intros;refine v_condS _ rfl ?_ ?_
   ·intro hc1;have hlt:i < rl.length:=by omega
    obtain ⟨y,hy⟩:∃y,rl[i]? =some y:=⟨_,qla hlt⟩;have hv:=hval (qlb hy);have hst:=filt_step (p:=rankP fl ts names (attW n ss fl node names)) hy;obtain ⟨k,⟨x0,x1,x2,x3,x4⟩,w,rfl,hx,hvw,hvl⟩:=hv;simp only [] at hvw;subst hvw;obtain ⟨p,hp⟩:∃p,ts[w]? =some p:=⟨_,qla hvl⟩;have hkl:k < fl.length:=(qlc.1 hx).1;have ek:=key_is (ts:=ts) hx rfl hp;have hnm:nameAt fl (k:Int)=x0:=by rw [nameAt,ql2,hx]
    have hrk:rankP fl ts names (attW n ss fl node names) (k:Int)=(decide (p < attW n ss fl node names) && !inS x0 names):=by rw [rankP,ek,hnm]
    have hat:=allT_at (ts:=ts) hx rfl hp;refine zn [1,3,10,12,13,30,31,32] ⟨?_⟩;refine v_seq ?_;intros;refine v_block ?_;intros;have F:=Fc.mk (ai (gdm hx) (ai (gdm hy) (gdm hp)));refine yR [1,3,10,12,13,15,30,31,32] ⟨?_⟩;refine yRg [1,3,10,12,13,30,31,32,55] (slContainsS_con names x0 hnl) ⟨?_⟩;refine v_condS _ rfl ?_ ?_
    ·intro hc2;have hr1:rankP fl ts names (attW n ss fl node names) (k:Int)=true:=by rw [hrk];simpa using hc2
     refine yQ [1,3,10,12,13,30,31,32] ⟨?_⟩;refine yV ⟨?_⟩;refine n11 _ (i+1,c+1) ?_ ?_ ?_
     ·refine weak_bothS [1,3,10,12,13,30,31,32] [0,1] ⟨?_⟩;rfl
     ·exact ⟨hlt,by show c+1=_;rw [hst,←hn,if_pos hr1]⟩
     ·show _ < _;show rl.length - (i+1) < rl.length - i;omega
    ·intro hc2;have hr1:¬rankP fl ts names (attW n ss fl node names) (k:Int)=true:=by rw [hrk];simpa using hc2
     refine zn [1,3,10,12,13,30,31,32] ⟨?_⟩;refine yV ⟨?_⟩;refine n11 _ (i+1,c) ?_ ?_ ?_
     ·refine weak_bothS [1,3,10,12,13,30,31,32] [0,1] ⟨?_⟩;rfl
     ·exact ⟨hlt,by show c=_;rw [hst,←hn,if_neg hr1];rfl⟩
     ·show _ < _;show rl.length - (i+1) < rl.length - i;omega
   ·intro hc1;refine zn [13] ⟨?_⟩;refine yR [8,9] ⟨?_⟩;refine zr ⟨?_⟩;rw [hAT,hRV];exact ret_pure rfl (by rw [hn,qmg (by omega)]) (.inl rfl)
set_option maxRecDepth 8000 in
theorem specRank_con (n:Int) (ss:List TS) (fl:List TA) (node:Int) (names:List ByteArray) (hs:ss.length≤1048576) (hl:fl.length≤1048576) (hls:∀t∈fl,t.1.size≤9223372036854775807) (hnl:names.length≤1048576):Con Tryz.prog 18 [.agg [.int .i64 n,.sl (ss.map (fun t:TS=>V.agg [V.int .i64 t.1,V.int .i64 t.2.1,V.int .i64 t.2.2]))],.sl (fl.map (fun t:TA=>V.agg [V.str t.1,V.int .i64 t.2.1,V.int .i64 t.2.2.1,V.int .i64 t.2.2.2.1,V.int .i64 t.2.2.2.2])),.int .i64 node,.sl (names.map V.str)] [] (.tup [.int .i64 (rankV n ss fl node names),.bool (attR n ss fl node names)]) []:=by
 refine v_con [.tmp 8,.tmp 9] [] Tryz.func18 rfl rfl rfl (by simp [Tryz.ntmps18]) ?_;intro Q0 n0 r0;simp only [Tryz.ntmps18,envFrom,Nat.reduceAdd];have T:=Tys.mk (ai Ty.t3 (ai Ty.t4 (ai Ty.t9 (ai Ty.t24 (ai Ty.t26 (ai Ty.t27 (ai Ty.t28 (ai Ty.t38 (ai Ty.t72 Ty.t98)))))))));have F:=Fc.mk True.intro;refine yR [1,2,3,4] ⟨?_⟩;refine yRc [1,2,3,4,10,11] (specAtt_con n ss fl node names hs hl hls hnl) ⟨?_⟩;refine v_seq ?_;intros;refine yR [1,2,3,4,10,26] ⟨?_⟩;refine v_condS _ rfl ?_ ?_
 ·intro hc0;have hAF:attR n ss fl node names=false:=by simpa using hc0
  have hw0:rankV n ss fl node names=0:=by rw [rankV,hAF];rfl
  refine yR [8,9] ⟨?_⟩;refine zr ⟨?_⟩;rw [hAF,hw0];exact ret_pure rfl rfl (.inl rfl)
 ·intro hc0;have hAT:attR n ss fl node names=true:=by simpa using hc0
  have hask:askD n ss fl node=true:=by rw [attR,qlo] at hAT;exact hAT.1
  obtain ⟨hd,hu⟩:=ask_facts hask;have hfl:=hd.hfl;obtain ⟨ts,hts⟩:∃ts,ts=tmL n ss node:=⟨_,rfl⟩;have htl:ts.length=n.toNat:=by rw [hts,times_len]
  have htb:=tm_facts hd.hn hu hd.hss hd.hsl;rw [←hts] at htb;have hn14:=hd.hn;obtain ⟨rl,hrl⟩:∃rl,rl=readyL fl ts:=⟨_,rfl⟩;have hrn:rl.length≤fl.length:=by rw [hrl];exact readyL_len fl ts
  have hRV:rankV n ss fl node names=((rl.filter (rankP fl ts names (attW n ss fl node names))).length:Int):=by rw [rankV,hAT,hrl,hts];rfl
  have hval:∀{y:Int},y∈rl→∃(k:Nat) (x:TA) (w:Nat),y=(k:Int)∧fl[k]? =some x∧x.2.2.1=(w:Int)∧w < ts.length:=by
   intro y hy;rw [hrl] at hy;obtain ⟨k,x,h1,h2,h3,_⟩:=readyL_mem hy;have hap:=hd.hap _ (qlb h3);obtain ⟨w,hw⟩:=qlf hap.2.1;exact ⟨k,x,w,h1,h3,hw,by rw [htl];omega⟩
  refine zn [1,2,3,4,10] ⟨?_⟩;refine yRc [1,3,10,12,13] ((hrl ▸ hts ▸ dsReady_con n ss fl node hd hu:Con _ _ _ _ _ [.arr (rl.map (V.int .i64)) .flat,.arr ((allT fl ts).map (V.int .i64)) .flat])) ⟨?_⟩;refine yR [1,3,10,12,13,14] ⟨?_⟩;refine v_seq ?_;intros;refine yR [1,3,10,13,14,34,35,36] ⟨?_⟩;refine v_block ?_;intros;refine v_loop (fun q=>⟨[(1,.sl (fl.map (fun t:TA=>V.agg [V.str t.1,V.int .i64 t.2.1,V.int .i64 t.2.2.1,V.int .i64 t.2.2.2.1,V.int .i64 t.2.2.2.2]))),(3,.sl (names.map V.str)),(10,.int .i64 (attW n ss fl node names)),(13,.ref 1),(14,.int .i64 (Nat.cast q.2)),(34,.ref 0),(35,.int .i64 rl.length),(36,.int .i64 (Nat.cast q.1))],[.arr (rl.map (V.int .i64)) .flat,.arr ((allT fl ts).map (V.int .i64)) .flat],false,60,0⟩) (fun q=>q.1≤rl.length∧q.2=((rl.take q.1).filter (rankP fl ts names (attW n ss fl node names))).length) (fun q=>rl.length - q.1) ((0,0):Nat×Nat) ?_ ?_ ?_
  ·refine weak_bothS [1,3,10,13,14,34,35,36] [1,2] ⟨?_⟩;rfl
  ·exact ⟨qlk _,rfl⟩
  ·rintro ⟨i,c⟩ hok12 Q12 n12 e12 r12;obtain ⟨hi1,hn⟩:=hok12;simp only [] at hi1 hn⊢;have hcb:c≤i:=by rw [hn];exact ql4 (List.length_filter_le ..) (List.length_take_le ..)
   refine yR [1,3,10,13,14,34,35,36,37] ⟨?_⟩;refine v_seq ?_;intros;refine v_condS _ rfl ?_ ?_
   ·intro hc1;have hlt:i < rl.length:=by omega
    obtain ⟨y,hy⟩:∃y,rl[i]? =some y:=⟨_,qla hlt⟩;have hv:=hval (qlb hy);have hst:=filt_step (p:=rankP fl ts names (attW n ss fl node names)) hy;obtain ⟨k,⟨x0,x1,x2,x3,x4⟩,w,rfl,hx,hvw,hvl⟩:=hv;simp only [] at hvw;subst hvw;obtain ⟨p,hp⟩:∃p,ts[w]? =some p:=⟨_,qla hvl⟩;have hkl:k < fl.length:=(qlc.1 hx).1;have ek:=key_is (ts:=ts) hx rfl hp;have hnm:nameAt fl (k:Int)=x0:=by rw [nameAt,ql2,hx]
    have hrk:rankP fl ts names (attW n ss fl node names) (k:Int)=(decide (p < attW n ss fl node names) && !inS x0 names):=by rw [rankP,ek,hnm]
    have hat:=allT_at (ts:=ts) hx rfl hp;refine zn [1,3,10,13,14,34,35,36] ⟨?_⟩;refine v_seq ?_;intros;refine v_block ?_;intros;have F:=Fc.mk (ai (gdm hx) (ai (gdm hy) (ai (gdm hp) (ai (gdm hat) @allT_len))));refine yR [1,3,10,13,14,16,34,35,36] ⟨?_⟩;refine yRg [1,3,10,13,14,34,35,36,55] (dsHas_con names x0 hnl) ⟨?_⟩;refine v_condS _ rfl ?_ ?_
    ·intro hc2;have hr1:rankP fl ts names (attW n ss fl node names) (k:Int)=true:=by rw [hrk];simpa using hc2
     refine yQ [1,3,10,13,14,34,35,36] ⟨?_⟩;refine yV ⟨?_⟩;refine n12 _ (i+1,c+1) ?_ ?_ ?_
     ·refine weak_bothS [1,3,10,13,14,34,35,36] [0,1] ⟨?_⟩;rfl
     ·exact ⟨hlt,by show c+1=_;rw [hst,←hn,if_pos hr1]⟩
     ·show _ < _;show rl.length - (i+1) < rl.length - i;omega
    ·intro hc2;have hr1:¬rankP fl ts names (attW n ss fl node names) (k:Int)=true:=by rw [hrk];simpa using hc2
     refine zn [1,3,10,13,14,34,35,36] ⟨?_⟩;refine yV ⟨?_⟩;refine n12 _ (i+1,c) ?_ ?_ ?_
     ·refine weak_bothS [1,3,10,13,14,34,35,36] [0,1] ⟨?_⟩;rfl
     ·exact ⟨hlt,by show c=_;rw [hst,←hn,if_neg hr1];rfl⟩
     ·show _ < _;show rl.length - (i+1) < rl.length - i;omega
   ·intro hc1;refine zn [14] ⟨?_⟩;refine yR [8,9] ⟨?_⟩;refine zr ⟨?_⟩;rw [hAT,hRV];exact ret_pure rfl (by rw [hn,qmg (by omega)]) (.inl rfl)
def need4 (l:List Int):Bool:=decide ((l.length:Int)=4) && l.all (fun x:Int=>inR x 0 6)
theorem need4_facts {l:List Int} (h:need4 l=true):l.length=4∧∀x∈l,0≤x∧x≤6:=by
  simp only [need4,Bool.and_eq_true,decide_eq_true_eq,List.all_eq_true,inR] at h;exact ⟨by omega,h.2⟩
theorem isNeed_con (l:List Int) (hl:l.length≤1048576):Con Tryz.prog 28 [.sl (l.map (V.int .i64))] [] (.bool (need4 l)) []:=by
 refine v_con [.tmp 2] [] Tryz.func28 rfl rfl rfl (by simp [Tryz.ntmps28]) ?_;intro Q0 n0 r0;simp only [Tryz.ntmps28,envFrom,Nat.reduceAdd];have T:=Tys.mk (ai Ty.t3 (ai Ty.t4 Ty.t28));have F:=Fc.mk True.intro;refine yR [0] ⟨?_⟩;refine v_seq ?_;intros;refine yR [0,5,6,7] ⟨?_⟩;refine v_block ?_;intros;refine v_loop (fun i=>⟨[(0,.sl (l.map (V.int .i64))),(5,.sl (l.map (V.int .i64))),(6,.int .i64 l.length),(7,.int .i64 (Nat.cast i))],[],false,18,0⟩) (fun i=>i≤l.length∧(l.drop i).all (fun x:Int=>inR x 0 6)=l.all (fun x:Int=>inR x 0 6)) (fun i=>l.length - i) 0 ?_ ?_ ?_
 ·refine weak_of [0,5,6,7] ?_;simp only [keep_mk,keepE_nil,keepE_cons,look_cons,look_nil,Nat.reduceEqDiff,reduceIte];rfl
 ·exact ⟨qlk _,rfl⟩
 ·rintro i hok5 Q5 n5 e5 r5;obtain ⟨hi1,hR⟩:=hok5;refine yR [0,5,6,7,8] ⟨?_⟩;refine v_seq ?_;intros;refine v_condS _ rfl ?_ ?_
  ·intro hc0;have hlt:i < l.length:=by omega
   obtain ⟨x,hx⟩:∃x,l[i]? =some x:=⟨_,qla hlt⟩;have hst:=all_step (p:=(fun x:Int=>inR x 0 6)) hx;refine zn [0,5,6,7] ⟨?_⟩;refine v_seq ?_;intros;refine v_block ?_;intros;have F:=Fc.mk (gdm hx);refine yR [0,4,5,6,7] ⟨?_⟩;refine yRc [0,5,6,7,13] (inside_con _ _ _) ⟨?_⟩;refine v_condS _ rfl ?_ ?_
   ·intro hc1;refine yR [2] ⟨?_⟩;refine zr ⟨?_⟩;exact ret_pure rfl (by rw [need4,←hR,hst];(try simp at hc1);simp [inR];intros;omega) (.inl rfl)
   ·intro hc1;refine zn [0,5,6,7] ⟨?_⟩;refine yV ⟨?_⟩;refine n5 _ (i+1) ?_ ?_ ?_
    ·refine weak_bothS [0,5,6,7] [] ⟨?_⟩;rfl
    ·exact ⟨by omega,by rw [←hR,hst];(try simp at hc1);simp [inR];intros;omega⟩
    ·show _ < _;omega
  ·intro hc0;refine zn [0] ⟨?_⟩;refine yR [2] ⟨?_⟩;refine zr ⟨?_⟩;exact ret_pure rfl (by rw [need4,←hR,all_end (by omega)];simp) (.inl rfl)
theorem tbNeed_con (l:List Int) (hl:l.length≤1048576):Con Tryz.prog 32 [.sl (l.map (V.int .i64))] [] (.bool (need4 l)) []:=by
 refine v_con [.tmp 2] [] Tryz.func32 rfl rfl rfl (by simp [Tryz.ntmps32]) ?_;intro Q0 n0 r0;simp only [Tryz.ntmps32,envFrom,Nat.reduceAdd];have T:=Tys.mk (ai Ty.t3 (ai Ty.t4 Ty.t28));have F:=Fc.mk True.intro;refine yR [0] ⟨?_⟩;refine yRg [2] (l1All_con l 0 6 hl) ⟨?_⟩;refine zr ⟨?_⟩;exact ret_pure rfl (by simp [need4,inR]) (.inl rfl)
theorem cloneInt_con (l:List Int) (hl:l.length≤1048576):Con Tryz.prog 63 [.sl (l.map (V.int .i64))] [] (.ref 0) [.arr (l.map (V.int .i64)) .flat]:=by
 have hns:(l.map (V.int .i64)).all V.noSl=true:=by rw [List.all_map,qlh];intro a _;rfl
 refine v_con [.tmp 2] [] Tryz.func63 rfl rfl rfl (by simp [Tryz.ntmps63]) ?_;intro Q0 n0 r0;simp only [Tryz.ntmps63,envFrom,Nat.reduceAdd];have T:=Tys.mk (ai Ty.t3 Ty.t28);have F:=Fc.mk True.intro;have F:=Fc.mk hns;refine yR [0] ⟨?_⟩;refine v_seq ?_;intros;refine v_seqR [0,4] ?_;intro K3 k3;refine zMove ⟨?_⟩;refine zNil ⟨?_⟩;intro nb4 hnb4;refine k3 _ ?_;refine zk ⟨?_⟩;refine v_condS _ rfl ?_ ?_
 ·intro hc0;have hnil:l=[]:=by cases l with | nil=>rfl | cons a b=>have:=hnb4 (by simp);rw [hc0] at this;cases this
  refine yR [2] ⟨?_⟩;refine zr ⟨?_⟩;rw [hnil];exact ret_refK rfl rfl rfl
 ·intro hc0;refine zn [0] ⟨?_⟩;refine yR [2] ⟨?_⟩;refine zr ⟨?_⟩;exact ret_refK rfl rfl (by simp)
end Go.Proofs.YtmhaafinhpopmaaGreat
