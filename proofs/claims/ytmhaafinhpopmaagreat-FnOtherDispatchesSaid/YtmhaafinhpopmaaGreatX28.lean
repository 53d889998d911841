/- What functions compute. No condition. -/
import Derived.Test.YtmhaafinhpopmaaGreatX25
import Derived.Test.YtmhaafinhpopmaaGreatX27
set_option linter.unusedSimpArgs false
set_option linter.unusedVariables false
set_option linter.defProp false
namespace Go.Proofs.YtmhaafinhpopmaaGreat
open Go Go.Vm
set_option maxHeartbeats 8000000
def usP (ts:List Int) (limit:Int) (a:TA):Bool:=availB a && inR (Tm.at_ ts a.2.2.1.toNat) 0 limit
def usL (fl:List TA) (ts:List Int) (limit:Int):List TA:=fl.filter (usP ts limit)
def usN (fl:List TA) (ts:List Int) (limit:Int):List (ByteArray×Int):=(usL fl ts limit).map fun a=>(a.1,a.2.1)
def othAll (n:Int) (ss:List TS) (fl:List TA) (node:Int) (need:List Int) (limit:Int):List (List ByteArray):=full need (usN fl (tmL n ss node) limit)
def othB (n:Int) (ss:List TS) (fl:List TA) (node:Int) (need:List Int) (limit:Int):Bool:=(askD n ss fl node && (need4 need && inR limit 0 36000)) && !decide (20 < (othAll n ss fl node need limit).length)
def othR (n:Int) (ss:List TS) (fl:List TA) (node:Int) (need:List Int) (limit:Int):List (List ByteArray):=if othB n ss fl node need limit=true then othAll n ss fl node need limit else []
def tAt (fl:List TA) (ts:List Int) (j:Nat):Int:=(allT fl ts).getD j 0
def ubAt (fl:List TA) (ts:List Int) (limit:Int) (l:List Int):List Bool:=(List.range fl.length).map fun j:Nat=>decide ((j:Int)∈l) && decide (tAt fl ts j≤limit)
theorem ub_len (fl:List TA) (ts:List Int) (limit:Int) (l:List Int):(ubAt fl ts limit l).length=fl.length:=by simp [ubAt]
theorem ub_at {fl:List TA} {ts:List Int} {limit:Int} {l:List Int} {j:Nat} (h:j < fl.length):(ubAt fl ts limit l)[j]? =some (decide ((j:Int)∈l) && decide (tAt fl ts j≤limit)):=by
  simp [ubAt,List.getElem?_map,List.getElem?_range h]
theorem ub_zero (fl:List TA) (ts:List Int) (limit:Int):ubAt fl ts limit []=List.replicate fl.length false:=by
  rw [ubAt];simp only [List.not_mem_nil,decide_false,Bool.false_and];rw [List.map_const',List.length_range]
theorem ub_step {fl:List TA} {ts rl:List Int} {limit p:Int} {i k:Nat} (h:rl[i]? =some (k:Int)) (hk:k < fl.length) (hp:(allT fl ts)[k]? =some p):(ubAt fl ts limit (rl.take i)).set k (decide (p≤limit))=ubAt fl ts limit (rl.take (i+1)):=by
  apply List.ext_getElem?;intro j;have hpk:tAt fl ts k=p:=by rw [tAt,qld,hp];rfl
  have ht:rl.take (i+1)=rl.take i++[(k:Int)]:=by rw [qme,h];rfl
  rw [List.getElem?_set]
  by_cases e:k=j
  · subst e
    rw [if_pos rfl,if_pos (by rw [ub_len];exact hk),ub_at hk,hpk,ht];simp
  · rw [if_neg e]
    by_cases hj:j < fl.length
    · rw [ub_at hj,ub_at hj,ht]
      have:((j:Int)∈rl.take i++[(k:Int)])↔((j:Int)∈rl.take i):=by
        rw [qll,qli];exact ⟨fun q=>q.elim (fun z=>z) fun z=>absurd z (by omega),.inl⟩
      rw [decide_eq_decide.2 this]
    · rw [qlp (by rw [ub_len];omega),qlp (by rw [ub_len];omega)]
theorem ready_in {fl:List TA} {ts:List Int} {j:Nat} {a:TA} (ha:fl[j]? =some a) (hp:readyP fl ts a=true):∀m,j < m→m≤fl.length→(j:Int)∈readyTo fl ts m
  | 0,h,_=>absurd h (by omega)
  | m + 1,h,hm=>by
    rw [readyTo,qll]
    by_cases e:j=m
    · subst e
      right;rw [ha];simp only [hp,if_true,List.mem_singleton]
    · exact .inl (ready_in ha hp m (by omega) (by omega))
theorem ub_full (fl:List TA) (ts:List Int) (limit:Int):ubAt fl ts limit (readyL fl ts)=fl.map (usP ts limit):=by
  apply List.ext_getElem?;intro j
  by_cases hj:j < fl.length
  · have ha:fl[j]? =some fl[j]:=qla hj
    rw [ub_at hj,List.getElem?_map,ha,Option.map_some]
    congr 1
    have ht:tAt fl ts j=Tm.at_ ts fl[j].2.2.1.toNat:=by rw [tAt,allT,qld,List.getElem?_map,ha];rfl
    have hm:((j:Int)∈readyL fl ts)↔readyP fl ts fl[j]=true:=by
      constructor
      · intro h
        obtain ⟨k,a,h1,h2,h3,h4⟩:=readyL_mem h;obtain rfl:j=k:=by omega
        rw [ha] at h3;cases h3;exact h4
      · intro h
        exact isort_mem.2 (ready_in ha h _ hj (qlu _))
    have hm2:decide ((j:Int)∈readyL fl ts)=readyP fl ts fl[j]:=by
      cases q:readyP fl ts fl[j] with
      | true=>exact decide_eq_true (hm.2 q)
      | false=>exact decide_eq_false fun z=>by rw [hm.1 z] at q;cases q
    rw [hm2,ht,usP,inR];have hr:readyP fl ts fl[j]=(availB fl[j] && decide (0≤Tm.at_ ts fl[j].2.2.1.toNat)):=rfl;rw [hr,Bool.and_assoc]
  · rw [qlp (by rw [ub_len];omega),qlp (by rw [ql7];omega)]
theorem usable_us (ts:List Int) (limit:Int):∀fl:List TA,usable (triL fl (fl.map (usP ts limit)))=usN fl ts limit
  | []=>rfl
  | a::fl=>by
    have h:=usable_us ts limit fl;rw [usable,triL,List.map_cons,List.zipWith_cons_cons,List.filterMap_cons,usN,usL,qmd];rw [usable,triL,usN,usL] at h;cases hp:usP ts limit a with
    | true=>simp only [hp,if_true,List.map_cons];rw [h]
    | false=>simp only [hp,Bool.false_eq_true,if_false];rw [h]
theorem need_nn {need:List Int} (hn:(need.length=4∧∀x∈need,0≤x∧x≤6)):∀x∈need,0≤x:=fun x hx=>(hn.2 x hx).1
theorem oth_spec {fl:List TA} {ts need:List Int} {limit:Int} (hn:(need.length=4∧∀x∈need,0≤x∧x≤6)):TR (dbT need ((triL fl (ubAt fl ts limit (readyL fl ts))).drop 0)) (full need (usN fl ts limit)):=by
  have h:=dbT_tr (triL fl (ubAt fl ts limit (readyL fl ts))) need (need_nn hn);rw [ub_full,usable_us] at h;rw [List.drop_zero,ub_full];exact h
theorem oth_impl {fl:List TA} {ts need:List Int} {limit:Int}:TR (extI need (((usL fl ts limit).drop 0).map fun a=>(a.1,a.2.1)) [] []) (full need (usN fl ts limit)):=by
  have h:=extI_tr (usN fl ts limit) need [] [];rw [List.nil_append] at h;have e:(full need (usN fl ts limit)).map (([]:List ByteArray)++·)=full need (usN fl ts limit):=by
    rw [show (fun x:List ByteArray=>([]:List ByteArray)++x)=id from funext fun x=>rfl,List.map_id]
  rw [e] at h;rw [List.drop_zero];exact h
theorem tr_in {a b:List (List ByteArray)} (h:TR a b):(20 < a.length↔20 < b.length)∧(¬20 < a.length→a=b):=by
  rcases h with rfl | ⟨h1,h2⟩
  · exact ⟨Iff.rfl,fun _=>rfl⟩
  · exact ⟨⟨fun _=>h2,fun _=>h1⟩,fun q=>absurd h1 q⟩
theorem us_take {fl:List TA} {ts:List Int} {limit:Int} {i:Nat} {x:TA} (h:fl[i]? =some x):usL (fl.take (i+1)) ts limit=if usP ts limit x=true then usL (fl.take i) ts limit++[x] else usL (fl.take i) ts limit:=by
  rw [usL,qme,h,Option.toList,List.filter_append];cases hp:usP ts limit x with
  | true=>rw [if_pos rfl,qmd,if_pos hp];rfl
  | false=>rw [if_neg (by decide),qmd,if_neg (by rw [hp];decide),List.filter_nil,ql6];rfl
theorem us_len (fl:List TA) (ts:List Int) (limit:Int):(usL fl ts limit).length≤fl.length:=List.length_filter_le ..
theorem us_sub {fl:List TA} {ts:List Int} {limit:Int} {a:TA} (h:a∈usL fl ts limit):a∈fl:=(List.mem_filter.1 h).1
theorem oth_len {n:Int} {ss:List TS} {fl:List TA} {node:Int} {need:List Int} {limit:Int} (hfl:fl.length≤12):∀r∈othAll n ss fl node need limit,r.length≤12:=by
  intro r hr;have h:=full_len hr;rw [usN,ql7] at h;have:=us_len fl (tmL n ss node) limit;omega
theorem snoc_ap {l:List TA} {x:TA}:l.map (fun t:TA=>V.agg [V.str t.1,V.int .i64 t.2.1,V.int .i64 t.2.2.1,V.int .i64 t.2.2.2.1,V.int .i64 t.2.2.2.2])++[(fun t:TA=>V.agg [V.str t.1,V.int .i64 t.2.1,V.int .i64 t.2.2.1,V.int .i64 t.2.2.2.1,V.int .i64 t.2.2.2.2]) x]=(l++[x]).map (fun t:TA=>V.agg [V.str t.1,V.int .i64 t.2.1,V.int .i64 t.2.2.1,V.int .i64 t.2.2.2.1,V.int .i64 t.2.2.2.2]):=by rw [ql1];rfl
set_option maxRecDepth 8000 in
theorem specOther_con (n:Int) (ss:List TS) (fl:List TA) (node:Int) (need:List Int) (limit:Int) (hs:ss.length≤1048576) (hl:fl.length≤1048576) (hls:∀t∈fl,t.1.size≤9223372036854775807) (hne:need.length≤1048576):Con Tryz.prog 7 [.agg [.int .i64 n,.sl (ss.map (fun t:TS=>V.agg [V.int .i64 t.1,V.int .i64 t.2.1,V.int .i64 t.2.2]))],.sl (fl.map (fun t:TA=>V.agg [V.str t.1,V.int .i64 t.2.1,V.int .i64 t.2.2.1,V.int .i64 t.2.2.2.1,V.int .i64 t.2.2.2.2])),.int .i64 node,.sl (need.map (V.int .i64)),.int .i64 limit] [] (.tup [.ref 0,.bool (othB n ss fl node need limit)]) [.arr ((othR n ss fl node need limit).map (fun l:List ByteArray=>V.sl (l.map V.str))) (fillK (othR n ss fl node need limit).length)]:=by
 refine v_con [.tmp 10,.tmp 11] [] Tryz.func7 rfl rfl rfl (by simp [Tryz.ntmps7]) ?_;intro Q0 n0 r0;simp only [Tryz.ntmps7,envFrom,Nat.reduceAdd];have T:=Tys.mk (ai Ty.t3 (ai Ty.t4 (ai Ty.t9 (ai Ty.t24 (ai Ty.t26 (ai Ty.t27 (ai Ty.t28 (ai Ty.t31 (ai Ty.t38 (ai Ty.t65 (ai Ty.t72 Ty.t98)))))))))));have F:=Fc.mk True.intro;refine yR [1,2,3,4,5] ⟨?_⟩;refine v_seq ?_;intros;refine yRcgg [1,2,3,4,5,32] (dsAsked_con n ss fl node hs hl hls) (tbNeed_con need hne) (dsLimit_con limit) ⟨?_⟩;refine v_condS _ rfl ?_ ?_
 ·intro hc0;have hh:(askD n ss fl node && (need4 need && inR limit 0 36000))=false:=by cases hq:(askD n ss fl node && (need4 need && inR limit 0 36000)) with | false=>rfl | true=>(exfalso;simp [askD,inR] at hq hc0;first | (simp_all;done) | (simp_all [askD];done) | (simp_all;omega))
  have hB:othB n ss fl node need limit=false:=by rw [othB,hh];rfl
  have hR0:othR n ss fl node need limit=[]:=by rw [othR,hB];rfl
  refine yR [10,11] ⟨?_⟩;refine zr ⟨?_⟩;rw [hB,hR0];exact ret_ref_tup rfl rfl rfl (.inl rfl)
 ·intro hc0;have hH:askD n ss fl node=true∧need4 need=true∧inR limit 0 36000=true:=by first | exact hc0 | (simp [askD,inR] at hc0⊢;first | exact hc0 | (simp_all;done) | (simp_all;omega))
  obtain ⟨hask,hnd,hlm⟩:=hH;have hK:(askD n ss fl node && (need4 need && inR limit 0 36000))=true:=by rw [hask,hnd,hlm];rfl
  have hn:=need4_facts hnd;obtain ⟨hd,hu⟩:=ask_facts hask;have hfl:=hd.hfl;obtain ⟨ts,hts⟩:∃ts,ts=tmL n ss node:=⟨_,rfl⟩;obtain ⟨rl,hrl⟩:∃rl,rl=readyL fl ts:=⟨_,rfl⟩;have hrll:=readyL_len fl ts;rw [←hrl] at hrll;have hrv:∀{y:Int},y∈rl→∃k:Nat,y=(k:Int)∧k < fl.length:=by
   intro y hy;rw [hrl] at hy;obtain ⟨k,x,h1,h2,_⟩:=readyL_mem hy;exact ⟨k,h1,h2⟩
  have htr:=oth_spec (fl:=fl) (ts:=ts) (limit:=limit) hn;rw [←hrl] at htr;have hoa:othAll n ss fl node need limit=full need (usN fl ts limit):=by rw [othAll,hts]
  rw [←hoa] at htr;have hti:=tr_in htr;have hdb:Con Tryz.prog 35 [.sl (fl.map (fun t:TA=>V.agg [V.str t.1,V.int .i64 t.2.1,V.int .i64 t.2.2.1,V.int .i64 t.2.2.2.1,V.int .i64 t.2.2.2.2])),.sl ((ubAt fl ts limit rl).map V.bool),.int .i64 0,.sl (need.map (V.int .i64))] [] (.ref 0) [.arr ((dbT need ((triL fl (ubAt fl ts limit rl)).drop 0)).map (fun l:List ByteArray=>V.sl (l.map V.str))) (fillK (dbT need ((triL fl (ubAt fl ts limit rl)).drop 0)).length)]:=dbChoices_con fl (ubAt fl ts limit rl) hfl (ub_len ..) (fun a ha=>(hd.hap a ha).1) need 0 hn (qlk _);have hdl:=dbT_le need ((triL fl (ubAt fl ts limit rl)).drop 0);rw [qmh,tri_len (ub_len ..)] at hdl;generalize dbT need ((triL fl (ubAt fl ts limit rl)).drop 0)=out at hdb htr hti hdl;refine zn [1,2,3,4,5] ⟨?_⟩;refine yRc [1,3,4,12,13] ((hrl ▸ hts ▸ dsReady_con n ss fl node hd hu:Con _ _ _ _ _ [.arr (rl.map (V.int .i64)) .flat,.arr ((allT fl ts).map (V.int .i64)) .flat])) ⟨?_⟩;refine yR [1,3,4,12,13,14] ⟨?_⟩;refine v_seq ?_;intros;refine yR [1,3,4,13,14,43,44,45] ⟨?_⟩;refine v_block ?_;intros;refine v_loop (fun i=>⟨[(1,.sl (fl.map (fun t:TA=>V.agg [V.str t.1,V.int .i64 t.2.1,V.int .i64 t.2.2.1,V.int .i64 t.2.2.2.1,V.int .i64 t.2.2.2.2]))),(3,.sl (need.map (V.int .i64))),(4,.int .i64 limit),(13,.ref 1),(14,.ref 2),(43,.ref 0),(44,.int .i64 rl.length),(45,.int .i64 (Nat.cast i))],[.arr (rl.map (V.int .i64)) .flat,.arr ((allT fl ts).map (V.int .i64)) .flat,.arr ((ubAt fl ts limit (rl.take i)).map V.bool) .flat],false,67,0⟩) (fun i=>i≤rl.length) (fun i=>rl.length - i) 0 ?_ ?_ ?_
  ·refine weak_bothS [1,3,4,13,14,43,44,45] [2,3,4] ⟨?_⟩;rw [List.take_zero,ub_zero,List.map_replicate];rfl
  ·exact qlk _
  ·rintro i hok11 Q11 n11 e11 r11;have hi1:i≤rl.length:=hok11;refine yR [1,3,4,13,14,43,44,45,46] ⟨?_⟩;refine v_seq ?_;intros;refine v_condS _ rfl ?_ ?_
   ·intro hc1;have hlt:i < rl.length:=by omega
    obtain ⟨y,hy⟩:∃y,rl[i]? =some y:=⟨_,qla hlt⟩;obtain ⟨k1,hyk,hkl⟩:=hrv (qlb hy);subst hyk;obtain ⟨p,hp⟩:∃p,(allT fl ts)[k1]? =some p:=⟨_,qla (by rw [allT_len];exact hkl)⟩;have hub:=ub_step (limit:=limit) hy hkl hp;have hul:=ub_len fl ts limit (rl.take i);obtain ⟨u,hu⟩:∃u,(ubAt fl ts limit (rl.take i))[k1]? =some u:=⟨_,ub_at hkl⟩;refine zn [1,3,4,13,14,43,44,45] ⟨?_⟩;refine v_seq ?_;intros;refine v_block ?_;intros;have F:=Fc.mk (ai (gdm hy) (ai (gdm hp) (ai (gdm hu) (ai @allT_len (ai hul (ai @set_map hub))))));refine yR [1,3,4,13,14,16,43,44,45] ⟨?_⟩;refine yQ [1,3,4,13,14,43,44,45] ⟨?_⟩;refine yV ⟨?_⟩;refine n11 _ (i+1) ?_ ?_ ?_
    ·refine weak_bothS [1,3,4,13,14,43,44,45] [0,1,2] ⟨?_⟩;rfl
    ·exact hlt
    ·show _ < _;omega
   ·intro hc1;have hend:i=rl.length:=by omega
    subst hend;rw [List.take_length];refine zn [1,3,14] ⟨?_⟩;refine yRc [17] (hdb) ⟨?_⟩;refine v_seq ?_;intros;refine yR [17,65] ⟨?_⟩;refine v_condS _ rfl ?_ ?_
    ·intro hc2;have hB:othB n ss fl node need limit=false:=by rw [othB,hK,decide_eq_true (hti.1.1 (by omega))];rfl
     have hR1:othR n ss fl node need limit=[]:=by rw [othR,hB];rfl
     refine yR [10,11] ⟨?_⟩;refine zr ⟨?_⟩;rw [hB,hR1];exact ret_ref_tup rfl rfl rfl (.inl rfl)
    ·intro hc2;have hB:othB n ss fl node need limit=true:=by rw [othB,hK,decide_eq_false (fun q=>absurd (hti.1.2 q) (by omega))];rfl
     have hR1:othR n ss fl node need limit=out:=by rw [othR,if_pos hB];exact (hti.2 (by omega)).symm
     refine zn [17] ⟨?_⟩;refine yR [10,11] ⟨?_⟩;refine zr ⟨?_⟩;rw [hB,hR1];exact rta
set_option maxRecDepth 8000 in
theorem implOth_con (n:Int) (ss:List TS) (fl:List TA) (node:Int) (hd:DsFacts n ss fl) (hu:0≤node∧node < n) (need:List Int) (limit:Int) (hn:(need.length=4∧∀x∈need,0≤x∧x≤6)):Con Tryz.prog 30 [.pv [.agg [.int .i64 n,.sl (ss.map (fun t:TS=>V.agg [V.int .i64 t.1,V.int .i64 t.2.1,V.int .i64 t.2.2]))]] 0 0,.sl (fl.map (fun t:TA=>V.agg [V.str t.1,V.int .i64 t.2.1,V.int .i64 t.2.2.1,V.int .i64 t.2.2.2.1,V.int .i64 t.2.2.2.2])),.int .i64 node,.sl (need.map (V.int .i64)),.int .i64 limit] [] (.tup [.ref 0,.bool (!decide (20 < (othAll n ss fl node need limit).length))]) [.arr ((if 20 < (othAll n ss fl node need limit).length then [] else (othAll n ss fl node need limit)).map (fun l:List ByteArray=>V.sl (l.map V.str))) (fillK (if 20 < (othAll n ss fl node need limit).length then [] else (othAll n ss fl node need limit)).length)]:=by
 have hfl:=hd.hfl;obtain ⟨ts,hts⟩:∃ts,ts=tmL n ss node:=⟨_,rfl⟩;have htl:ts.length=n.toNat:=by rw [hts,times_len]
 have htb:=tm_facts hd.hn hu hd.hss hd.hsl;rw [←hts] at htb;have hn14:=hd.hn;have hsn:∀nid,Vm.settle nid V.nfn=(V.nfn,[]):=fun _=>rfl
 refine v_con [.tmp 10,.tmp 11] [(64,[2,3,4,5,1])] Tryz.func30 rfl rfl rfl (by simp [Tryz.ntmps30]) ?_;intro Q0 n0 r0;simp only [Tryz.ntmps30,envFrom,Nat.reduceAdd];have T:=Tys.mk (ai Ty.t3 (ai Ty.t4 (ai Ty.t9 (ai Ty.t24 (ai Ty.t26 (ai Ty.t27 (ai Ty.t28 (ai Ty.t31 (ai Ty.t38 (ai Ty.t59 (ai Ty.t72 (ai Ty.t91 Ty.t98))))))))))));have F:=Fc.mk True.intro;have F:=Fc.mk hsn;refine yR [0,1,2,3,4] ⟨?_⟩;refine yRc [1,3,4,12] ((hts ▸ tTimes_con n ss node hd.hn hu hd.hss hd.hsl:Con _ _ _ _ _ [.arr (ts.map (V.int .i64)) .flat])) ⟨?_⟩;refine yR [1,3,4,12,13] ⟨?_⟩;refine v_seq ?_;intros;refine yR [3,4,12,13,22,23,24] ⟨?_⟩;refine v_block ?_;intros;refine v_loop (fun i=>⟨[(3,.sl (need.map (V.int .i64))),(4,.int .i64 limit),(12,.ref 0),(13,.ptr 1 0 0),(22,.sl (fl.map (fun t:TA=>V.agg [V.str t.1,V.int .i64 t.2.1,V.int .i64 t.2.2.1,V.int .i64 t.2.2.2.1,V.int .i64 t.2.2.2.2]))),(23,.int .i64 fl.length),(24,.int .i64 (Nat.cast i))],[.arr (ts.map (V.int .i64)) .flat,.box (.ref 2) .mix,.arr ((usL (fl.take i) ts limit).map (fun t:TA=>V.agg [V.str t.1,V.int .i64 t.2.1,V.int .i64 t.2.2.1,V.int .i64 t.2.2.2.1,V.int .i64 t.2.2.2.2])) .flat],false,53,0⟩) (fun i=>i≤fl.length) (fun i=>fl.length - i) 0 ?_ ?_ ?_
 ·refine weak_bothN [3,4,12,13,22,23,24] [1,3,2] ⟨?_⟩;rfl
 ·exact qlk _
 ·rintro i hok7 Q7 n7 e7 r7;have hi1:i≤fl.length:=hok7;refine yR [3,4,12,13,22,23,24,25] ⟨?_⟩;refine v_seq ?_;intros;refine v_condS _ rfl ?_ ?_
  ·intro hc0;have hlt:i < fl.length:=by omega
   obtain ⟨⟨x0,x1,x2,x3,x4⟩,hx⟩:∃x:TA,fl[i]? =some x:=⟨fl[i]'(by omega),qla (by omega)⟩;have hap:=hd.hap _ (qlb hx);simp only [] at hap;obtain ⟨w,hw⟩:=qlf hap.2.1;subst hw;obtain ⟨p,hp⟩:∃p,ts[w]? =some p:=⟨_,qla (by rw [htl];omega)⟩;have hwl:w < ts.length:=by rw [htl];omega
   have hpb:=htb w;rw [Tm.at_get hp] at hpb;have hst:=us_take (ts:=ts) (limit:=limit) hx;have hup:usP ts limit (x0,x1,(w:Int),x3,x4)=(availB (x0,x1,(w:Int),x3,x4) && inR p 0 limit):=by rw [usP];simp only [Int.toNat_natCast,Tm.at_get hp]
   have hul:=us_len (fl.take i) ts limit;have htl2:(fl.take i).length=i:=by rw [qls];omega
   refine zn [3,4,12,13,22,23,24] ⟨?_⟩;refine v_seq ?_;intros;refine v_block ?_;intros;have F:=Fc.mk (ai hsn (ai (gdm hx) (gdm hp)));refine yR [3,4,12,13,15,22,23,24] ⟨?_⟩;refine yRcg [3,4,12,13,15,22,23,24,38] (isAvailable_con x0 x1 (w:Int) x3 x4 hap.1) (inside_con p 0 limit) ⟨?_⟩;refine v_condS _ rfl ?_ ?_
   ·intro hc1;have hr1:usP ts limit (x0,x1,(w:Int),x3,x4)=true:=by rw [hup];simpa [inR] using hc1
    refine yQ [3,4,12,13,22,23,24] ⟨?_⟩;refine yV ⟨?_⟩;refine n7 _ (i+1) ?_ ?_ ?_
    ·refine weak_bothN [3,4,12,13,22,23,24] [0,1,5] ⟨?_⟩;rw [hst,if_pos hr1,←snoc_ap];rfl
    ·exact hlt
    ·show _ < _;omega
   ·intro hc1;have hr1:¬usP ts limit (x0,x1,(w:Int),x3,x4)=true:=by rw [hup];simpa [inR] using hc1
    refine zn [3,4,12,13,22,23,24] ⟨?_⟩;refine yV ⟨?_⟩;refine n7 _ (i+1) ?_ ?_ ?_
    ·refine weak_bothN [3,4,12,13,22,23,24] [0,1,2] ⟨?_⟩;rw [hst,if_neg hr1];rfl
    ·exact hlt
    ·show _ < _;omega
  ·intro hc0;have hend:i=fl.length:=by omega
   subst hend;rw [List.take_length];have htr:=oth_impl (fl:=fl) (ts:=ts) (need:=need) (limit:=limit);have hoa:othAll n ss fl node need limit=full need (usN fl ts limit):=by rw [othAll,hts]
   rw [←hoa] at htr;have hti:=tr_in htr;have husl:=us_len fl ts limit;have husk:∀a∈usL fl ts limit,0≤a.2.1∧a.2.1≤3:=fun a ha=>(hd.hap a (us_sub ha)).1
   have hxl:=extI_le need (((usL fl ts limit).drop 0).map fun a=>(a.1,a.2.1)) [] [] (by simp);have hnil:=extend_nil (usL fl ts limit) need 0 [] (by omega) husk hn (qlk _) (by simp) (fun b nd nms os _ h2 h3 h4 h5=>extend_con (usL fl ts limit) (by omega) husk b nd nms os h2 h3 h4 h5);generalize extI need (((usL fl ts limit).drop 0).map fun a=>(a.1,a.2.1)) [] []=out at htr hti hxl hnil;generalize usL fl ts limit=us at hnil husl husk⊢;refine zn [3,13] ⟨?_⟩;refine yRc [13,16] (cloneInt_con need (by have:=hn.1;omega)) ⟨?_⟩;refine yR [13,16,17] ⟨?_⟩;refine yR [13,16,17,18] ⟨?_⟩;refine v_seq ?_;intro Q22 n22 e22 r22;refine yV ⟨?_⟩;apply n22
   ·apply weak_trans (weak_keep [17,18] _);simp only [keep_mk,keepE_nil,keepE_cons,look_cons,look_nil,Nat.reduceEqDiff,reduceIte];refine weak_trans (u:=⟨[(17,.ptr 1 0 0),(18,.ptr 3 0 0)],[.box (slN (need.map (V.int .i64))) .deep,.box (slN (([]:List (List ByteArray)).map (fun l:List ByteArray=>V.sl (l.map V.str)))) .deep,.box (.sl (us.map (fun t:TA=>V.agg [V.str t.1,V.int .i64 t.2.1,V.int .i64 t.2.2.1,V.int .i64 t.2.2.2.1,V.int .i64 t.2.2.2.2]))) .shal,.box (.fn 64 [.ptr 0 0 0,.ptr 1 0 0,.ptr 2 0 0,.ptr 3 0 0]) .mix],false,53,0⟩) (weak_giveV 1 2 (us.map (fun t:TA=>V.agg [V.str t.1,V.int .i64 t.2.1,V.int .i64 t.2.2.1,V.int .i64 t.2.2.2.1,V.int .i64 t.2.2.2.2])) .flat rfl rfl (.inl rfl) (by decide)) ?_;refine weak_trans (weak_inB 5 3 (need.map (V.int .i64)) .mix .flat rfl (.inr rfl) rfl (by decide) (.inl rfl)) ?_;refine weak_trans (weak_inB 7 6 [] .mix .flat rfl (.inr rfl) rfl (by decide) (.inl rfl)) ?_;try simp only [List.set_cons_zero,List.set_cons_succ]
    exact weak_same [17,18] [5,7,1,8]
   try simp only [atSlot_cons,atSlot_nil,Nat.reduceEqDiff,reduceIte,List.set_cons_zero,List.set_cons_succ]
   refine v_seq ?_;intro Q24 n24 e24 r24;refine v_region ?_;intro K25 k25;refine zLoad ⟨?_⟩;refine v_op ?_;intro K k;simp only [zE,zM,aStepM,optable,set_some,Nat.reduceEqDiff,reduceIte,Nat.reduceLT,implies_true,forall_const,reduceCtorEq,V.ofValue,V.ofScalar,V.un,V.gd,aExec,lentIds,lendOf,argIds,List.flatMap_cons,List.getD_cons_zero,List.getD_cons_succ,Nat.beq_refl,‹Tys _›.h,‹Fc _›.h];repeat (refine andC ?_)
   refine aCall_self 4 (hnil) rfl rfl rfl (by decide) (by decide) (by simp [Blk.okS,V.onlyL,V.only,Nat.blt,fillK_mix]) rfl (by simp [Blk.okS,V.onlyL,V.only,Nat.blt,fillK_mix]) (qlh.1 rfl) ?_;refine k _ ?_;clear k K;simp only [zW,set_some,Nat.reduceEqDiff,reduceIte,setBlks,List.set_cons_zero,List.set_cons_succ];refine k25 _ ?_;apply n24
   ·apply weak_trans (weak_keep [17] _);simp only [keep_mk,keepE_nil,keepE_cons,look_cons,look_nil,Nat.reduceEqDiff,reduceIte];exact weak_outB 1 (out.map (fun l:List ByteArray=>V.sl (l.map V.str))) (fillK out.length) rfl kO0 kO1 rfl
   try simp only [atSlot_cons,atSlot_nil,Nat.reduceEqDiff,reduceIte,List.set_cons_zero,List.set_cons_succ]
   refine v_seq ?_;intros;refine yR [17,51] ⟨?_⟩;refine v_condS _ rfl ?_ ?_
   ·intro hc2;have hq:20 < (othAll n ss fl node need limit).length:=hti.1.1 (by omega);refine yR [10,11] ⟨?_⟩;refine zr ⟨?_⟩;rw [decide_eq_true hq,if_pos hq];exact ret_ref_tup rfl rfl rfl (.inl rfl)
   ·intro hc2;have hq:¬20 < (othAll n ss fl node need limit).length:=fun q=>absurd (hti.1.2 q) (by omega)
    have hoq:=hti.2 (by omega);refine zn [17] ⟨?_⟩;refine yR [10,11] ⟨?_⟩;refine zr ⟨?_⟩;rw [decide_eq_false hq,if_neg hq,←hoq];exact rta
set_option maxRecDepth 8000 in
theorem implOther_con (n:Int) (ss:List TS) (fl:List TA) (node:Int) (need:List Int) (limit:Int) (hs:ss.length≤1048576) (hl:fl.length≤1048576) (hls:∀t∈fl,t.1.size≤9223372036854775807) (hne:need.length≤1048576):Con Tryz.prog 6 [.agg [.int .i64 n,.sl (ss.map (fun t:TS=>V.agg [V.int .i64 t.1,V.int .i64 t.2.1,V.int .i64 t.2.2]))],.sl (fl.map (fun t:TA=>V.agg [V.str t.1,V.int .i64 t.2.1,V.int .i64 t.2.2.1,V.int .i64 t.2.2.2.1,V.int .i64 t.2.2.2.2])),.int .i64 node,.sl (need.map (V.int .i64)),.int .i64 limit] [] (.tup [.ref 0,.bool (othB n ss fl node need limit)]) [.arr ((othR n ss fl node need limit).map (fun l:List ByteArray=>V.sl (l.map V.str))) (fillK (othR n ss fl node need limit).length)]:=by
 refine v_con [.tmp 10,.tmp 11] [] Tryz.func6 rfl rfl rfl (by simp [Tryz.ntmps6]) ?_;intro Q0 n0 r0;simp only [Tryz.ntmps6,envFrom,Nat.reduceAdd];have T:=Tys.mk (ai Ty.t3 (ai Ty.t4 (ai Ty.t9 (ai Ty.t24 (ai Ty.t26 (ai Ty.t27 (ai Ty.t28 (ai Ty.t59 (ai Ty.t72 Ty.t98)))))))));have F:=Fc.mk True.intro;refine yR [1,2,3,4,5] ⟨?_⟩;refine v_seq ?_;intros;refine v_seqR [1,2,3,4,5,29] ?_;intro K3 k3;refine zMove ⟨?_⟩;refine zc (dispatchFits_con n ss fl hs hl hls) ⟨?_⟩;refine zUnOp ⟨?_⟩;refine zMove ⟨?_⟩;refine zgMove ⟨?_⟩;refine zgc (tHas_con n ss node) ⟨?_⟩;refine zgUnOp ⟨?_⟩;refine zq9 ⟨?_⟩;refine zgMove ⟨?_⟩;refine zgc (isNeed_con need hne) ⟨?_⟩;refine zgUnOp ⟨?_⟩;refine zq9 ⟨?_⟩;refine zgMove ⟨?_⟩;refine zgc (isLimit_con limit) ⟨?_⟩;refine zgUnOp ⟨?_⟩;refine zPick ⟨?_⟩;refine k3 _ ?_;refine zk ⟨?_⟩;refine v_condS _ rfl ?_ ?_
 ·intro hc0;have hh:(askD n ss fl node && (need4 need && inR limit 0 36000))=false:=by cases hq:(askD n ss fl node && (need4 need && inR limit 0 36000)) with | false=>rfl | true=>(exfalso;simp [askD,inR] at hq hc0;first | (simp_all;done) | (simp_all [askD];done) | (simp_all;omega))
  have hB:othB n ss fl node need limit=false:=by rw [othB,hh];rfl
  have hR0:othR n ss fl node need limit=[]:=by rw [othR,hB];rfl
  refine yR [10,11] ⟨?_⟩;refine zr ⟨?_⟩;rw [hB,hR0];exact ret_ref_tup rfl rfl rfl (.inl rfl)
 ·intro hc0;have hH:askD n ss fl node=true∧need4 need=true∧inR limit 0 36000=true:=by first | exact hc0 | (simp [askD,inR] at hc0⊢;first | exact hc0 | (simp_all;done) | (simp_all;omega))
  obtain ⟨hask,hnd,hlm⟩:=hH;have hK:(askD n ss fl node && (need4 need && inR limit 0 36000))=true:=by rw [hask,hnd,hlm];rfl
  have hn:=need4_facts hnd;obtain ⟨hd,hu⟩:=ask_facts hask;have hfl:=hd.hfl;have hB:othB n ss fl node need limit= !decide (20 < (othAll n ss fl node need limit).length):=by rw [othB,hK];rfl
  have hR1:othR n ss fl node need limit=(if 20 < (othAll n ss fl node need limit).length then [] else (othAll n ss fl node need limit)):=by
   rw [othR,hB]
   by_cases q:20 < (othAll n ss fl node need limit).length
   ·rw [decide_eq_true q,if_pos q];rfl
   ·rw [decide_eq_false q,if_neg q];rfl
  refine zn [1,2,3,4,5] ⟨?_⟩;refine yRc [10,11] (implOth_con n ss fl node hd hu need limit hn) ⟨?_⟩;refine zr ⟨?_⟩;rw [hB,hR1];exact ret_ref_tup rfl rfl rfl (fillK_or _)
end Go.Proofs.YtmhaafinhpopmaaGreat
