/- What functions compute. No condition. -/
import Derived.Test.YtmhaafinhpopmaaGreatX14
set_option linter.unusedSimpArgs false
set_option linter.unusedVariables false
set_option linter.defProp false
namespace Go.Proofs.YtmhaafinhpopmaaGreat
open Go Go.Vm
set_option maxHeartbeats 8000000
theorem pickF_is {fl:List TA} {s:List Int×List Int} {k kd:Nat} {x:TA} {v:Int} (hx:fl[k]? =some x) (hk:x.2.1=(kd:Int)) (hv:s.1[kd]? =some v):pickF fl s (k:Int)=if 0 < v then (s.1.set kd (v - 1),s.2++[(k:Int)]) else s:=by
  rw [pickF,ql2,hx];simp only [hk,Int.toNat_natCast,List.getD_eq_getElem?_getD,hv,Option.getD_some]
def choiceL (n:Int) (ss:List TS) (fl:List TA) (node:Int) (need:List Int):List Int×List Int:=pickL fl (readyL fl (tmL n ss node)) need
set_option maxRecDepth 8000 in
theorem choose_con (n:Int) (ss:List TS) (fl:List TA) (node:Int) (need:List Int) (hd:DsFacts n ss fl) (hu:0≤node∧node < n) (hn:need.length=4∧∀x∈need,0≤x∧x≤6):Con Tryz.prog 43 [.pv [.agg [.int .i64 n,.sl (ss.map (fun t:TS=>V.agg [V.int .i64 t.1,V.int .i64 t.2.1,V.int .i64 t.2.2]))]] 0 0,.sl (fl.map (fun t:TA=>V.agg [V.str t.1,V.int .i64 t.2.1,V.int .i64 t.2.2.1,V.int .i64 t.2.2.2.1,V.int .i64 t.2.2.2.2])),.int .i64 node,.sl (need.map (V.int .i64))] [] (.ref 0) [.arr ((choiceL n ss fl node need).2.map (V.int .i64)) .flat]:=by
 have hfl:=hd.hfl;obtain ⟨ts,hts⟩:∃ts,ts=tmL n ss node:=⟨_,rfl⟩;have htl:ts.length=n.toNat:=by rw [hts,times_len]
 have htb:=tm_facts hd.hn hu hd.hss hd.hsl;rw [←hts] at htb;have hn14:=hd.hn;obtain ⟨rl,hrl⟩:∃rl,rl=readyL fl ts:=⟨_,rfl⟩;have hrn:rl.length≤fl.length:=by rw [hrl];exact readyL_len fl ts
 rw [choiceL,←hts,←hrl];have hval:∀{y:Int},y∈rl→∃(k:Nat) (x:TA) (w:Nat),y=(k:Int)∧fl[k]? =some x∧x.2.2.1=(w:Int)∧w < ts.length:=by
  intro y hy;rw [hrl] at hy;obtain ⟨k,x,h1,h2,h3,_⟩:=readyL_mem hy;have hap:=hd.hap _ (qlb h3);obtain ⟨w,hw⟩:=qlf hap.2.1;exact ⟨k,x,w,h1,h3,hw,by rw [htl];omega⟩
 refine v_con [.tmp 8] [] Tryz.func43 rfl rfl rfl (by simp [Tryz.ntmps43]) ?_;intro Q0 n0 r0;simp only [Tryz.ntmps43,envFrom,Nat.reduceAdd];have T:=Tys.mk (ai Ty.t3 (ai Ty.t9 (ai Ty.t24 (ai Ty.t26 (ai Ty.t27 (ai Ty.t28 (ai Ty.t59 (ai Ty.t72 Ty.t98))))))));have F:=Fc.mk True.intro;refine yR [0,1,2,3] ⟨?_⟩;refine yRc [0,1,2,9] (cloneInt_con need (by omega)) ⟨?_⟩;refine yR [0,1,2,9,10] ⟨?_⟩;refine v_seq ?_;intros;refine yRc [1,9,10,18,19,20] ((hrl ▸ hts ▸ readyOrder_con n ss fl node hd hu:Con _ _ _ _ _ [.arr (rl.map (V.int .i64)) .flat])) ⟨?_⟩;refine v_block ?_;intros;refine v_loop (fun i=>⟨[(1,.sl (fl.map (fun t:TA=>V.agg [V.str t.1,V.int .i64 t.2.1,V.int .i64 t.2.2.1,V.int .i64 t.2.2.2.1,V.int .i64 t.2.2.2.2]))),(9,.ref 0),(10,.ref 1),(18,.ref 2),(19,.int .i64 rl.length),(20,.int .i64 (Nat.cast i))],[.arr ((pickL fl (rl.take i) need).1.map (V.int .i64)) .flat,.arr ((pickL fl (rl.take i) need).2.map (V.int .i64)) .flat,.arr (rl.map (V.int .i64)) .flat],false,49,0⟩) (fun i=>i≤rl.length) (fun i=>rl.length - i) 0 ?_ ?_ ?_
 ·refine weak_bothS [1,9,10,18,19,20] [1,2,3] ⟨?_⟩;rfl
 ·exact qlk _
 ·rintro i hok7 Q7 n7 e7 r7;have hi1:i≤rl.length:=hok7;refine yR [1,9,10,18,19,20,21] ⟨?_⟩;refine v_seq ?_;intros;refine v_condS _ rfl ?_ ?_
  ·intro hc0;have hlt:i < rl.length:=by omega
   obtain ⟨y,hy⟩:∃y,rl[i]? =some y:=⟨_,qla hlt⟩;have hv:=hval (qlb hy);have hst:=pick_step (fl:=fl) (need:=need) hy;obtain ⟨k,⟨x0,x1,x2,x3,x4⟩,w,rfl,hx,hvw,hvl⟩:=hv;simp only [] at hvw;subst hvw;obtain ⟨p,hp⟩:∃p,ts[w]? =some p:=⟨_,qla hvl⟩;have hkl:k < fl.length:=(qlc.1 hx).1;have ek:=key_is (ts:=ts) hx rfl hp;have hap:=hd.hap _ (qlb hx);simp only [] at hap;obtain ⟨kd,hkd⟩:=qlf hap.1.1;subst hkd;have hpk:=pick_facts (fl:=fl) hn (rl.take i);have hll:=hpk.1;have hol:=hpk.2.2.1;have hlt2:(rl.take i).length≤i:=List.length_take_le ..;obtain ⟨v,hv⟩:∃v,(pickL fl (rl.take i) need).1[kd]? =some v:=⟨_,qla (by omega)⟩;have hvb:=hpk.2.1 v (qlb hv);have hpf:=pickF_is (s:=(pickL fl (rl.take i) need)) hx rfl hv;refine zn [1,9,10,18,19,20] ⟨?_⟩;refine v_seq ?_;intros;refine v_block ?_;intros;have F:=Fc.mk (ai (gdm hx) (ai (gdm hy) (ai (gdm hv) (ai hll @set_map))));refine yR [1,9,10,12,18,19,20] ⟨?_⟩;refine yR [1,9,10,12,18,19,20,32] ⟨?_⟩;refine v_condS _ rfl ?_ ?_
   ·intro hc1;refine yR [1,9,10,12,18,19,20] ⟨?_⟩;refine yQ [1,9,10,18,19,20] ⟨?_⟩;refine yV ⟨?_⟩;refine n7 _ (i+1) ?_ ?_ ?_
    ·refine weak_bothS [1,9,10,18,19,20] [0,4,2] ⟨?_⟩;rw [hst,hpf,if_pos hc1,ql1];rfl
    ·exact hlt
    ·show _ < _;omega
   ·intro hc1;refine zn [1,9,10,18,19,20] ⟨?_⟩;refine yV ⟨?_⟩;refine n7 _ (i+1) ?_ ?_ ?_
    ·refine weak_bothS [1,9,10,18,19,20] [0,1,2] ⟨?_⟩;rw [hst,hpf,if_neg (by omega)];rfl
    ·exact hlt
    ·show _ < _;omega
  ·intro hc0;have hend:i=rl.length:=by omega
   subst hend;refine zn [10] ⟨?_⟩;refine yR [8] ⟨?_⟩;refine zr ⟨?_⟩;exact ret_refK rfl rfl (by rw [List.take_length])
set_option maxRecDepth 8000 in
theorem dsPick_con (n:Int) (ss:List TS) (fl:List TA) (node:Int) (need:List Int) (hd:DsFacts n ss fl) (hu:0≤node∧node < n) (hn:need.length=4∧∀x∈need,0≤x∧x≤6):Con Tryz.prog 36 [.agg [.int .i64 n,.sl (ss.map (fun t:TS=>V.agg [V.int .i64 t.1,V.int .i64 t.2.1,V.int .i64 t.2.2]))],.sl (fl.map (fun t:TA=>V.agg [V.str t.1,V.int .i64 t.2.1,V.int .i64 t.2.2.1,V.int .i64 t.2.2.2.1,V.int .i64 t.2.2.2.2])),.int .i64 node,.sl (need.map (V.int .i64))] [] (.tup [.ref 0,.ref 1,.ref 2]) [.arr ((choiceL n ss fl node need).2.map (V.int .i64)) .flat,.arr ((choiceL n ss fl node need).1.map (V.int .i64)) .flat,.arr ((allT fl (tmL n ss node)).map (V.int .i64)) .flat]:=by
 have hfl:=hd.hfl;obtain ⟨ts,hts⟩:∃ts,ts=tmL n ss node:=⟨_,rfl⟩;have htl:ts.length=n.toNat:=by rw [hts,times_len]
 have htb:=tm_facts hd.hn hu hd.hss hd.hsl;rw [←hts] at htb;have hn14:=hd.hn;obtain ⟨rl,hrl⟩:∃rl,rl=readyL fl ts:=⟨_,rfl⟩;have hrn:rl.length≤fl.length:=by rw [hrl];exact readyL_len fl ts
 rw [choiceL,←hts,←hrl];have hval:∀{y:Int},y∈rl→∃(k:Nat) (x:TA) (w:Nat),y=(k:Int)∧fl[k]? =some x∧x.2.2.1=(w:Int)∧w < ts.length:=by
  intro y hy;rw [hrl] at hy;obtain ⟨k,x,h1,h2,h3,_⟩:=readyL_mem hy;have hap:=hd.hap _ (qlb h3);obtain ⟨w,hw⟩:=qlf hap.2.1;exact ⟨k,x,w,h1,h3,hw,by rw [htl];omega⟩
 refine v_con [.tmp 8,.tmp 9,.tmp 10] [] Tryz.func36 rfl rfl rfl (by simp [Tryz.ntmps36]) ?_;intro Q0 n0 r0;simp only [Tryz.ntmps36,envFrom,Nat.reduceAdd];have T:=Tys.mk (ai Ty.t3 (ai Ty.t9 (ai Ty.t24 (ai Ty.t26 (ai Ty.t27 (ai Ty.t28 (ai Ty.t72 Ty.t98)))))));have F:=Fc.mk True.intro;refine yR [1,2,3,4] ⟨?_⟩;refine yRc [1,3,11,12] ((hrl ▸ hts ▸ dsReady_con n ss fl node hd hu:Con _ _ _ _ _ [.arr (rl.map (V.int .i64)) .flat,.arr ((allT fl ts).map (V.int .i64)) .flat])) ⟨?_⟩;refine yRc [1,11,12,13] (l1Own_con need (by omega)) ⟨?_⟩;refine yR [1,11,12,13,14] ⟨?_⟩;refine v_seq ?_;intros;refine yR [1,12,13,14,26,27,28] ⟨?_⟩;refine v_block ?_;intros;refine v_loop (fun i=>⟨[(1,.sl (fl.map (fun t:TA=>V.agg [V.str t.1,V.int .i64 t.2.1,V.int .i64 t.2.2.1,V.int .i64 t.2.2.2.1,V.int .i64 t.2.2.2.2]))),(12,.ref 1),(13,.ref 2),(14,.ref 3),(26,.ref 0),(27,.int .i64 rl.length),(28,.int .i64 (Nat.cast i))],[.arr (rl.map (V.int .i64)) .flat,.arr ((allT fl ts).map (V.int .i64)) .flat,.arr ((pickL fl (rl.take i) need).1.map (V.int .i64)) .flat,.arr ((pickL fl (rl.take i) need).2.map (V.int .i64)) .flat],false,59,0⟩) (fun i=>i≤rl.length) (fun i=>rl.length - i) 0 ?_ ?_ ?_
 ·refine weak_bothS [1,12,13,14,26,27,28] [4,5,6,7] ⟨?_⟩;rfl
 ·exact qlk _
 ·rintro i hok8 Q8 n8 e8 r8;have hi1:i≤rl.length:=hok8;refine yR [1,12,13,14,26,27,28,29] ⟨?_⟩;refine v_seq ?_;intros;refine v_condS _ rfl ?_ ?_
  ·intro hc0;have hlt:i < rl.length:=by omega
   obtain ⟨y,hy⟩:∃y,rl[i]? =some y:=⟨_,qla hlt⟩;have hv:=hval (qlb hy);have hst:=pick_step (fl:=fl) (need:=need) hy;obtain ⟨k,⟨x0,x1,x2,x3,x4⟩,w,rfl,hx,hvw,hvl⟩:=hv;simp only [] at hvw;subst hvw;obtain ⟨p,hp⟩:∃p,ts[w]? =some p:=⟨_,qla hvl⟩;have hkl:k < fl.length:=(qlc.1 hx).1;have ek:=key_is (ts:=ts) hx rfl hp;have hap:=hd.hap _ (qlb hx);simp only [] at hap;obtain ⟨kd,hkd⟩:=qlf hap.1.1;subst hkd;have hpk:=pick_facts (fl:=fl) hn (rl.take i);have hll:=hpk.1;have hol:=hpk.2.2.1;have hlt2:(rl.take i).length≤i:=List.length_take_le ..;obtain ⟨v,hv⟩:∃v,(pickL fl (rl.take i) need).1[kd]? =some v:=⟨_,qla (by omega)⟩;have hvb:=hpk.2.1 v (qlb hv);have hpf:=pickF_is (s:=(pickL fl (rl.take i) need)) hx rfl hv;refine zn [1,12,13,14,26,27,28] ⟨?_⟩;refine v_seq ?_;intros;refine v_block ?_;intros;have F:=Fc.mk (ai (gdm hx) (ai (gdm hy) (ai (gdm hv) (ai hll @set_map))));refine yR [1,12,13,14,16,26,27,28] ⟨?_⟩;refine yR [1,12,13,14,16,26,27,28,40] ⟨?_⟩;refine v_condS _ rfl ?_ ?_
   ·intro hc1;refine yR [1,12,13,14,16,26,27,28] ⟨?_⟩;refine yQ [1,12,13,14,26,27,28] ⟨?_⟩;refine yV ⟨?_⟩;refine n8 _ (i+1) ?_ ?_ ?_
    ·refine weak_bothS [1,12,13,14,26,27,28] [0,1,2,5] ⟨?_⟩;rw [hst,hpf,if_pos hc1,ql1];rfl
    ·exact hlt
    ·show _ < _;omega
   ·intro hc1;refine zn [1,12,13,14,26,27,28] ⟨?_⟩;refine yV ⟨?_⟩;refine n8 _ (i+1) ?_ ?_ ?_
    ·refine weak_bothS [1,12,13,14,26,27,28] [0,1,2,3] ⟨?_⟩;rw [hst,hpf,if_neg (by omega)];rfl
    ·exact hlt
    ·show _ < _;omega
  ·intro hc0;have hend:i=rl.length:=by omega
   subst hend;refine zn [12,13,14] ⟨?_⟩;refine yR [8,9,10] ⟨?_⟩;refine zr ⟨?_⟩;exact ret_gen [3,2,1] rfl rfl (by decide) rfl (by simp) (by simp [Blk.kindIs]) rfl
def calledA (a:TA):TA:=(a.1,a.2.1,a.2.2.1,a.2.2.2.1,1)
def calledTo (fl:List TA) (order:List Int):Nat→List TA
  | 0=>[]
  | m+1=>calledTo fl order m++(match fl[m]? with | some a=>[if (m:Int)∈order then calledA a else a] | none=>[])
theorem called_len (fl:List TA) (order:List Int):∀m,m≤fl.length→(calledTo fl order m).length=m
  | 0,_=>rfl
  | m+1,h=>by
    have:=called_len fl order m (by omega);rw [calledTo,qla (by omega:m < fl.length)];simp [this]
theorem called_yes {fl:List TA} {order:List Int} {i:Nat} {x:TA} (h:fl[i]? =some x) (ho:(i:Int)∈order):(calledTo fl order i++fl.drop i).set i (calledA x)=calledTo fl order (i+1)++fl.drop (i+1):=by
  have hi:i < fl.length:=(qlc.1 h).1;have hl:=called_len fl order i (by omega);rw [getElem_drop_cons h,List.set_append_right _ _ (by omega),hl,Nat.sub_self,List.set_cons_zero,calledTo,h];simp [ho]
theorem called_no {fl:List TA} {order:List Int} {i:Nat} {x:TA} (h:fl[i]? =some x) (ho:¬(i:Int)∈order):calledTo fl order i++fl.drop i=calledTo fl order (i+1)++fl.drop (i+1):=by
  rw [getElem_drop_cons h,calledTo,h];simp [ho]
theorem called_get {fl:List TA} {order:List Int} {i:Nat} {x:TA} (h:fl[i]? =some x):(calledTo fl order i++fl.drop i)[i]? =some x:=by
  have hi:i < fl.length:=(qlc.1 h).1;have hl:=called_len fl order i (by omega);rw [qlr (by omega),hl,Nat.sub_self,getElem_drop_cons h];rfl
theorem called_all {fl:List TA} {order:List Int} {i:Nat} (h:i≤fl.length):(calledTo fl order i++fl.drop i).length=fl.length:=by
  rw [qlm,called_len fl order i h,qmh];omega
theorem sent_len (fl:List TA) (order:List Int):∀m,(sentTo fl order m).length≤m
  | 0=>qlu _
  | m+1=>by
    have:=sent_len fl order m;rw [sentTo,qlm];split
    · split<;>simp<;>omega
    · simp;omega
set_option maxRecDepth 8000 in
theorem dsSend_con (fl:List TA) (order:List Int) (hl:fl.length≤1048576) (ho:order.length≤1048576):Con Tryz.prog 44 [.sl (fl.map (fun t:TA=>V.agg [V.str t.1,V.int .i64 t.2.1,V.int .i64 t.2.2.1,V.int .i64 t.2.2.2.1,V.int .i64 t.2.2.2.2])),.sl (order.map (V.int .i64))] [] (.tup [.ref 0,.ref 1]) [.arr ((calledTo fl order fl.length).map (fun t:TA=>V.agg [V.str t.1,V.int .i64 t.2.1,V.int .i64 t.2.2.1,V.int .i64 t.2.2.2.1,V.int .i64 t.2.2.2.2])) .flat,.arr ((sentTo fl order fl.length).map V.str) .flat]:=by
 have hns:(fl.map (fun t:TA=>V.agg [V.str t.1,V.int .i64 t.2.1,V.int .i64 t.2.2.1,V.int .i64 t.2.2.2.1,V.int .i64 t.2.2.2.2])).all V.noSl=true:=by rw [List.all_map,qlh];intro a _;rfl
 refine v_con [.tmp 4,.tmp 5] [] Tryz.func44 rfl rfl rfl (by simp [Tryz.ntmps44]) ?_;intro Q0 n0 r0;simp only [Tryz.ntmps44,envFrom,Nat.reduceAdd];have T:=Tys.mk (ai Ty.t3 (ai Ty.t4 (ai Ty.t9 (ai Ty.t27 (ai Ty.t28 (ai Ty.t38 Ty.t72))))));have F:=Fc.mk True.intro;have F:=Fc.mk hns;refine yR [0,1] ⟨?_⟩;refine yR [0,1,6] ⟨?_⟩;refine yR [0,1,6,7] ⟨?_⟩;refine v_seq ?_;intros;refine yR [1,6,7,13,14,15] ⟨?_⟩;refine v_block ?_;intros;refine v_loop (fun i=>⟨[(1,.sl (order.map (V.int .i64))),(6,.ref 0),(7,.ref 1),(13,.sl (fl.map (fun t:TA=>V.agg [V.str t.1,V.int .i64 t.2.1,V.int .i64 t.2.2.1,V.int .i64 t.2.2.2.1,V.int .i64 t.2.2.2.2]))),(14,.int .i64 fl.length),(15,.int .i64 (Nat.cast i))],[.arr ((calledTo fl order i++fl.drop i).map (fun t:TA=>V.agg [V.str t.1,V.int .i64 t.2.1,V.int .i64 t.2.2.1,V.int .i64 t.2.2.2.1,V.int .i64 t.2.2.2.2])) .flat,.arr ((sentTo fl order i).map V.str) .flat],false,36,0⟩) (fun i=>i≤fl.length) (fun i=>fl.length - i) 0 ?_ ?_ ?_
 ·refine weak_bothS [1,6,7,13,14,15] [3,4] ⟨?_⟩;simp [calledTo,sentTo]
 ·exact qlk _
 ·rintro i hok7 Q7 n7 e7 r7;have hi1:i≤fl.length:=hok7;refine yR [1,6,7,13,14,15,16] ⟨?_⟩;refine v_seq ?_;intros;refine v_condS _ rfl ?_ ?_
  ·intro hc0;have hlt:i < fl.length:=by omega
   obtain ⟨⟨x0,x1,x2,x3,x4⟩,hx⟩:∃x:TA,fl[i]? =some x:=⟨fl[i]'(by omega),qla (by omega)⟩;have hst:=sent_step (order:=order) hx;have hsl:=sent_len fl order i;have hcg:=called_get (order:=order) hx;have hca:=called_all (fl:=fl) (order:=order) hi1;have hsm:((calledTo fl order i++fl.drop i).map (fun t:TA=>V.agg [V.str t.1,V.int .i64 t.2.1,V.int .i64 t.2.2.1,V.int .i64 t.2.2.2.1,V.int .i64 t.2.2.2.2])).set i (V.agg [V.str x0,V.int .i64 x1,V.int .i64 x2,V.int .i64 x3,V.int .i64 1])=((calledTo fl order i++fl.drop i).set i (calledA (x0,x1,x2,x3,x4))).map (fun t:TA=>V.agg [V.str t.1,V.int .i64 t.2.1,V.int .i64 t.2.2.1,V.int .i64 t.2.2.2.1,V.int .i64 t.2.2.2.2]):=by have q:=List.map_set (f:=(fun t:TA=>V.agg [V.str t.1,V.int .i64 t.2.1,V.int .i64 t.2.2.1,V.int .i64 t.2.2.2.1,V.int .i64 t.2.2.2.2])) (l:=(calledTo fl order i++fl.drop i)) (i:=i) (a:=calledA (x0,x1,x2,x3,x4));exact q.symm
   refine zn [1,6,7,13,14,15] ⟨?_⟩;refine v_seq ?_;intros;refine v_block ?_;intros;refine v_seqR [1,6,7,8,9,13,14,15] ?_;intro K13 k13;have F:=Fc.mk (ai hns (ai (gdm hx) (ai (gdm hcg) (ai hca hsm))));refine zMove ⟨?_⟩;refine zIndexAddr ⟨?_⟩;refine zLoad ⟨?_⟩;refine zAlloc ⟨?_⟩;refine zAssign ⟨?_⟩;refine v_op ?_;intro K k;simp only [zE,zS,zJ,zL,zO,zN,aStepM,optable,set_some,Nat.reduceEqDiff,reduceIte,Nat.reduceLT,implies_true,forall_const,reduceCtorEq,V.ofValue,V.ofScalar,V.un,V.gd,aExec,aop,aStore,setCells,V.isVal,V.cells,kindOf,kindAll,V.noSl,V.noRef,gt_iff_lt,Nat.reduceAdd,Nat.reduceLeDiff,Nat.reduceMul,takeV,takeCell,takeCells,row_mk,Blk.row,killAll,Nat.reduceBEq,join_t,Tryz.underlying3,Ty.c3,Ty.a3,Tryz.underlying9,Ty.c9,Ty.a9,Tryz.underlying72,Ty.c72,Ty.a72,hns,getD_map hx,getD_map hcg,hca,hsm];repeat (refine ai (by first | omega | (intros;omega) | (intros;simp_all;done) | (simp [List.length_set];omega)) ?_)
   refine k _ ?_;clear k K;refine k13 _ ?_;refine zk ⟨?_⟩;refine yRc [1,6,7,8,9,13,14,15,22] (l1Has_con order (i:Int) ho) ⟨?_⟩;refine v_condS _ rfl ?_ ?_
   ·intro hc1;have hcy:=called_yes hx hc1;refine v_seqR [1,6,7,8,9,13,14,15] ?_;intro K16 k16;refine zFieldAddr ⟨?_⟩;refine v_op ?_;intro K k;simp only [zE,zS,zJ,zL,zO,zN,aStepM,optable,set_some,Nat.reduceEqDiff,reduceIte,Nat.reduceLT,implies_true,forall_const,reduceCtorEq,V.ofValue,V.ofScalar,V.un,V.gd,aExec,aop,aStore,setCells,V.isVal,V.cells,kindOf,kindAll,V.noSl,V.noRef,gt_iff_lt,Nat.reduceAdd,Nat.reduceLeDiff,Nat.reduceMul,takeV,takeCell,takeCells,row_mk,Blk.row,killAll,Nat.reduceBEq,join_t,Tryz.underlying3,Ty.c3,Ty.a3,hns,getD_map hx,getD_map hcg,hca,hsm];repeat (refine ai (by first | omega | (intros;omega) | (intros;simp_all;done) | (simp [List.length_set];omega)) ?_)
    refine k _ ?_;clear k K;refine k16 _ ?_;refine zk ⟨?_⟩;refine v_seqR [1,6,7,9,13,14,15] ?_;intro K17 k17;refine zq2 ⟨?_⟩;refine zLoad ⟨?_⟩;refine zIndexAddr ⟨?_⟩;refine v_op ?_;intro K k;simp only [zE,zS,zJ,zL,zO,zN,aStepM,optable,set_some,Nat.reduceEqDiff,reduceIte,Nat.reduceLT,implies_true,forall_const,reduceCtorEq,V.ofValue,V.ofScalar,V.un,V.gd,aExec,aop,aStore,setCells,V.isVal,V.cells,kindOf,kindAll,V.noSl,V.noRef,gt_iff_lt,Nat.reduceAdd,Nat.reduceLeDiff,Nat.reduceMul,takeV,takeCell,takeCells,row_mk,Blk.row,killAll,Nat.reduceBEq,join_t,Tryz.underlying3,Ty.c3,Ty.a3,Tryz.underlying9,Ty.c9,Ty.a9,Tryz.underlying72,Ty.c72,Ty.a72,hns,getD_map hx,getD_map hcg,hca,hsm];repeat (refine ai (by first | omega | (intros;omega) | (intros;simp_all;done) | (simp [List.length_set];omega)) ?_)
    refine k _ ?_;clear k K;refine k17 _ ?_;refine zk ⟨?_⟩;refine yQ [1,6,7,13,14,15] ⟨?_⟩;refine yV ⟨?_⟩;refine n7 _ (i+1) ?_ ?_ ?_
    ·refine weak_bothS [1,6,7,13,14,15] [0,4] ⟨?_⟩;rw [hcy,hst,if_pos hc1];simp only [List.map_append];rfl
    ·exact hlt
    ·show _ < _;omega
   ·intro hc1;have hcn:=called_no hx hc1;refine zn [1,6,7,13,14,15] ⟨?_⟩;refine yV ⟨?_⟩;refine n7 _ (i+1) ?_ ?_ ?_
    ·refine weak_bothS [1,6,7,13,14,15] [0,1] ⟨?_⟩;rw [hcn,hst,if_neg hc1];rfl
    ·exact hlt
    ·show _ < _;omega
  ·intro hc0;have hend:i=fl.length:=by omega
   subst hend;refine zn [6,7] ⟨?_⟩;refine yR [4,5] ⟨?_⟩;refine zr ⟨?_⟩;exact ret_gen [0,1] rfl rfl (by decide) rfl (by simp) (by simp [Blk.kindIs]) rfl
end Go.Proofs.YtmhaafinhpopmaaGreat
