/- What functions compute. No condition. -/
import Derived.Test.YtmhaafinhpopmaaGreatDoorX15
import Derived.Test.YtmhaafinhpopmaaGreatDoorX13
set_option linter.unusedSimpArgs false
set_option linter.unusedVariables false
set_option linter.defProp false
namespace Go.Proofs.YtmhaafinhpopmaaGreatDoor
open Go Go.Vm
set_option maxHeartbeats 8000000
set_option maxRecDepth 8000 in
theorem repeated1_con (y0:Int) (y1:Int) (y2:Int) (y3:Int) (y4:Int) (x0:Int) (x1:Int) (x2:Int) (x3:Int) (x4:Int) (wn:Int) (hy:cOne (y0,y1,y2,y3,y4)=true) (hx:cOne (x0,x1,x2,x3,x4)=true):Con Tryz.prog 59 [.agg [V.int .i64 y0,V.int .i64 y1,V.int .i64 y2,V.int .i64 y3,V.int .i64 y4],.pv [.agg [V.int .i64 x0,V.int .i64 x1,V.int .i64 x2,V.int .i64 x3,V.int .i64 x4]] 0 0,.pv [.int .i64 wn] 0 0] [] (.bool (befB wn (x0,x1,x2,x3,x4) (y0,y1,y2,y3,y4))) []:=by
 have hb1:=c_bounds hx;have hb2:=c_bounds hy;simp only [] at hb1 hb2;refine v_con [.tmp 4] [] Tryz.func59 rfl rfl rfl (by simp [Tryz.ntmps59]) ?_;intro Q0 n0 r0;simp only [Tryz.ntmps59,envFrom,Nat.reduceAdd];have T:=Tys.mk (ai Ty.t3 Ty.t26);have F:=Fc.mk True.intro;refine yR [1,2,3] ⟨?_⟩;refine yR [4] ⟨?_⟩;refine zr ⟨?_⟩;exact ret_pure rfl (by first | rfl | simp [befB]) (.inl rfl)
set_option maxRecDepth 8000 in
theorem implRepeated_con (l:List (Int×Int×Int×Int×Int)) (hl:l.length≤1048576) (wn:Int):Con Tryz.prog 12 [.sl (l.map (fun t:Int×Int×Int×Int×Int=>V.agg [V.int .i64 t.1,V.int .i64 t.2.1,V.int .i64 t.2.2.1,V.int .i64 t.2.2.2.1,V.int .i64 t.2.2.2.2])),.int .i64 wn] [] (.tup [.ref 0,.bool (rpB l wn)]) [.arr ((rpR l wn).map (V.int .i64)) .flat]:=by
 refine v_con [.tmp 4,.tmp 5] [] Tryz.func12 rfl rfl rfl (by simp [Tryz.ntmps12]) ?_;intro Q0 n0 r0;simp only [Tryz.ntmps12,envFrom,Nat.reduceAdd];have T:=Tys.mk (ai Ty.t3 (ai Ty.t4 (ai Ty.t24 (ai Ty.t26 (ai Ty.t35 Ty.t90)))));have F:=Fc.mk True.intro;refine yR [0,3] ⟨?_⟩;refine v_seq ?_;intros;refine yRcg [0,3,16] (areCalls_con l hl) (inside_con _ _ _) ⟨?_⟩;refine v_condS _ rfl ?_ ?_
 ·intro hc0;have hB:(rpB l wn)=false:=by
   cases hq:(rpB l wn) with
   |false=>rfl
   |true=>
    exfalso;rw [rpB,qlc,qlc,decide_eq_true_eq,decide_eq_true_eq] at hq;simp [hq.1,hq.2.1,hq.2.2] at hc0;try omega
  refine yR [4,5] ⟨?_⟩;refine zr ⟨?_⟩;have hz:(rpR l wn)=[]:=by rw [rpR,hB];rfl
  rw [hz,hB];exact ret_ref_tup rfl rfl rfl (.inl rfl)
 ·intro hc0;have hq:csB l=true∧(0≤wn∧wn≤120):=by
   (try simp at hc0)
   first | exact hc0 | exact ⟨hc0.2,hc0.1⟩ | (refine ⟨?_,?_⟩<;>simp_all)
  have hB:(rpB l wn)=true:=by rw [rpB,hq.1,decide_eq_true hq.2.1,decide_eq_true hq.2.2];rfl
  have hl20:=cs_len hq.1;have hea:=cs_each hq.1;have hRr:(rpR l wn)=rpTo l wn l.length:=if_pos hB;refine zn [0,3] ⟨?_⟩;refine yR [0,3,6] ⟨?_⟩;refine v_seq ?_;intros;refine yR [0,3,6,17,18,19] ⟨?_⟩;refine v_block ?_;intros;refine v_loop (fun i=>⟨[(0,.sl (l.map (fun t:Int×Int×Int×Int×Int=>V.agg [V.int .i64 t.1,V.int .i64 t.2.1,V.int .i64 t.2.2.1,V.int .i64 t.2.2.2.1,V.int .i64 t.2.2.2.2]))),(3,.ptr 0 0 0),(6,.ref 1),(17,.sl (l.map (fun t:Int×Int×Int×Int×Int=>V.agg [V.int .i64 t.1,V.int .i64 t.2.1,V.int .i64 t.2.2.1,V.int .i64 t.2.2.2.1,V.int .i64 t.2.2.2.2]))),(18,.int .i64 l.length),(19,.int .i64 (Nat.cast i))],[.box (.int .i64 wn) .flat,.arr ((rpTo l wn i).map (V.int .i64)) .flat],false,35,0⟩) (fun i=>i≤l.length) (fun i=>l.length - i) (0:Nat) ?_ ?_ ?_
  ·refine weak_bothS [0,3,6,17,18,19] [0,2] ⟨?_⟩;rfl
  ·exact qlo _
  ·rintro i hok10 Q10 n10 e10 r10;have hi1:i≤l.length:=hok10;refine yR [0,3,6,17,18,19,20] ⟨?_⟩;refine v_seq ?_;intros;refine v_condS _ rfl ?_ ?_
   ·intro hc1;have hlt:i < l.length:=by omega
    obtain ⟨⟨x0,x1,x2,x3,x4⟩,hx⟩:∃x:Int×Int×Int×Int×Int,l[i]? =some x:=⟨l[i]'(by omega),qla (by omega)⟩;have hxo:=c_bounds (hea _ (qlb hx));simp only [] at hxo;have hrl:=rpTo_len l wn i;have hst:=rpTo_step l wn i;rw [rpAt_at hx] at hst;have htk:(l.take i).length=i:=by rw [qlk];omega
    have hclos:∀y0 y1 y2 y3 y4,(y0,y1,y2,y3,y4)∈l.take i→Con Tryz.prog 59 (V.agg [V.int .i64 y0,V.int .i64 y1,V.int .i64 y2,V.int .i64 y3,V.int .i64 y4]::[.pv [.agg [V.int .i64 x0,V.int .i64 x1,V.int .i64 x2,V.int .i64 x3,V.int .i64 x4]] 0 0,.pv [.int .i64 wn] 0 0]) [] (.bool (befB wn (x0,x1,x2,x3,x4) (y0,y1,y2,y3,y4))) []:=fun y0 y1 y2 y3 y4 hm=>repeated1_con y0 y1 y2 y3 y4 x0 x1 x2 x3 x4 wn (hea _ (qlv hm)) (hea _ (qlb hx))
    refine zn [0,3,6,17,18,19] ⟨?_⟩;refine v_seq ?_;intros;refine v_block ?_;intros;have F:=Fc.mk (ai (gdm hx) htk);refine yR [0,3,6,7,8,17,18,19] ⟨?_⟩;refine yRc [0,3,6,7,17,18,19,28] (containsFuncCall_con (l.take i) _ _ (befB wn (x0,x1,x2,x3,x4)) (by omega) (.pv _ (.pv _ .nil)) hclos) ⟨?_⟩;refine v_condS _ rfl ?_ ?_
    ·intro hc2;rw [if_pos hc2] at hst;refine yQ [0,3,6,17,18,19] ⟨?_⟩;refine yV ⟨?_⟩;refine n10 _ (i+1) ?_ ?_ ?_
     ·refine weak_bothS [0,3,6,17,18,19] [0,4] ⟨?_⟩;rw [hst,ql5];rfl
     ·exact hlt
     ·show _ < _;omega
    ·intro hc2;rw [if_neg (by simpa using hc2),ql8] at hst;refine zn [0,3,6,17,18,19] ⟨?_⟩;refine yV ⟨?_⟩;refine n10 _ (i+1) ?_ ?_ ?_
     ·refine weak_bothS [0,3,6,17,18,19] [0,1] ⟨?_⟩;rw [hst];rfl
     ·exact hlt
     ·show _ < _;omega
   ·intro hc1;refine zn [6] ⟨?_⟩;refine yR [4,5] ⟨?_⟩;refine zr ⟨?_⟩;have hie:i=l.length:=by omega
    subst hie;rw [hRr,hB];exact ret_ref_tup rfl rfl rfl (.inl rfl)
set_option maxRecDepth 8000 in
theorem specRepeated_con (l:List (Int×Int×Int×Int×Int)) (hl:l.length≤1048576) (wn:Int):Con Tryz.prog 13 [.sl (l.map (fun t:Int×Int×Int×Int×Int=>V.agg [V.int .i64 t.1,V.int .i64 t.2.1,V.int .i64 t.2.2.1,V.int .i64 t.2.2.2.1,V.int .i64 t.2.2.2.2])),.int .i64 wn] [] (.tup [.ref 0,.bool (rpB l wn)]) [.arr ((rpR l wn).map (V.int .i64)) .flat]:=by
 refine v_con [.tmp 4,.tmp 5] [] Tryz.func13 rfl rfl rfl (by simp [Tryz.ntmps13]) ?_;intro Q0 n0 r0;simp only [Tryz.ntmps13,envFrom,Nat.reduceAdd];have T:=Tys.mk (ai Ty.t3 (ai Ty.t4 (ai Ty.t24 (ai Ty.t26 Ty.t35))));have F:=Fc.mk True.intro;refine yR [0,1] ⟨?_⟩;refine v_seq ?_;intros;refine yRcg [0,1,18] (clGood_con l hl) (clWindow_con wn) ⟨?_⟩;refine v_condS _ rfl ?_ ?_
 ·intro hc0;have hB:(rpB l wn)=false:=by
   cases hq:(rpB l wn) with
   |false=>rfl
   |true=>
    exfalso;rw [rpB,qlc,qlc,decide_eq_true_eq,decide_eq_true_eq] at hq;simp [hq.1,hq.2.1,hq.2.2] at hc0;try omega
  refine yR [4,5] ⟨?_⟩;refine zr ⟨?_⟩;have hz:(rpR l wn)=[]:=by rw [rpR,hB];rfl
  rw [hz,hB];exact ret_ref_tup rfl rfl rfl (.inl rfl)
 ·intro hc0;have hq:csB l=true∧(0≤wn∧wn≤120):=by
   (try simp at hc0)
   first | exact hc0 | exact ⟨hc0.2,hc0.1⟩ | (refine ⟨?_,?_⟩<;>simp_all)
  have hB:(rpB l wn)=true:=by rw [rpB,hq.1,decide_eq_true hq.2.1,decide_eq_true hq.2.2];rfl
  have hl20:=cs_len hq.1;have hea:=cs_each hq.1;have hRr:(rpR l wn)=rpTo l wn l.length:=if_pos hB;refine zn [0,1] ⟨?_⟩;refine yR [0,1,6] ⟨?_⟩;refine v_seq ?_;intros;refine yR [0,1,6,19,20,21] ⟨?_⟩;refine v_block ?_;intros;refine v_loop (fun i=>⟨[(0,.sl (l.map (fun t:Int×Int×Int×Int×Int=>V.agg [V.int .i64 t.1,V.int .i64 t.2.1,V.int .i64 t.2.2.1,V.int .i64 t.2.2.2.1,V.int .i64 t.2.2.2.2]))),(1,.int .i64 wn),(6,.ref 0),(19,.sl (l.map (fun t:Int×Int×Int×Int×Int=>V.agg [V.int .i64 t.1,V.int .i64 t.2.1,V.int .i64 t.2.2.1,V.int .i64 t.2.2.2.1,V.int .i64 t.2.2.2.2]))),(20,.int .i64 l.length),(21,.int .i64 (Nat.cast i))],[.arr ((rpTo l wn i).map (V.int .i64)) .flat],false,55,0⟩) (fun i=>i≤l.length) (fun i=>l.length - i) (0:Nat) ?_ ?_ ?_
  ·refine weak_bothS [0,1,6,19,20,21] [1] ⟨?_⟩;rfl
  ·exact qlo _
  ·rintro i hok10 Q10 n10 e10 r10;have hi1:i≤l.length:=hok10;refine yR [0,1,6,19,20,21,22] ⟨?_⟩;refine v_seq ?_;intros;refine v_condS _ rfl ?_ ?_
   ·intro hc1;have hlt:i < l.length:=by omega
    obtain ⟨⟨x0,x1,x2,x3,x4⟩,hx⟩:∃x:Int×Int×Int×Int×Int,l[i]? =some x:=⟨l[i]'(by omega),qla (by omega)⟩;have hxo:=c_bounds (hea _ (qlb hx));simp only [] at hxo;have hrl:=rpTo_len l wn i;have hst:=rpTo_step l wn i;rw [rpAt_at hx] at hst;have htk:(l.take i).length=i:=by rw [qlk];omega
    refine zn [0,1,6,19,20,21] ⟨?_⟩;refine v_seq ?_;intros;refine v_block ?_;intros;have F:=Fc.mk (ai (gdm hx) htk);refine yR [0,1,6,7,8,19,20,21] ⟨?_⟩;refine yR [0,1,6,7,8,19,20,21,28,29,30] ⟨?_⟩;refine v_block ?_;intros;refine v_loop (fun kk=>⟨[(0,.sl (l.map (fun t:Int×Int×Int×Int×Int=>V.agg [V.int .i64 t.1,V.int .i64 t.2.1,V.int .i64 t.2.2.1,V.int .i64 t.2.2.2.1,V.int .i64 t.2.2.2.2]))),(1,.int .i64 wn),(6,.ref 0),(7,.int .i64 (Nat.cast i)),(8,.ptr 1 0 0),(19,.sl (l.map (fun t:Int×Int×Int×Int×Int=>V.agg [V.int .i64 t.1,V.int .i64 t.2.1,V.int .i64 t.2.2.1,V.int .i64 t.2.2.2.1,V.int .i64 t.2.2.2.2]))),(20,.int .i64 l.length),(21,.int .i64 (Nat.cast i)),(28,.sl ((l.take i).map (fun t:Int×Int×Int×Int×Int=>V.agg [V.int .i64 t.1,V.int .i64 t.2.1,V.int .i64 t.2.2.1,V.int .i64 t.2.2.2.1,V.int .i64 t.2.2.2.2]))),(29,.int .i64 (Nat.cast i)),(30,.int .i64 (Nat.cast kk))],[.arr ((rpTo l wn i).map (V.int .i64)) .flat,.box (.agg [V.int .i64 x0,V.int .i64 x1,V.int .i64 x2,V.int .i64 x3,V.int .i64 x4]) .flat],false,55,0⟩) (fun kk=>kk≤i∧((l.take i).drop kk).any (befB wn (x0,x1,x2,x3,x4))=(l.take i).any (befB wn (x0,x1,x2,x3,x4))) (fun kk=>i - kk) (0:Nat) ?_ ?_ ?_
    ·refine weak_bothS [0,1,6,7,8,19,20,21,28,29,30] [0,1] ⟨?_⟩;rfl
    ·exact ⟨qlo _,rfl⟩
    ·rintro kk hok19 Q19 n19 e19 r19;obtain ⟨hk1,hK⟩:=hok19;refine yR [0,1,6,7,8,19,20,21,28,29,30,31] ⟨?_⟩;refine v_seq ?_;intros;refine v_condS _ rfl ?_ ?_
     ·intro hc2;have hltk:kk < i:=by omega
      obtain ⟨⟨y0,y1,y2,y3,y4⟩,hy⟩:∃x:Int×Int×Int×Int×Int,(l.take i)[kk]? =some x:=⟨(l.take i)[kk]'(by omega),qla (by omega)⟩;have hyo:=c_bounds (hea _ (qlv (qlb hy)));simp only [] at hyo;have hstk:((l.take i).drop kk).any (befB wn (x0,x1,x2,x3,x4))=(befB wn (x0,x1,x2,x3,x4) (y0,y1,y2,y3,y4) || ((l.take i).drop (kk+1)).any (befB wn (x0,x1,x2,x3,x4))):=by rw [getElem_drop_cons hy,List.any_cons]
      refine zn [0,1,6,7,8,19,20,21,28,29,30] ⟨?_⟩;refine v_seq ?_;intros;refine v_block ?_;intros;have F:=Fc.mk (ai (gdm hx) (ai htk (gdm hy)));refine yR [0,1,6,7,8,10,19,20,21,28,29,30] ⟨?_⟩;refine yR [0,1,6,7,8,19,20,21,28,29,30,47] ⟨?_⟩;refine v_condS _ rfl ?_ ?_
      ·intro hc3;have hyes:befB wn (x0,x1,x2,x3,x4) (y0,y1,y2,y3,y4)=true:=by rw [befB];simpa using hc3
       rw [if_pos (by rw [←hK,hstk,hyes];rfl)] at hst;refine yR [0,1,6,19,20,21] ⟨?_⟩;refine zn [0,1,6,19,20,21] ⟨?_⟩;refine yV ⟨?_⟩;refine n10 _ (i+1) ?_ ?_ ?_
       ·refine weak_bothS [0,1,6,19,20,21] [4] ⟨?_⟩;rw [hst,ql5];rfl
       ·exact hlt
       ·show _ < _;omega
      ·intro hc3;have hnb:befB wn (x0,x1,x2,x3,x4) (y0,y1,y2,y3,y4)=false:=by rw [befB];simpa using hc3
       refine zn [0,1,6,7,8,19,20,21,28,29,30] ⟨?_⟩;refine yV ⟨?_⟩;refine n19 _ (kk+1) ?_ ?_ ?_
       ·refine weak_bothS [0,1,6,7,8,19,20,21,28,29,30] [0,1] ⟨?_⟩;rfl
       ·exact ⟨hltk,by rw [←hK,hstk,hnb,Bool.false_or]⟩
       ·show _ < _;omega
     ·intro hc2;have hno:(l.take i).any (befB wn (x0,x1,x2,x3,x4))=false:=by rw [←hK,List.drop_of_length_le (by omega)];rfl
      rw [if_neg (by rw [hno];exact Bool.false_ne_true),ql8] at hst;refine zn [0,1,6,19,20,21] ⟨?_⟩;refine yV ⟨?_⟩;refine n10 _ (i+1) ?_ ?_ ?_
      ·refine weak_bothS [0,1,6,19,20,21] [0] ⟨?_⟩;rw [hst];rfl
      ·exact hlt
      ·show _ < _;omega
   ·intro hc1;refine zn [6] ⟨?_⟩;refine yR [4,5] ⟨?_⟩;refine zr ⟨?_⟩;have hie:i=l.length:=by omega
    subst hie;rw [hRr,hB];exact ret_ref_tup rfl rfl rfl (.inl rfl)
end Go.Proofs.YtmhaafinhpopmaaGreatDoor
