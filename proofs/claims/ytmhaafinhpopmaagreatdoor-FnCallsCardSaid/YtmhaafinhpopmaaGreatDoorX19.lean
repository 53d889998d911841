/- What functions compute. No condition. -/
import Derived.Test.YtmhaafinhpopmaaGreatDoorX15
set_option linter.unusedSimpArgs false
set_option linter.unusedVariables false
set_option linter.defProp false
namespace Go.Proofs.YtmhaafinhpopmaaGreatDoor
open Go Go.Vm
set_option maxHeartbeats 8000000
set_option maxRecDepth 8000 in
theorem implBusiest_con (l:List (Int×Int×Int×Int×Int)) (hl:l.length≤1048576) (n:Int):Con Tryz.prog 17 [.sl (l.map (fun t:Int×Int×Int×Int×Int=>V.agg [V.int .i64 t.1,V.int .i64 t.2.1,V.int .i64 t.2.2.1,V.int .i64 t.2.2.2.1,V.int .i64 t.2.2.2.2])),.int .i64 n] [] (.tup [.int .i64 (bwV l n).1,.int .i64 (Nat.cast (bwV l n).2),.bool (bwB l n)]) []:=by
 refine v_con [.tmp 4,.tmp 5,.tmp 6] [] Tryz.func17 rfl rfl rfl (by simp [Tryz.ntmps17]) ?_;intro Q0 n0 r0;simp only [Tryz.ntmps17,envFrom,Nat.reduceAdd];have T:=Tys.mk (ai Ty.t3 (ai Ty.t4 (ai Ty.t24 Ty.t26)));have F:=Fc.mk True.intro;refine yR [0,1] ⟨?_⟩;refine v_seq ?_;intros;refine yRcg [0,1,26] (areCalls_con l hl) (inside_con _ _ _) ⟨?_⟩;refine v_condS _ rfl ?_ ?_
 ·intro hc0;have hB:(bwB l n)=false:=by
   cases hq:(bwB l n) with
   |false=>rfl
   |true=>
    exfalso;rw [bwB,qlc,qlc,qlc,decide_eq_true_eq,decide_eq_true_eq,decide_eq_true_eq] at hq;have hz:l≠[]:=by intro e;rw [e] at hq;simp at hq
    simp [hq.1.1,hq.1.2.1,hq.1.2.2,hz] at hc0;try omega
  refine yR [4,5,6] ⟨?_⟩;refine zr ⟨?_⟩;exact ret_pure rfl (by rw [bwV,hB];rfl) (.inl rfl)
 ·intro hc0;have hq:(csB l=true∧(1≤n∧n≤1000))∧0 < l.length:=by
   cases l with
   |nil=>(exfalso;simp at hc0)
   |cons y0 l0=>
    (try simp at hc0)
    refine ⟨⟨?_,?_,?_⟩,by simp⟩<;>first | (simp_all;done) | (simp_all;omega)
  have hB:(bwB l n)=true:=by rw [bwB,hq.1.1,decide_eq_true hq.1.2.1,decide_eq_true hq.1.2.2,decide_eq_true hq.2];rfl
  have hl20:=cs_len hq.1.1;have hea:=cs_each hq.1.1;refine zn [0,1] ⟨?_⟩;refine yR [0,1,7,8] ⟨?_⟩;refine v_seq ?_;intros;refine yR [0,1,7,8,27,28,29] ⟨?_⟩;refine v_block ?_;intros;refine v_loop (fun i=>⟨[(0,.sl (l.map (fun t:Int×Int×Int×Int×Int=>V.agg [V.int .i64 t.1,V.int .i64 t.2.1,V.int .i64 t.2.2.1,V.int .i64 t.2.2.2.1,V.int .i64 t.2.2.2.2]))),(1,.int .i64 n),(7,.int .i64 (bwTo l n i).1),(8,.int .i64 (Nat.cast (bwTo l n i).2)),(27,.sl (l.map (fun t:Int×Int×Int×Int×Int=>V.agg [V.int .i64 t.1,V.int .i64 t.2.1,V.int .i64 t.2.2.1,V.int .i64 t.2.2.2.1,V.int .i64 t.2.2.2.2]))),(28,.int .i64 l.length),(29,.int .i64 (Nat.cast i))],[],false,61,0⟩) (fun i=>i≤l.length) (fun i=>l.length - i) (0:Nat) ?_ ?_ ?_
  ·refine weak_bothS [0,1,7,8,27,28,29] [] ⟨?_⟩;rfl
  ·exact qlo _
  ·rintro i hok10 Q10 n10 e10 r10;have hi1:i≤l.length:=hok10;refine yR [0,1,7,8,27,28,29,30] ⟨?_⟩;refine v_seq ?_;intros;refine v_condS _ rfl ?_ ?_
   ·intro hc1;have hlt:i < l.length:=by omega
    obtain ⟨⟨x0,x1,x2,x3,x4⟩,hx⟩:∃x:Int×Int×Int×Int×Int,l[i]? =some x:=⟨l[i]'(by omega),qla (by omega)⟩;have hxo:=c_bounds (hea _ (qlb hx));simp only [] at hxo;have hst:=bwTo_step (n:=n) hx;dsimp only at hst;have hbl:=bwTo_le l n i;refine zn [0,1,7,8,27,28,29] ⟨?_⟩;refine v_seq ?_;intros;refine v_block ?_;intros;have F:=Fc.mk (gdm hx);refine yR [0,1,7,8,10,27,28,29] ⟨?_⟩;refine yR [0,1,7,8,10,11,27,28,29] ⟨?_⟩;refine v_seq ?_;intros;refine yR [0,1,7,8,10,11,27,28,29,33,34,35] ⟨?_⟩;refine v_block ?_;intros;refine v_loop (fun jj=>⟨[(0,.sl (l.map (fun t:Int×Int×Int×Int×Int=>V.agg [V.int .i64 t.1,V.int .i64 t.2.1,V.int .i64 t.2.2.1,V.int .i64 t.2.2.2.1,V.int .i64 t.2.2.2.2]))),(1,.int .i64 n),(7,.int .i64 (bwTo l n i).1),(8,.int .i64 (Nat.cast (bwTo l n i).2)),(10,.ptr 0 0 0),(11,.int .i64 (Nat.cast ((l.take jj).countP (inW x0 n)))),(27,.sl (l.map (fun t:Int×Int×Int×Int×Int=>V.agg [V.int .i64 t.1,V.int .i64 t.2.1,V.int .i64 t.2.2.1,V.int .i64 t.2.2.2.1,V.int .i64 t.2.2.2.2]))),(28,.int .i64 l.length),(29,.int .i64 (Nat.cast i)),(33,.sl (l.map (fun t:Int×Int×Int×Int×Int=>V.agg [V.int .i64 t.1,V.int .i64 t.2.1,V.int .i64 t.2.2.1,V.int .i64 t.2.2.2.1,V.int .i64 t.2.2.2.2]))),(34,.int .i64 l.length),(35,.int .i64 (Nat.cast jj))],[.box (.agg [V.int .i64 x0,V.int .i64 x1,V.int .i64 x2,V.int .i64 x3,V.int .i64 x4]) .flat],false,61,0⟩) (fun jj=>jj≤l.length) (fun jj=>l.length - jj) (0:Nat) ?_ ?_ ?_
    ·refine weak_bothS [0,1,7,8,10,11,27,28,29,33,34,35] [0] ⟨?_⟩;rfl
    ·exact qlo _
    ·rintro jj hok21 Q21 n21 e21 r21;have hj1:jj≤l.length:=hok21;refine yR [0,1,7,8,10,11,27,28,29,33,34,35,36] ⟨?_⟩;refine v_seq ?_;intros;refine v_condS _ rfl ?_ ?_
     ·intro hc2;have hltj:jj < l.length:=by omega
      obtain ⟨⟨y0,y1,y2,y3,y4⟩,hy⟩:∃x:Int×Int×Int×Int×Int,l[jj]? =some x:=⟨l[jj]'(by omega),qla (by omega)⟩;have hyo:=c_bounds (hea _ (qlb hy));simp only [] at hyo;have hct:=take_cnt (p:=inW x0 n) hy;have hcj:=List.countP_le_length (p:=inW x0 n) (l:=l.take jj);have hcl:=List.length_take_le jj l;refine zn [0,1,7,8,10,11,27,28,29,33,34,35] ⟨?_⟩;refine v_seq ?_;intros;refine v_block ?_;intros;have F:=Fc.mk (ai (gdm hx) (gdm hy));refine yR [0,1,7,8,10,11,13,27,28,29,33,34,35] ⟨?_⟩;refine yRc [0,1,7,8,10,11,27,28,29,33,34,35,48] (inside_con _ _ _) ⟨?_⟩;refine v_condS _ rfl ?_ ?_
      ·intro hc3;rw [if_pos (by rw [inW];simpa using hc3)] at hct;refine yQ [0,1,7,8,10,11,27,28,29,33,34,35] ⟨?_⟩;refine yV ⟨?_⟩;refine n21 _ (jj+1) ?_ ?_ ?_
       ·refine weak_bothS [0,1,7,8,10,11,27,28,29,33,34,35] [0] ⟨?_⟩;rw [hct];rfl
       ·exact hltj
       ·show _ < _;omega
      ·intro hc3;rw [if_neg (by rw [inW];simpa using hc3),Nat.add_zero] at hct;refine zn [0,1,7,8,10,11,27,28,29,33,34,35] ⟨?_⟩;refine yV ⟨?_⟩;refine n21 _ (jj+1) ?_ ?_ ?_
       ·refine weak_bothS [0,1,7,8,10,11,27,28,29,33,34,35] [0] ⟨?_⟩;rw [hct];rfl
       ·exact hltj
       ·show _ < _;omega
     ·intro hc2;have hje:jj=l.length:=by omega
      subst hje;rw [List.take_length];have hcw:=List.countP_le_length (p:=inW x0 n) (l:=l);refine zn [0,1,7,8,10,11,27,28,29] ⟨?_⟩;refine yR [0,1,7,8,10,11,27,28,29,54] ⟨?_⟩;refine v_condS _ rfl ?_ ?_
      ·intro hc4;rw [if_pos (by first | omega | (simp only [gt_iff_lt] at hc4;omega))] at hst;refine yQ [0,1,7,8,27,28,29] ⟨?_⟩;refine yV ⟨?_⟩;refine n10 _ (i+1) ?_ ?_ ?_
       ·refine weak_bothS [0,1,7,8,27,28,29] [] ⟨?_⟩;rw [hst];rfl
       ·exact hlt
       ·show _ < _;omega
      ·intro hc4;rw [if_neg (by first | omega | (simp only [gt_iff_lt] at hc4;omega))] at hst;refine zn [0,1,7,8,27,28,29] ⟨?_⟩;refine yV ⟨?_⟩;refine n10 _ (i+1) ?_ ?_ ?_
       ·refine weak_bothS [0,1,7,8,27,28,29] [] ⟨?_⟩;rw [hst];rfl
       ·exact hlt
       ·show _ < _;omega
   ·intro hc1;refine zn [7,8] ⟨?_⟩;refine yR [4,5,6] ⟨?_⟩;refine zr ⟨?_⟩;have hie:i=l.length:=by omega
    subst hie;exact ret_pure rfl (by rw [bwV,if_pos hB,hB]) (.inl rfl)
set_option maxRecDepth 8000 in
theorem specBusiest_con (l:List (Int×Int×Int×Int×Int)) (hl:l.length≤1048576) (n:Int):Con Tryz.prog 18 [.sl (l.map (fun t:Int×Int×Int×Int×Int=>V.agg [V.int .i64 t.1,V.int .i64 t.2.1,V.int .i64 t.2.2.1,V.int .i64 t.2.2.2.1,V.int .i64 t.2.2.2.2])),.int .i64 n] [] (.tup [.int .i64 (bwV l n).1,.int .i64 (Nat.cast (bwV l n).2),.bool (bwB l n)]) []:=by
 refine v_con [.tmp 4,.tmp 5,.tmp 6] [] Tryz.func18 rfl rfl rfl (by simp [Tryz.ntmps18]) ?_;intro Q0 n0 r0;simp only [Tryz.ntmps18,envFrom,Nat.reduceAdd];have T:=Tys.mk (ai Ty.t3 (ai Ty.t4 (ai Ty.t24 Ty.t26)));have F:=Fc.mk True.intro;refine yR [0,1] ⟨?_⟩;refine v_seq ?_;intros;refine yRcg [0,1,26] (clGood_con l hl) (l1In_con _ _ _) ⟨?_⟩;refine v_condS _ rfl ?_ ?_
 ·intro hc0;have hB:(bwB l n)=false:=by
   cases hq:(bwB l n) with
   |false=>rfl
   |true=>
    exfalso;rw [bwB,qlc,qlc,qlc,decide_eq_true_eq,decide_eq_true_eq,decide_eq_true_eq] at hq;have hz:l≠[]:=by intro e;rw [e] at hq;simp at hq
    simp [hq.1.1,hq.1.2.1,hq.1.2.2,hz] at hc0;try omega
  refine yR [4,5,6] ⟨?_⟩;refine zr ⟨?_⟩;exact ret_pure rfl (by rw [bwV,hB];rfl) (.inl rfl)
 ·intro hc0;have hq:(csB l=true∧(1≤n∧n≤1000))∧0 < l.length:=by
   cases l with
   |nil=>(exfalso;simp at hc0)
   |cons y0 l0=>
    (try simp at hc0)
    refine ⟨⟨?_,?_,?_⟩,by simp⟩<;>first | (simp_all;done) | (simp_all;omega)
  have hB:(bwB l n)=true:=by rw [bwB,hq.1.1,decide_eq_true hq.1.2.1,decide_eq_true hq.1.2.2,decide_eq_true hq.2];rfl
  have hl20:=cs_len hq.1.1;have hea:=cs_each hq.1.1;refine zn [0,1] ⟨?_⟩;refine yR [0,1,7,8] ⟨?_⟩;refine v_seq ?_;intros;refine yR [0,1,7,8,27,28,29] ⟨?_⟩;refine v_block ?_;intros;refine v_loop (fun i=>⟨[(0,.sl (l.map (fun t:Int×Int×Int×Int×Int=>V.agg [V.int .i64 t.1,V.int .i64 t.2.1,V.int .i64 t.2.2.1,V.int .i64 t.2.2.2.1,V.int .i64 t.2.2.2.2]))),(1,.int .i64 n),(7,.int .i64 (bwTo l n i).1),(8,.int .i64 (Nat.cast (bwTo l n i).2)),(27,.sl (l.map (fun t:Int×Int×Int×Int×Int=>V.agg [V.int .i64 t.1,V.int .i64 t.2.1,V.int .i64 t.2.2.1,V.int .i64 t.2.2.2.1,V.int .i64 t.2.2.2.2]))),(28,.int .i64 l.length),(29,.int .i64 (Nat.cast i))],[],false,61,0⟩) (fun i=>i≤l.length) (fun i=>l.length - i) (0:Nat) ?_ ?_ ?_
  ·refine weak_bothS [0,1,7,8,27,28,29] [] ⟨?_⟩;rfl
  ·exact qlo _
  ·rintro i hok10 Q10 n10 e10 r10;have hi1:i≤l.length:=hok10;refine yR [0,1,7,8,27,28,29,30] ⟨?_⟩;refine v_seq ?_;intros;refine v_condS _ rfl ?_ ?_
   ·intro hc1;have hlt:i < l.length:=by omega
    obtain ⟨⟨x0,x1,x2,x3,x4⟩,hx⟩:∃x:Int×Int×Int×Int×Int,l[i]? =some x:=⟨l[i]'(by omega),qla (by omega)⟩;have hxo:=c_bounds (hea _ (qlb hx));simp only [] at hxo;have hst:=bwTo_step (n:=n) hx;dsimp only at hst;have hbl:=bwTo_le l n i;refine zn [0,1,7,8,27,28,29] ⟨?_⟩;refine v_seq ?_;intros;refine v_block ?_;intros;have F:=Fc.mk (gdm hx);refine yR [0,1,7,8,10,27,28,29] ⟨?_⟩;refine yR [0,1,7,8,10,11,27,28,29] ⟨?_⟩;refine v_seq ?_;intros;refine yR [0,1,7,8,10,11,27,28,29,33,34,35] ⟨?_⟩;refine v_block ?_;intros;refine v_loop (fun jj=>⟨[(0,.sl (l.map (fun t:Int×Int×Int×Int×Int=>V.agg [V.int .i64 t.1,V.int .i64 t.2.1,V.int .i64 t.2.2.1,V.int .i64 t.2.2.2.1,V.int .i64 t.2.2.2.2]))),(1,.int .i64 n),(7,.int .i64 (bwTo l n i).1),(8,.int .i64 (Nat.cast (bwTo l n i).2)),(10,.ptr 0 0 0),(11,.int .i64 (Nat.cast ((l.take jj).countP (inW x0 n)))),(27,.sl (l.map (fun t:Int×Int×Int×Int×Int=>V.agg [V.int .i64 t.1,V.int .i64 t.2.1,V.int .i64 t.2.2.1,V.int .i64 t.2.2.2.1,V.int .i64 t.2.2.2.2]))),(28,.int .i64 l.length),(29,.int .i64 (Nat.cast i)),(33,.sl (l.map (fun t:Int×Int×Int×Int×Int=>V.agg [V.int .i64 t.1,V.int .i64 t.2.1,V.int .i64 t.2.2.1,V.int .i64 t.2.2.2.1,V.int .i64 t.2.2.2.2]))),(34,.int .i64 l.length),(35,.int .i64 (Nat.cast jj))],[.box (.agg [V.int .i64 x0,V.int .i64 x1,V.int .i64 x2,V.int .i64 x3,V.int .i64 x4]) .flat],false,61,0⟩) (fun jj=>jj≤l.length) (fun jj=>l.length - jj) (0:Nat) ?_ ?_ ?_
    ·refine weak_bothS [0,1,7,8,10,11,27,28,29,33,34,35] [0] ⟨?_⟩;rfl
    ·exact qlo _
    ·rintro jj hok21 Q21 n21 e21 r21;have hj1:jj≤l.length:=hok21;refine yR [0,1,7,8,10,11,27,28,29,33,34,35,36] ⟨?_⟩;refine v_seq ?_;intros;refine v_condS _ rfl ?_ ?_
     ·intro hc2;have hltj:jj < l.length:=by omega
      obtain ⟨⟨y0,y1,y2,y3,y4⟩,hy⟩:∃x:Int×Int×Int×Int×Int,l[jj]? =some x:=⟨l[jj]'(by omega),qla (by omega)⟩;have hyo:=c_bounds (hea _ (qlb hy));simp only [] at hyo;have hct:=take_cnt (p:=inW x0 n) hy;have hcj:=List.countP_le_length (p:=inW x0 n) (l:=l.take jj);have hcl:=List.length_take_le jj l;refine zn [0,1,7,8,10,11,27,28,29,33,34,35] ⟨?_⟩;refine v_seq ?_;intros;refine v_block ?_;intros;have F:=Fc.mk (ai (gdm hx) (gdm hy));refine yR [0,1,7,8,10,11,13,27,28,29,33,34,35] ⟨?_⟩;refine yRc [0,1,7,8,10,11,27,28,29,33,34,35,48] (l1In_con _ _ _) ⟨?_⟩;refine v_condS _ rfl ?_ ?_
      ·intro hc3;rw [if_pos (by rw [inW];simpa using hc3)] at hct;refine yQ [0,1,7,8,10,11,27,28,29,33,34,35] ⟨?_⟩;refine yV ⟨?_⟩;refine n21 _ (jj+1) ?_ ?_ ?_
       ·refine weak_bothS [0,1,7,8,10,11,27,28,29,33,34,35] [0] ⟨?_⟩;rw [hct];rfl
       ·exact hltj
       ·show _ < _;omega
      ·intro hc3;rw [if_neg (by rw [inW];simpa using hc3),Nat.add_zero] at hct;refine zn [0,1,7,8,10,11,27,28,29,33,34,35] ⟨?_⟩;refine yV ⟨?_⟩;refine n21 _ (jj+1) ?_ ?_ ?_
       ·refine weak_bothS [0,1,7,8,10,11,27,28,29,33,34,35] [0] ⟨?_⟩;rw [hct];rfl
       ·exact hltj
       ·show _ < _;omega
     ·intro hc2;have hje:jj=l.length:=by omega
      subst hje;rw [List.take_length];have hcw:=List.countP_le_length (p:=inW x0 n) (l:=l);refine zn [0,1,7,8,10,11,27,28,29] ⟨?_⟩;refine yR [0,1,7,8,10,11,27,28,29,54] ⟨?_⟩;refine v_condS _ rfl ?_ ?_
      ·intro hc4;rw [if_pos (by first | omega | (simp only [gt_iff_lt] at hc4;omega))] at hst;refine yR [0,1,7,11,27,28,29] ⟨?_⟩;refine yQ [0,1,7,8,27,28,29] ⟨?_⟩;refine yV ⟨?_⟩;refine n10 _ (i+1) ?_ ?_ ?_
       ·refine weak_bothS [0,1,7,8,27,28,29] [] ⟨?_⟩;rw [hst];rfl
       ·exact hlt
       ·show _ < _;omega
      ·intro hc4;rw [if_neg (by first | omega | (simp only [gt_iff_lt] at hc4;omega))] at hst;refine zn [0,1,7,8,27,28,29] ⟨?_⟩;refine yV ⟨?_⟩;refine n10 _ (i+1) ?_ ?_ ?_
       ·refine weak_bothS [0,1,7,8,27,28,29] [] ⟨?_⟩;rw [hst];rfl
       ·exact hlt
       ·show _ < _;omega
   ·intro hc1;refine zn [7,8] ⟨?_⟩;refine yR [4,5,6] ⟨?_⟩;refine zr ⟨?_⟩;have hie:i=l.length:=by omega
    subst hie;exact ret_pure rfl (by rw [bwV,if_pos hB,hB]) (.inl rfl)
end Go.Proofs.YtmhaafinhpopmaaGreatDoor
