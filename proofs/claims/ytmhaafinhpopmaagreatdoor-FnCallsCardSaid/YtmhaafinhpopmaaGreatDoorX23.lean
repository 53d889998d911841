/- What functions compute. No condition. -/
import Derived.Test.YtmhaafinhpopmaaGreatDoorX22
set_option linter.unusedSimpArgs false
set_option linter.unusedVariables false
set_option linter.defProp false
namespace Go.Proofs.YtmhaafinhpopmaaGreatDoor
open Go Go.Vm
set_option maxHeartbeats 8000000
set_option maxRecDepth 8000 in
theorem callsText_con (l:List (Int×Int×Int×Int×Int)) (hb:csB l=true):Con Tryz.prog 66 [.sl (l.map (fun t:Int×Int×Int×Int×Int=>V.agg [V.int .i64 t.1,V.int .i64 t.2.1,V.int .i64 t.2.2.1,V.int .i64 t.2.2.2.1,V.int .i64 t.2.2.2.2]))] [] (.str (ctx l)) []:=by
 have hl20:=cs_len hb;have hea:=cs_each hb;refine v_con [.tmp 2] [] Tryz.func66 rfl rfl rfl (by simp [Tryz.ntmps66]) ?_;intro Q0 n0 r0;simp only [Tryz.ntmps66,envFrom,Nat.reduceAdd];have T:=Tys.mk (ai Ty.t3 (ai Ty.t9 (ai Ty.t24 (ai Ty.t26 Ty.t35))));have F:=Fc.mk True.intro;refine yR [0] ⟨?_⟩;refine yR [0,3] ⟨?_⟩;refine v_seq ?_;intros;refine yR [3,6,7,8] ⟨?_⟩;refine v_block ?_;intros;refine v_loop (fun i=>⟨[(3,.str (ctTo l i)),(6,.sl (l.map (fun t:Int×Int×Int×Int×Int=>V.agg [V.int .i64 t.1,V.int .i64 t.2.1,V.int .i64 t.2.2.1,V.int .i64 t.2.2.2.1,V.int .i64 t.2.2.2.2]))),(7,.int .i64 l.length),(8,.int .i64 (Nat.cast i))],[],false,29,0⟩) (fun i=>i≤l.length) (fun i=>l.length - i) (0:Nat) ?_ ?_ ?_
 ·refine weak_bothS [3,6,7,8] [] ⟨?_⟩;rfl
 ·exact qlo _
 ·rintro i hok6 Q6 n6 e6 r6;have hi1:i≤l.length:=hok6;refine yR [3,6,7,8,9] ⟨?_⟩;refine v_seq ?_;intros;refine v_condS _ rfl ?_ ?_
  ·intro hc0;have hlt:i < l.length:=by omega
   obtain ⟨⟨x0,x1,x2,x3,x4⟩,hx⟩:∃x:Int×Int×Int×Int×Int,l[i]? =some x:=⟨l[i]'(by omega),qla (by omega)⟩;have hxo:=hea _ (qlb hx);have hbx:=c_bounds hxo;simp only [] at hbx;have hst:=ctTo_step hx;have hsz:=ctTo_size hea i;have hcs:=cT_size hxo;have hbd:=cBody_size hxo;have hz0:(⟨#[44]⟩:ByteArray).size=1:=rfl;have hz1:(⟨#[59]⟩:ByteArray).size=1:=rfl;have hjo:joinB [numB x0.toNat,numB x1.toNat,numB x2.toNat,numB x3.toNat,numB x4.toNat] (⟨#[44]⟩:ByteArray)=cBody (x0,x1,x2,x3,x4):=joinB_five _ _ _ _ _ _;have hcT:cBody (x0,x1,x2,x3,x4)++(⟨#[59]⟩:ByteArray)=cT (x0,x1,x2,x3,x4):=rfl;refine zn [3,6,7,8] ⟨?_⟩;refine v_seq ?_;intros;refine v_block ?_;intros;have F:=Fc.mk (ai (gdm hx) (ai @qlz (ai hz0 hz1)));refine yR [3,5,6,7,8] ⟨?_⟩;refine yQc [3,6,7,8] ((by have q:=joinNumbers_con [x0,x1,x2,x3,x4] (⟨#[44]⟩:ByteArray) (by simp) (by simp;omega) (by decide);rw [show numS [x0,x1,x2,x3,x4]=[numB x0.toNat,numB x1.toNat,numB x2.toNat,numB x3.toNat,numB x4.toNat] from rfl,hjo] at q;exact q)) ⟨?_⟩;refine yV ⟨?_⟩;refine n6 _ (i+1) ?_ ?_ ?_
   ·refine weak_bothS [3,6,7,8] [] ⟨?_⟩;rw [hst];rfl
   ·exact hlt
   ·show _ < _;omega
  ·intro hc0;refine zn [3] ⟨?_⟩;refine yR [2] ⟨?_⟩;refine zr ⟨?_⟩;have hend:i=l.length:=by omega
   subst hend;exact ret_pure rfl rfl (.inl rfl)
set_option maxRecDepth 8000 in
theorem clText_con (l:List (Int×Int×Int×Int×Int)) (hb:csB l=true):Con Tryz.prog 67 [.sl (l.map (fun t:Int×Int×Int×Int×Int=>V.agg [V.int .i64 t.1,V.int .i64 t.2.1,V.int .i64 t.2.2.1,V.int .i64 t.2.2.2.1,V.int .i64 t.2.2.2.2]))] [] (.str (ctx l)) []:=by
 have hl20:=cs_len hb;have hea:=cs_each hb;refine v_con [.tmp 2] [] Tryz.func67 rfl rfl rfl (by simp [Tryz.ntmps67]) ?_;intro Q0 n0 r0;simp only [Tryz.ntmps67,envFrom,Nat.reduceAdd];have T:=Tys.mk (ai Ty.t3 (ai Ty.t9 (ai Ty.t24 (ai Ty.t26 Ty.t35))));have F:=Fc.mk True.intro;refine yR [0] ⟨?_⟩;refine yR [0,3] ⟨?_⟩;refine v_seq ?_;intros;refine yR [3,8,9,10] ⟨?_⟩;refine v_block ?_;intros;refine v_loop (fun i=>⟨[(3,.str (ctTo l i)),(8,.sl (l.map (fun t:Int×Int×Int×Int×Int=>V.agg [V.int .i64 t.1,V.int .i64 t.2.1,V.int .i64 t.2.2.1,V.int .i64 t.2.2.2.1,V.int .i64 t.2.2.2.2]))),(9,.int .i64 l.length),(10,.int .i64 (Nat.cast i))],[],false,44,0⟩) (fun i=>i≤l.length) (fun i=>l.length - i) (0:Nat) ?_ ?_ ?_
 ·refine weak_bothS [3,8,9,10] [] ⟨?_⟩;rfl
 ·exact qlo _
 ·rintro i hok6 Q6 n6 e6 r6;have hi1:i≤l.length:=hok6;refine yR [3,8,9,10,11] ⟨?_⟩;refine v_seq ?_;intros;refine v_condS _ rfl ?_ ?_
  ·intro hc0;have hlt:i < l.length:=by omega
   obtain ⟨⟨x0,x1,x2,x3,x4⟩,hx⟩:∃x:Int×Int×Int×Int×Int,l[i]? =some x:=⟨l[i]'(by omega),qla (by omega)⟩;have hxo:=hea _ (qlb hx);have hbx:=c_bounds hxo;simp only [] at hbx;have hst:=ctTo_step hx;have hsz:=ctTo_size hea i;have hcs:=cT_size hxo;have hbd:=cBody_size hxo;have hz0:(⟨#[44]⟩:ByteArray).size=1:=rfl;have hz1:(⟨#[59]⟩:ByteArray).size=1:=rfl;obtain ⟨L5,hL5⟩:∃L:List Int,L=[x0,x1,x2,x3,x4]:=⟨_,rfl⟩;have hL5l:L5.length=5:=by rw [hL5];rfl
   have hLb:∀n∈L5,0≤n∧n≤99999:=by
    intro n hn;rw [hL5] at hn;simp only [List.mem_cons,List.not_mem_nil,or_false] at hn;omega
   refine zn [3,8,9,10] ⟨?_⟩;refine v_seq ?_;intros;refine v_block ?_;intros;have F:=Fc.mk (ai (gdm hx) (ai @qlz (ai hz0 hz1)));refine yR [3,5,8,9,10] ⟨?_⟩;refine v_seq ?_;intros;refine yR [3,8,9,10,24,25,26] ⟨?_⟩;refine v_block ?_;intros;refine v_loop (fun jj=>⟨[(3,.str (pcT (ctTo l i) L5 jj)),(8,.sl (l.map (fun t:Int×Int×Int×Int×Int=>V.agg [V.int .i64 t.1,V.int .i64 t.2.1,V.int .i64 t.2.2.1,V.int .i64 t.2.2.2.1,V.int .i64 t.2.2.2.2]))),(9,.int .i64 l.length),(10,.int .i64 (Nat.cast i)),(24,.ref 0),(25,.int .i64 5),(26,.int .i64 (Nat.cast jj))],[.arr (L5.map (V.int .i64)) .flat],false,44,0⟩) (fun jj=>jj≤5) (fun jj=>5 - jj) (0:Nat) ?_ ?_ ?_
   ·refine weak_bothS [3,8,9,10,24,25,26] [1] ⟨?_⟩;rw [hL5];rfl
   ·exact qlo _
   ·rintro jj hok16 Q16 n16 e16 r16;have hj1:jj≤5:=hok16;refine yR [3,8,9,10,24,25,26,27] ⟨?_⟩;refine v_seq ?_;intros;refine v_condS _ rfl ?_ ?_
    ·intro hc1;have hltj:jj < 5:=by omega
     obtain ⟨n,hn⟩:∃n,L5[jj]? =some n:=⟨_,qla (by omega)⟩;have hnb:0≤n∧n≤99999:=hLb n (qlb hn);have hps:=pcT_size (base:=ctTo l i) (m:=600) hLb (by omega) jj;have hn5:=num5 hnb;have hgd:L5.getD jj 0=n:=by rw [qld,hn];rfl
     have hpst:pcT (ctTo l i) L5 (jj+1)=(if 0 < jj then pcT (ctTo l i) L5 jj++(⟨#[44]⟩:ByteArray) else pcT (ctTo l i) L5 jj)++numB n.toNat:=by rw [pcT,hgd]
     refine zn [3,8,9,10,24,25,26] ⟨?_⟩;refine v_seq ?_;intros;refine v_block ?_;intros;have F:=Fc.mk (ai (gdm hx) (ai @qlz (ai hz0 (ai hz1 (ai (gdm hn) hL5l)))));refine yR [3,6,7,8,9,10,24,25,26] ⟨?_⟩;refine v_seq ?_;intros;refine yR [3,7,8,9,10,24,25,26,32] ⟨?_⟩;refine v_condS _ rfl ?_ ?_
     ·intro hc2;rw [if_pos (by omega)] at hpst;refine yQ [3,7,8,9,10,24,25,26] ⟨?_⟩;refine yQc [3,8,9,10,24,25,26] (l1Num_con n (by omega)) ⟨?_⟩;refine yV ⟨?_⟩;refine n16 _ (jj+1) ?_ ?_ ?_
      ·refine weak_bothS [3,8,9,10,24,25,26] [0] ⟨?_⟩;rw [hpst];rfl
      ·exact hltj
      ·show _ < _;omega
     ·intro hc2;rw [if_neg (by omega)] at hpst;refine zn [3,7,8,9,10,24,25,26] ⟨?_⟩;refine yQc [3,8,9,10,24,25,26] (l1Num_con n (by omega)) ⟨?_⟩;refine yV ⟨?_⟩;refine n16 _ (jj+1) ?_ ?_ ?_
      ·refine weak_bothS [3,8,9,10,24,25,26] [0] ⟨?_⟩;rw [hpst];rfl
      ·exact hltj
      ·show _ < _;omega
    ·intro hc1;have hje:jj=5:=by omega
     subst hje;have hall:=pcT_all (ctTo l i) x0 x1 x2 x3 x4;rw [←hL5] at hall;have hps:=pcT_size (base:=ctTo l i) (m:=600) hLb (by omega) 5;refine zn [3,8,9,10] ⟨?_⟩;refine yQ [3,8,9,10] ⟨?_⟩;refine yV ⟨?_⟩;refine n6 _ (i+1) ?_ ?_ ?_
     ·refine weak_bothS [3,8,9,10] [] ⟨?_⟩;rw [hst,←hall];rfl
     ·exact hlt
     ·show _ < _;omega
  ·intro hc0;refine zn [3] ⟨?_⟩;refine yR [2] ⟨?_⟩;refine zr ⟨?_⟩;have hend:i=l.length:=by omega
   subst hend;exact ret_pure rfl rfl (.inl rfl)
theorem implCallsText_con (l:List (Int×Int×Int×Int×Int)) (hl:l.length≤1048576):Con Tryz.prog 23 [.sl (l.map (fun t:Int×Int×Int×Int×Int=>V.agg [V.int .i64 t.1,V.int .i64 t.2.1,V.int .i64 t.2.2.1,V.int .i64 t.2.2.2.1,V.int .i64 t.2.2.2.2]))] [] (.tup [.str (if csB l=true then ctx l else .empty),.bool (csB l)]) []:=by
 refine v_con [.tmp 2,.tmp 3] [] Tryz.func23 rfl rfl rfl (by simp [Tryz.ntmps23]) ?_;intro Q0 n0 r0;simp only [Tryz.ntmps23,envFrom,Nat.reduceAdd];have T:=Tys.mk (ai Ty.t3 (ai Ty.t4 (ai Ty.t9 (ai Ty.t24 Ty.t26))));have F:=Fc.mk True.intro;refine yR [0] ⟨?_⟩;refine v_seq ?_;intros;refine yRc [0,6] (areCalls_con l hl) ⟨?_⟩;refine v_condS _ rfl ?_ ?_
 ·intro hc0;have hB:csB l=false:=by simpa using hc0
  refine yR [2,3] ⟨?_⟩;refine zr ⟨?_⟩;exact ret_pure rfl (by rw [hB];rfl) (.inl rfl)
 ·intro hc0;have hB:csB l=true:=by simpa using hc0
  refine zn [0] ⟨?_⟩;refine yRc [2,3] (callsText_con l hB) ⟨?_⟩;refine zr ⟨?_⟩;exact ret_pure rfl (by rw [hB,if_pos rfl]) (.inl rfl)
theorem specCallsText_con (l:List (Int×Int×Int×Int×Int)) (hl:l.length≤1048576):Con Tryz.prog 24 [.sl (l.map (fun t:Int×Int×Int×Int×Int=>V.agg [V.int .i64 t.1,V.int .i64 t.2.1,V.int .i64 t.2.2.1,V.int .i64 t.2.2.2.1,V.int .i64 t.2.2.2.2]))] [] (.tup [.str (if csB l=true then ctx l else .empty),.bool (csB l)]) []:=by
 refine v_con [.tmp 2,.tmp 3] [] Tryz.func24 rfl rfl rfl (by simp [Tryz.ntmps24]) ?_;intro Q0 n0 r0;simp only [Tryz.ntmps24,envFrom,Nat.reduceAdd];have T:=Tys.mk (ai Ty.t3 (ai Ty.t4 (ai Ty.t9 (ai Ty.t24 Ty.t26))));have F:=Fc.mk True.intro;refine yR [0] ⟨?_⟩;refine v_seq ?_;intros;refine yRc [0,6] (clGood_con l hl) ⟨?_⟩;refine v_condS _ rfl ?_ ?_
 ·intro hc0;have hB:csB l=false:=by simpa using hc0
  refine yR [2,3] ⟨?_⟩;refine zr ⟨?_⟩;exact ret_pure rfl (by rw [hB];rfl) (.inl rfl)
 ·intro hc0;have hB:csB l=true:=by simpa using hc0
  refine zn [0] ⟨?_⟩;refine yRc [2,3] (clText_con l hB) ⟨?_⟩;refine zr ⟨?_⟩;exact ret_pure rfl (by rw [hB,if_pos rfl]) (.inl rfl)
end Go.Proofs.YtmhaafinhpopmaaGreatDoor
