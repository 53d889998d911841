/- What functions compute. No condition. -/
import Derived.Test.YtmhaafinhpopmaaGreatDoorX13
set_option linter.unusedSimpArgs false
set_option linter.unusedVariables false
set_option linter.defProp false
namespace Go.Proofs.YtmhaafinhpopmaaGreatDoor
open Go Go.Vm
set_option maxHeartbeats 8000000
set_option maxRecDepth 8000 in
theorem areIncidents_con (l:List TI) (hl:l.length≤1048576) (hli:∀x∈l,x.2.2.2.length≤1048576) (hls:∀x∈l,∀s∈x.2.2.2,s.size≤9223372036854775807):Con Tryz.prog 139 [.sl (l.map (fun t:TI=>V.agg [V.int .i64 t.1,V.int .i64 t.2.1,V.bool t.2.2.1,V.sl (t.2.2.2.map V.str)]))] [] (.bool (incsB l)) []:=by
 refine v_con [.tmp 2] [] Tryz.func139 rfl rfl rfl (by simp [Tryz.ntmps139]) ?_;intro Q0 n0 r0;simp only [Tryz.ntmps139,envFrom,Nat.reduceAdd];have T:=Tys.mk (ai Ty.t3 (ai Ty.t4 (ai Ty.t9 (ai Ty.t59 (ai Ty.t64 Ty.t154)))));have F:=Fc.mk True.intro;refine yR [0] ⟨?_⟩;refine v_seq ?_;intros;refine yR [0,7,8,9] ⟨?_⟩;refine v_block ?_;intros;refine v_loop (fun i=>⟨[(0,.sl (l.map (fun t:TI=>V.agg [V.int .i64 t.1,V.int .i64 t.2.1,V.bool t.2.2.1,V.sl (t.2.2.2.map V.str)]))),(7,.sl (l.map (fun t:TI=>V.agg [V.int .i64 t.1,V.int .i64 t.2.1,V.bool t.2.2.1,V.sl (t.2.2.2.map V.str)]))),(8,.int .i64 l.length),(9,.int .i64 (Nat.cast i))],[],false,50,0⟩) (fun i=>i≤l.length∧∀j,j < i→incP l j=true) (fun i=>l.length - i) 0 ?_ ?_ ?_
 ·refine weak_of [0,7,8,9] ?_;simp only [keep_mk,keepE_nil,keepE_cons,look_cons,look_nil,Nat.reduceEqDiff,reduceIte];rfl
 ·exact ⟨qld _,fun j h=>absurd h (Nat.not_lt_zero _)⟩
 ·rintro i hok5 Q5 n5 e5 r5;obtain ⟨hi1,hR⟩:=hok5;refine yR [0,7,8,9,10] ⟨?_⟩;refine v_seq ?_;intros;refine v_condS _ rfl ?_ ?_
  ·intro hc0;have hlt:i < l.length:=by omega
   obtain ⟨⟨x0,x1,x2,x3⟩,hx⟩:∃x:TI,l[i]? =some x:=⟨l[i]'(by omega),qla (by omega)⟩;have hlx:=hli _ (qlb hx);have hsx:=hls _ (qlb hx);simp only [] at hlx hsx;have hlt1:(l.take i).length≤1048576:=qlx (List.length_take_le ..) (by omega);have hlti:(l.take i).length=i:=by rw [qln];omega
   have hmi:∀x∈l.take i,x.2.2.2.length≤1048576:=fun x h=>hli x (ql2 h)
   have hcl:clashB (l.take i) (x0,x1,x2,x3)=x3.any (fun s=>(l.take i).any fun y=>inS s y.2.2.2):=rfl;rcases ql8 i with h0 | h0
   ·skip;have hi0:¬((0:Int) < (i:Int)):=by omega
    have hpi:incP l i=(incOK (x0,x1,x2,x3) && !clashB (l.take i) (x0,x1,x2,x3)):=by subst h0;exact incP_zero hx
    refine zn [0,7,8,9] ⟨?_⟩;refine v_seq ?_;intros;refine v_block ?_;intros;have F:=Fc.mk (ai (gdm hx) (ai hlti (ai hi0 (ai @decide_false @qma))));refine yR [0,3,4,7,8,9] ⟨?_⟩;refine v_seq ?_;intros;refine v_seq ?_;intro Q13 n13 e13 r13;refine v_draw (by kernel_rfl) ?_;intro K14 q14 k14;show aAny _ _ _ _ 18 (Array.replicate 18 false) _;refine zdLoad q14 true 0 14 ?_;refine zoc 1 (isIncident_con x0 x1 x2 x3 hsx hlx) ⟨?_⟩;refine zdUnOp q14 true 2 16 ?_;refine zdMove q14 true 3 17 ?_;refine zdgMove q14 true 4 18 ?_;refine zdgBinOp q14 true 5 19 ?_;refine zdgMove q14 true 6 20 ?_;refine zdgMove q14 true 7 21 ?_;refine zdgMove q14 true 8 22 ?_;refine zdgBinOpW q14 true 9 23 ?_;refine zdgIndexAddr q14 true 10 24 ?_;refine zdgFieldAddr q14 true 11 25 ?_;refine zdgLoad q14 true 12 26 ?_;refine zdgFieldAddr q14 true 13 27 ?_;refine zdgLoad q14 true 14 28 ?_;refine zdgBinOp q14 true 15 29 ?_;refine zdgPick q14 true 16 30 ?_;refine zdPick q14 true 17 31 ?_;refine aAny_done (by kernel_rfl) ?_;refine k14 _ ?_;refine n13 _ _ (weak_keep [0,3,4,7,8,9,31] _) ?_;refine zk ⟨?_⟩;refine v_condS _ rfl ?_ ?_
    ·intro hc1;have hbad:incP l i=false:=by
      rw [hpi]
      (try simp at hc1)
      first | (simp [hc1];done) | (rcases hc1 with h | h<;>first | (simp [h];done) | (rw [decide_eq_false (show ¬y0 < x0 by omega)];simp;done)) | (rcases hc1 with h | h<;>simp [h];done) | (simp_all;done) | (simp;intros;simp_all;omega)
     refine yR [2] ⟨?_⟩;refine zr ⟨?_⟩;exact ret_pure rfl (by rw [incs_bad hlt hbad]) (.inl rfl)
    ·intro hc1;have hgd:incP l i= !clashB (l.take i) (x0,x1,x2,x3):=by
      rw [hpi]
      (try simp at hc1)
      first | (simp [hc1];done) | (simp_all;done) | (simp;intros;simp_all;omega)
     refine zn [0,3,4,7,8,9] ⟨?_⟩;refine yR [0,3,7,8,9,33,34,35] ⟨?_⟩;refine v_block ?_;intros;refine v_loop (fun j=>⟨[(0,.sl (l.map (fun t:TI=>V.agg [V.int .i64 t.1,V.int .i64 t.2.1,V.bool t.2.2.1,V.sl (t.2.2.2.map V.str)]))),(3,.int .i64 (Nat.cast i)),(7,.sl (l.map (fun t:TI=>V.agg [V.int .i64 t.1,V.int .i64 t.2.1,V.bool t.2.2.1,V.sl (t.2.2.2.map V.str)]))),(8,.int .i64 l.length),(9,.int .i64 (Nat.cast i)),(33,.sl (x3.map V.str)),(34,.int .i64 x3.length),(35,.int .i64 (Nat.cast j))],[],false,50,0⟩) (fun j=>j≤x3.length∧(x3.drop j).any (fun s=>(l.take i).any fun y=>inS s y.2.2.2)=x3.any (fun s=>(l.take i).any fun y=>inS s y.2.2.2)) (fun j=>x3.length - j) 0 ?_ ?_ ?_
     ·refine weak_bothS [0,3,7,8,9,33,34,35] [] ⟨?_⟩;rfl
     ·exact ⟨qld _,rfl⟩
     ·rintro j hok19 Q19 n19 e19 r19;obtain ⟨hj1,hR2⟩:=hok19;refine yR [0,3,7,8,9,33,34,35,36] ⟨?_⟩;refine v_seq ?_;intros;refine v_condS _ rfl ?_ ?_
      ·intro hc2;have hlj:j < x3.length:=by omega
       obtain ⟨s,hs⟩:∃s,x3[j]? =some s:=⟨_,qla hlj⟩;have hst:=any_drop (f:=(fun s=>(l.take i).any fun y=>inS s y.2.2.2)) hs;have hca:=comm_any (l.take i) s;refine zn [0,3,7,8,9,33,34,35] ⟨?_⟩;refine v_seq ?_;intros;refine v_block ?_;intros;have F:=Fc.mk (ai (gdm hx) (ai hlti (ai hi0 (ai @decide_false (ai @qma (gdm hs))))));refine yR [0,3,6,7,8,9,33,34,35] ⟨?_⟩;refine yRc [0,3,7,8,9,33,34,35,44] (committedAt_con (l.take i) s hlt1 hmi) ⟨?_⟩;refine v_condS _ rfl ?_ ?_
       ·intro hc3;have hbad:incP l i=false:=by rw [hgd,hcl,←hR2,hst];simp only [←hca];(try simp at hc3);simp [hc3]
        refine yR [2] ⟨?_⟩;refine zr ⟨?_⟩;exact ret_pure rfl (by rw [incs_bad hlt hbad]) (.inl rfl)
       ·intro hc3;have hno:((l.take i).any fun y=>inS s y.2.2.2)=false:=by rw [←hca];(try simp at hc3);simp;omega
        refine zn [0,3,7,8,9,33,34,35] ⟨?_⟩;refine yV ⟨?_⟩;refine n19 _ (j+1) ?_ ?_ ?_
        ·refine weak_bothS [0,3,7,8,9,33,34,35] [] ⟨?_⟩;rfl
        ·exact ⟨by omega,by rw [←hR2,hst];simp only [hno];rfl⟩
        ·show _ < _;omega
      ·intro hc2;have hgood:incP l i=true:=by rw [hgd,hcl,←hR2,any_end (by omega)];rfl
       refine zn [0,7,8,9] ⟨?_⟩;refine yV ⟨?_⟩;refine n5 _ (i+1) ?_ ?_ ?_
       ·refine weak_bothS [0,7,8,9] [] ⟨?_⟩;rfl
       ·exact ⟨by omega,upto_step hR hgood⟩
       ·show _ < _;omega
   ·skip;obtain ⟨⟨y0,y1,y2,y3⟩,hy⟩:∃x:TI,l[i - 1]? =some x:=⟨l[i - 1]'(by omega),qla (by omega)⟩;have hi0:(0:Int) < i:=by omega
    have hk:((i:Int) - 1).toNat=i - 1:=by omega
    have hpi:=incP_succ h0 hy hx;refine zn [0,7,8,9] ⟨?_⟩;refine v_seq ?_;intros;refine v_block ?_;intros;have F:=Fc.mk (ai (gdm hx) (ai hlti (ai hi0 (ai hk (ai (gdm hy) (ai @decide_true @qmb))))));refine yR [0,3,4,7,8,9] ⟨?_⟩;refine v_seq ?_;intros;refine v_seq ?_;intro Q35 n35 e35 r35;refine v_draw (by kernel_rfl) ?_;intro K36 q36 k36;show aAny _ _ _ _ 18 (Array.replicate 18 false) _;refine zdLoad q36 true 0 14 ?_;refine zoc 1 (isIncident_con x0 x1 x2 x3 hsx hlx) ⟨?_⟩;refine zdUnOp q36 true 2 16 ?_;refine zdMove q36 true 3 17 ?_;refine zdgMove q36 true 4 18 ?_;refine zdgBinOp q36 true 5 19 ?_;refine zdgMove q36 true 6 20 ?_;refine zdgMove q36 true 7 21 ?_;refine zdgMove q36 true 8 22 ?_;refine zdgBinOpW q36 true 9 23 ?_;refine zdgIndexAddr q36 true 10 24 ?_;refine zdgFieldAddr q36 true 11 25 ?_;refine zdgLoad q36 true 12 26 ?_;refine zdgFieldAddr q36 true 13 27 ?_;refine zdgLoad q36 true 14 28 ?_;refine zdgBinOp q36 true 15 29 ?_;refine zdgPick q36 true 16 30 ?_;refine zdPick q36 true 17 31 ?_;refine aAny_done (by kernel_rfl) ?_;refine k36 _ ?_;refine n35 _ _ (weak_keep [0,3,4,7,8,9,31] _) ?_;refine zk ⟨?_⟩;refine v_condS _ rfl ?_ ?_
    ·intro hc1;have hbad:incP l i=false:=by
      rw [hpi]
      (try simp at hc1)
      first | (simp [hc1];done) | (rcases hc1 with h | h<;>first | (simp [h];done) | (rw [decide_eq_false (show ¬y0 < x0 by omega)];simp;done)) | (rcases hc1 with h | h<;>simp [h];done) | (simp_all;done) | (simp;intros;simp_all;omega)
     refine yR [2] ⟨?_⟩;refine zr ⟨?_⟩;exact ret_pure rfl (by rw [incs_bad hlt hbad]) (.inl rfl)
    ·intro hc1;have hgd:incP l i= !clashB (l.take i) (x0,x1,x2,x3):=by
      rw [hpi]
      (try simp at hc1)
      first | (simp [hc1];done) | (simp_all;done) | (simp;intros;simp_all;omega)
     refine zn [0,3,4,7,8,9] ⟨?_⟩;refine yR [0,3,7,8,9,33,34,35] ⟨?_⟩;refine v_block ?_;intros;refine v_loop (fun j=>⟨[(0,.sl (l.map (fun t:TI=>V.agg [V.int .i64 t.1,V.int .i64 t.2.1,V.bool t.2.2.1,V.sl (t.2.2.2.map V.str)]))),(3,.int .i64 (Nat.cast i)),(7,.sl (l.map (fun t:TI=>V.agg [V.int .i64 t.1,V.int .i64 t.2.1,V.bool t.2.2.1,V.sl (t.2.2.2.map V.str)]))),(8,.int .i64 l.length),(9,.int .i64 (Nat.cast i)),(33,.sl (x3.map V.str)),(34,.int .i64 x3.length),(35,.int .i64 (Nat.cast j))],[],false,50,0⟩) (fun j=>j≤x3.length∧(x3.drop j).any (fun s=>(l.take i).any fun y=>inS s y.2.2.2)=x3.any (fun s=>(l.take i).any fun y=>inS s y.2.2.2)) (fun j=>x3.length - j) 0 ?_ ?_ ?_
     ·refine weak_bothS [0,3,7,8,9,33,34,35] [] ⟨?_⟩;rfl
     ·exact ⟨qld _,rfl⟩
     ·rintro j hok41 Q41 n41 e41 r41;obtain ⟨hj1,hR2⟩:=hok41;refine yR [0,3,7,8,9,33,34,35,36] ⟨?_⟩;refine v_seq ?_;intros;refine v_condS _ rfl ?_ ?_
      ·intro hc2;have hlj:j < x3.length:=by omega
       obtain ⟨s,hs⟩:∃s,x3[j]? =some s:=⟨_,qla hlj⟩;have hst:=any_drop (f:=(fun s=>(l.take i).any fun y=>inS s y.2.2.2)) hs;have hca:=comm_any (l.take i) s;refine zn [0,3,7,8,9,33,34,35] ⟨?_⟩;refine v_seq ?_;intros;refine v_block ?_;intros;have F:=Fc.mk (ai (gdm hx) (ai hlti (ai hi0 (ai hk (ai (gdm hy) (ai @decide_true (ai @qmb (gdm hs))))))));refine yR [0,3,6,7,8,9,33,34,35] ⟨?_⟩;refine yRc [0,3,7,8,9,33,34,35,44] (committedAt_con (l.take i) s hlt1 hmi) ⟨?_⟩;refine v_condS _ rfl ?_ ?_
       ·intro hc3;have hbad:incP l i=false:=by rw [hgd,hcl,←hR2,hst];simp only [←hca];(try simp at hc3);simp [hc3]
        refine yR [2] ⟨?_⟩;refine zr ⟨?_⟩;exact ret_pure rfl (by rw [incs_bad hlt hbad]) (.inl rfl)
       ·intro hc3;have hno:((l.take i).any fun y=>inS s y.2.2.2)=false:=by rw [←hca];(try simp at hc3);simp;omega
        refine zn [0,3,7,8,9,33,34,35] ⟨?_⟩;refine yV ⟨?_⟩;refine n41 _ (j+1) ?_ ?_ ?_
        ·refine weak_bothS [0,3,7,8,9,33,34,35] [] ⟨?_⟩;rfl
        ·exact ⟨by omega,by rw [←hR2,hst];simp only [hno];rfl⟩
        ·show _ < _;omega
      ·intro hc2;have hgood:incP l i=true:=by rw [hgd,hcl,←hR2,any_end (by omega)];rfl
       refine zn [0,7,8,9] ⟨?_⟩;refine yV ⟨?_⟩;refine n5 _ (i+1) ?_ ?_ ?_
       ·refine weak_bothS [0,7,8,9] [] ⟨?_⟩;rfl
       ·exact ⟨by omega,upto_step hR hgood⟩
       ·show _ < _;omega
  ·intro hc0;refine zn [0] ⟨?_⟩;refine yR [2] ⟨?_⟩;refine zr ⟨?_⟩;exact ret_pure rfl (by rw [incs_good (by omega) hR]) (.inl rfl)
set_option maxRecDepth 8000 in
theorem ixGood_con (l:List TI) (hl:l.length≤1048576) (hli:∀x∈l,x.2.2.2.length≤1048576) (hls:∀x∈l,∀s∈x.2.2.2,s.size≤9223372036854775807):Con Tryz.prog 121 [.sl (l.map (fun t:TI=>V.agg [V.int .i64 t.1,V.int .i64 t.2.1,V.bool t.2.2.1,V.sl (t.2.2.2.map V.str)]))] [] (.bool (incsB l)) []:=by
 refine v_con [.tmp 2] [] Tryz.func121 rfl rfl rfl (by simp [Tryz.ntmps121]) ?_;intro Q0 n0 r0;simp only [Tryz.ntmps121,envFrom,Nat.reduceAdd];have T:=Tys.mk (ai Ty.t3 (ai Ty.t4 (ai Ty.t9 (ai Ty.t59 (ai Ty.t64 Ty.t154)))));have F:=Fc.mk True.intro;refine yR [0] ⟨?_⟩;refine v_seq ?_;intros;refine yR [0,9,10,11] ⟨?_⟩;refine v_block ?_;intros;refine v_loop (fun i=>⟨[(0,.sl (l.map (fun t:TI=>V.agg [V.int .i64 t.1,V.int .i64 t.2.1,V.bool t.2.2.1,V.sl (t.2.2.2.map V.str)]))),(9,.sl (l.map (fun t:TI=>V.agg [V.int .i64 t.1,V.int .i64 t.2.1,V.bool t.2.2.1,V.sl (t.2.2.2.map V.str)]))),(10,.int .i64 l.length),(11,.int .i64 (Nat.cast i))],[],false,59,0⟩) (fun i=>i≤l.length∧∀j,j < i→incP l j=true) (fun i=>l.length - i) 0 ?_ ?_ ?_
 ·refine weak_of [0,9,10,11] ?_;simp only [keep_mk,keepE_nil,keepE_cons,look_cons,look_nil,Nat.reduceEqDiff,reduceIte];rfl
 ·exact ⟨qld _,fun j h=>absurd h (Nat.not_lt_zero _)⟩
 ·rintro i hok5 Q5 n5 e5 r5;obtain ⟨hi1,hR⟩:=hok5;refine yR [0,9,10,11,12] ⟨?_⟩;refine v_seq ?_;intros;refine v_condS _ rfl ?_ ?_
  ·intro hc0;have hlt:i < l.length:=by omega
   obtain ⟨⟨x0,x1,x2,x3⟩,hx⟩:∃x:TI,l[i]? =some x:=⟨l[i]'(by omega),qla (by omega)⟩;have hlx:=hli _ (qlb hx);have hsx:=hls _ (qlb hx);simp only [] at hlx hsx;have hlt1:(l.take i).length≤1048576:=qlx (List.length_take_le ..) (by omega);have hlti:(l.take i).length=i:=by rw [qln];omega
   have hmi:∀x∈l.take i,x.2.2.2.length≤1048576:=fun x h=>hli x (ql2 h)
   have hcl:clashB (l.take i) (x0,x1,x2,x3)=x3.any (fun s=>(l.take i).any fun y=>inS s y.2.2.2):=rfl;have hcl2:clashB (l.take i) (x0,x1,x2,x3)=(l.take i).any (fun y:TI=>x3.any fun s=>inS s y.2.2.2):=by rw [hcl];exact any_swap (fun s (y:TI)=>inS s y.2.2.2) x3 (l.take i)
   rcases ql8 i with h0 | h0
   ·skip;have hi0:¬((0:Int) < (i:Int)):=by omega
    have hpi:incP l i=(incOK (x0,x1,x2,x3) && !clashB (l.take i) (x0,x1,x2,x3)):=by subst h0;exact incP_zero hx
    refine zn [0,9,10,11] ⟨?_⟩;refine v_seq ?_;intros;refine v_block ?_;intros;have F:=Fc.mk (ai (gdm hx) (ai hlti (ai hi0 (ai @decide_false @qma))));refine yR [0,3,4,9,10,11] ⟨?_⟩;refine v_seq ?_;intros;refine v_seq ?_;intro Q13 n13 e13 r13;refine v_draw (by kernel_rfl) ?_;intro K14 q14 k14;show aAny _ _ _ _ 18 (Array.replicate 18 false) _;refine zdLoad q14 true 0 16 ?_;refine zoc 1 (ixOne_con x0 x1 x2 x3 hsx hlx) ⟨?_⟩;refine zdUnOp q14 true 2 18 ?_;refine zdMove q14 true 3 19 ?_;refine zdgMove q14 true 4 20 ?_;refine zdgBinOp q14 true 5 21 ?_;refine zdgMove q14 true 6 22 ?_;refine zdgMove q14 true 7 23 ?_;refine zdgMove q14 true 8 24 ?_;refine zdgBinOpW q14 true 9 25 ?_;refine zdgIndexAddr q14 true 10 26 ?_;refine zdgFieldAddr q14 true 11 27 ?_;refine zdgLoad q14 true 12 28 ?_;refine zdgFieldAddr q14 true 13 29 ?_;refine zdgLoad q14 true 14 30 ?_;refine zdgBinOp q14 true 15 31 ?_;refine zdgPick q14 true 16 32 ?_;refine zdPick q14 true 17 33 ?_;refine aAny_done (by kernel_rfl) ?_;refine k14 _ ?_;refine n13 _ _ (weak_keep [0,3,4,9,10,11,33] _) ?_;refine zk ⟨?_⟩;refine v_condS _ rfl ?_ ?_
    ·intro hc1;have hbad:incP l i=false:=by
      rw [hpi]
      (try simp at hc1)
      first | (simp [hc1];done) | (rcases hc1 with h | h<;>first | (simp [h];done) | (rw [decide_eq_false (show ¬y0 < x0 by omega)];simp;done)) | (rcases hc1 with h | h<;>simp [h];done) | (simp_all;done) | (simp;intros;simp_all;omega)
     refine yR [2] ⟨?_⟩;refine zr ⟨?_⟩;exact ret_pure rfl (by rw [incs_bad hlt hbad]) (.inl rfl)
    ·intro hc1;have hgd:incP l i= !clashB (l.take i) (x0,x1,x2,x3):=by
      rw [hpi]
      (try simp at hc1)
      first | (simp [hc1];done) | (simp_all;done) | (simp;intros;simp_all;omega)
     refine zn [0,3,4,9,10,11] ⟨?_⟩;refine yR [0,4,9,10,11,36,37,38] ⟨?_⟩;refine v_block ?_;intros;refine v_loop (fun j=>⟨[(0,.sl (l.map (fun t:TI=>V.agg [V.int .i64 t.1,V.int .i64 t.2.1,V.bool t.2.2.1,V.sl (t.2.2.2.map V.str)]))),(4,.ptr 0 0 0),(9,.sl (l.map (fun t:TI=>V.agg [V.int .i64 t.1,V.int .i64 t.2.1,V.bool t.2.2.1,V.sl (t.2.2.2.map V.str)]))),(10,.int .i64 l.length),(11,.int .i64 (Nat.cast i)),(36,.sl ((l.take i).map (fun t:TI=>V.agg [V.int .i64 t.1,V.int .i64 t.2.1,V.bool t.2.2.1,V.sl (t.2.2.2.map V.str)]))),(37,.int .i64 (Nat.cast i)),(38,.int .i64 (Nat.cast j))],[.box (.agg [V.int .i64 x0,V.int .i64 x1,V.bool x2,V.sl (x3.map V.str)]) .shal],false,59,0⟩) (fun j=>j≤(l.take i).length∧((l.take i).drop j).any (fun y:TI=>x3.any fun s=>inS s y.2.2.2)=(l.take i).any (fun y:TI=>x3.any fun s=>inS s y.2.2.2)) (fun j=>(l.take i).length - j) 0 ?_ ?_ ?_
     ·refine weak_bothS [0,4,9,10,11,36,37,38] [1] ⟨?_⟩;rfl
     ·exact ⟨qld _,rfl⟩
     ·rintro j hok19 Q19 n19 e19 r19;obtain ⟨hj1,hR2⟩:=hok19;refine yR [0,4,9,10,11,36,37,38,39] ⟨?_⟩;refine v_seq ?_;intros;refine v_condS _ rfl ?_ ?_
      ·intro hc2;have hlj:j < (l.take i).length:=by omega
       obtain ⟨⟨z0,z1,z2,z3⟩,hz⟩:∃x:TI,(l.take i)[j]? =some x:=⟨(l.take i)[j]'(by omega),qla (by omega)⟩;have hst:=any_drop (f:=(fun y:TI=>x3.any fun s=>inS s y.2.2.2)) hz;have hlz:=hmi _ (qlb hz);simp only [] at hlz;refine zn [0,4,9,10,11,36,37,38] ⟨?_⟩;refine v_seq ?_;intros;refine v_block ?_;intros;have F:=Fc.mk (ai (gdm hx) (ai hlti (ai hi0 (ai @decide_false (ai @qma (gdm hz))))));refine yR [0,4,6,9,10,11,36,37,38] ⟨?_⟩;refine yR [0,4,6,9,10,11,36,37,38,43,44,45] ⟨?_⟩;refine v_block ?_;intros;refine v_loop (fun m=>⟨[(0,.sl (l.map (fun t:TI=>V.agg [V.int .i64 t.1,V.int .i64 t.2.1,V.bool t.2.2.1,V.sl (t.2.2.2.map V.str)]))),(4,.ptr 0 0 0),(6,.ptr 1 0 0),(9,.sl (l.map (fun t:TI=>V.agg [V.int .i64 t.1,V.int .i64 t.2.1,V.bool t.2.2.1,V.sl (t.2.2.2.map V.str)]))),(10,.int .i64 l.length),(11,.int .i64 (Nat.cast i)),(36,.sl ((l.take i).map (fun t:TI=>V.agg [V.int .i64 t.1,V.int .i64 t.2.1,V.bool t.2.2.1,V.sl (t.2.2.2.map V.str)]))),(37,.int .i64 (Nat.cast i)),(38,.int .i64 (Nat.cast j)),(43,.sl (x3.map V.str)),(44,.int .i64 x3.length),(45,.int .i64 (Nat.cast m))],[.box (.agg [V.int .i64 x0,V.int .i64 x1,V.bool x2,V.sl (x3.map V.str)]) .shal,.box (.agg [V.int .i64 z0,V.int .i64 z1,V.bool z2,V.sl (z3.map V.str)]) .shal],false,59,0⟩) (fun m=>m≤x3.length∧(x3.drop m).any (fun s=>inS s z3)=x3.any fun s=>inS s z3) (fun m=>x3.length - m) 0 ?_ ?_ ?_
       ·refine weak_bothS [0,4,6,9,10,11,36,37,38,43,44,45] [0,2] ⟨?_⟩;rfl
       ·exact ⟨qld _,rfl⟩
       ·rintro m hok28 Q28 n28 e28 r28;obtain ⟨hm1,hR3⟩:=hok28;refine yR [0,4,6,9,10,11,36,37,38,43,44,45,46] ⟨?_⟩;refine v_seq ?_;intros;refine v_condS _ rfl ?_ ?_
        ·intro hc3;have hlm:m < x3.length:=by omega
         obtain ⟨s,hs⟩:∃s,x3[m]? =some s:=⟨_,qla hlm⟩;have hst3:=any_drop (f:=fun s=>inS s z3) hs;refine zn [0,4,6,9,10,11,36,37,38,43,44,45] ⟨?_⟩;refine v_seq ?_;intros;refine v_block ?_;intros;have F:=Fc.mk (ai (gdm hx) (ai hlti (ai hi0 (ai @decide_false (ai @qma (ai (gdm hz) (gdm hs)))))));refine yR [0,4,6,8,9,10,11,36,37,38,43,44,45] ⟨?_⟩;refine yRc [0,4,6,9,10,11,36,37,38,43,44,45,52] (dsHas_con z3 s hlz) ⟨?_⟩;refine v_condS _ rfl ?_ ?_
         ·intro hc4;have hbad:incP l i=false:=by
           have h3:(x3.any fun s=>inS s z3)=true:=by rw [←hR3,hst3];simp [hc4]
           rw [hgd,hcl2,←hR2,hst];simp only [h3];rfl
          refine yR [2] ⟨?_⟩;refine zr ⟨?_⟩;exact ret_pure rfl (by rw [incs_bad hlt hbad]) (.inl rfl)
         ·intro hc4;refine zn [0,4,6,9,10,11,36,37,38,43,44,45] ⟨?_⟩;refine yV ⟨?_⟩;refine n28 _ (m+1) ?_ ?_ ?_
          ·refine weak_bothS [0,4,6,9,10,11,36,37,38,43,44,45] [0,1] ⟨?_⟩;rfl
          ·exact ⟨by omega,by rw [←hR3,hst3];simp [hc4]⟩
          ·show _ < _;omega
        ·intro hc3;have hno:(x3.any fun s=>inS s z3)=false:=by rw [←hR3,any_end (by omega)]
         refine zn [0,4,9,10,11,36,37,38] ⟨?_⟩;refine yV ⟨?_⟩;refine n19 _ (j+1) ?_ ?_ ?_
         ·refine weak_bothS [0,4,9,10,11,36,37,38] [0] ⟨?_⟩;rfl
         ·exact ⟨by omega,by rw [←hR2,hst];simp only [hno];rfl⟩
         ·show _ < _;show (l.take i).length - (j+1) < (l.take i).length - j;omega
      ·intro hc2;have hgood:incP l i=true:=by rw [hgd,hcl2,←hR2,any_end (by omega)];rfl
       refine zn [0,9,10,11] ⟨?_⟩;refine yV ⟨?_⟩;refine n5 _ (i+1) ?_ ?_ ?_
       ·refine weak_bothS [0,9,10,11] [] ⟨?_⟩;rfl
       ·exact ⟨by omega,upto_step hR hgood⟩
       ·show _ < _;omega
   ·skip;obtain ⟨⟨y0,y1,y2,y3⟩,hy⟩:∃x:TI,l[i - 1]? =some x:=⟨l[i - 1]'(by omega),qla (by omega)⟩;have hi0:(0:Int) < i:=by omega
    have hk:((i:Int) - 1).toNat=i - 1:=by omega
    have hpi:=incP_succ h0 hy hx;refine zn [0,9,10,11] ⟨?_⟩;refine v_seq ?_;intros;refine v_block ?_;intros;have F:=Fc.mk (ai (gdm hx) (ai hlti (ai hi0 (ai hk (ai (gdm hy) (ai @decide_true @qmb))))));refine yR [0,3,4,9,10,11] ⟨?_⟩;refine v_seq ?_;intros;refine v_seq ?_;intro Q45 n45 e45 r45;refine v_draw (by kernel_rfl) ?_;intro K46 q46 k46;show aAny _ _ _ _ 18 (Array.replicate 18 false) _;refine zdLoad q46 true 0 16 ?_;refine zoc 1 (ixOne_con x0 x1 x2 x3 hsx hlx) ⟨?_⟩;refine zdUnOp q46 true 2 18 ?_;refine zdMove q46 true 3 19 ?_;refine zdgMove q46 true 4 20 ?_;refine zdgBinOp q46 true 5 21 ?_;refine zdgMove q46 true 6 22 ?_;refine zdgMove q46 true 7 23 ?_;refine zdgMove q46 true 8 24 ?_;refine zdgBinOpW q46 true 9 25 ?_;refine zdgIndexAddr q46 true 10 26 ?_;refine zdgFieldAddr q46 true 11 27 ?_;refine zdgLoad q46 true 12 28 ?_;refine zdgFieldAddr q46 true 13 29 ?_;refine zdgLoad q46 true 14 30 ?_;refine zdgBinOp q46 true 15 31 ?_;refine zdgPick q46 true 16 32 ?_;refine zdPick q46 true 17 33 ?_;refine aAny_done (by kernel_rfl) ?_;refine k46 _ ?_;refine n45 _ _ (weak_keep [0,3,4,9,10,11,33] _) ?_;refine zk ⟨?_⟩;refine v_condS _ rfl ?_ ?_
    ·intro hc1;have hbad:incP l i=false:=by
      rw [hpi]
      (try simp at hc1)
      first | (simp [hc1];done) | (rcases hc1 with h | h<;>first | (simp [h];done) | (rw [decide_eq_false (show ¬y0 < x0 by omega)];simp;done)) | (rcases hc1 with h | h<;>simp [h];done) | (simp_all;done) | (simp;intros;simp_all;omega)
     refine yR [2] ⟨?_⟩;refine zr ⟨?_⟩;exact ret_pure rfl (by rw [incs_bad hlt hbad]) (.inl rfl)
    ·intro hc1;have hgd:incP l i= !clashB (l.take i) (x0,x1,x2,x3):=by
      rw [hpi]
      (try simp at hc1)
      first | (simp [hc1];done) | (simp_all;done) | (simp;intros;simp_all;omega)
     refine zn [0,3,4,9,10,11] ⟨?_⟩;refine yR [0,4,9,10,11,36,37,38] ⟨?_⟩;refine v_block ?_;intros;refine v_loop (fun j=>⟨[(0,.sl (l.map (fun t:TI=>V.agg [V.int .i64 t.1,V.int .i64 t.2.1,V.bool t.2.2.1,V.sl (t.2.2.2.map V.str)]))),(4,.ptr 0 0 0),(9,.sl (l.map (fun t:TI=>V.agg [V.int .i64 t.1,V.int .i64 t.2.1,V.bool t.2.2.1,V.sl (t.2.2.2.map V.str)]))),(10,.int .i64 l.length),(11,.int .i64 (Nat.cast i)),(36,.sl ((l.take i).map (fun t:TI=>V.agg [V.int .i64 t.1,V.int .i64 t.2.1,V.bool t.2.2.1,V.sl (t.2.2.2.map V.str)]))),(37,.int .i64 (Nat.cast i)),(38,.int .i64 (Nat.cast j))],[.box (.agg [V.int .i64 x0,V.int .i64 x1,V.bool x2,V.sl (x3.map V.str)]) .shal],false,59,0⟩) (fun j=>j≤(l.take i).length∧((l.take i).drop j).any (fun y:TI=>x3.any fun s=>inS s y.2.2.2)=(l.take i).any (fun y:TI=>x3.any fun s=>inS s y.2.2.2)) (fun j=>(l.take i).length - j) 0 ?_ ?_ ?_
     ·refine weak_bothS [0,4,9,10,11,36,37,38] [1] ⟨?_⟩;rfl
     ·exact ⟨qld _,rfl⟩
     ·rintro j hok51 Q51 n51 e51 r51;obtain ⟨hj1,hR2⟩:=hok51;refine yR [0,4,9,10,11,36,37,38,39] ⟨?_⟩;refine v_seq ?_;intros;refine v_condS _ rfl ?_ ?_
      ·intro hc2;have hlj:j < (l.take i).length:=by omega
       obtain ⟨⟨z0,z1,z2,z3⟩,hz⟩:∃x:TI,(l.take i)[j]? =some x:=⟨(l.take i)[j]'(by omega),qla (by omega)⟩;have hst:=any_drop (f:=(fun y:TI=>x3.any fun s=>inS s y.2.2.2)) hz;have hlz:=hmi _ (qlb hz);simp only [] at hlz;refine zn [0,4,9,10,11,36,37,38] ⟨?_⟩;refine v_seq ?_;intros;refine v_block ?_;intros;have F:=Fc.mk (ai (gdm hx) (ai hlti (ai hi0 (ai hk (ai (gdm hy) (ai @decide_true (ai @qmb (gdm hz))))))));refine yR [0,4,6,9,10,11,36,37,38] ⟨?_⟩;refine yR [0,4,6,9,10,11,36,37,38,43,44,45] ⟨?_⟩;refine v_block ?_;intros;refine v_loop (fun m=>⟨[(0,.sl (l.map (fun t:TI=>V.agg [V.int .i64 t.1,V.int .i64 t.2.1,V.bool t.2.2.1,V.sl (t.2.2.2.map V.str)]))),(4,.ptr 0 0 0),(6,.ptr 1 0 0),(9,.sl (l.map (fun t:TI=>V.agg [V.int .i64 t.1,V.int .i64 t.2.1,V.bool t.2.2.1,V.sl (t.2.2.2.map V.str)]))),(10,.int .i64 l.length),(11,.int .i64 (Nat.cast i)),(36,.sl ((l.take i).map (fun t:TI=>V.agg [V.int .i64 t.1,V.int .i64 t.2.1,V.bool t.2.2.1,V.sl (t.2.2.2.map V.str)]))),(37,.int .i64 (Nat.cast i)),(38,.int .i64 (Nat.cast j)),(43,.sl (x3.map V.str)),(44,.int .i64 x3.length),(45,.int .i64 (Nat.cast m))],[.box (.agg [V.int .i64 x0,V.int .i64 x1,V.bool x2,V.sl (x3.map V.str)]) .shal,.box (.agg [V.int .i64 z0,V.int .i64 z1,V.bool z2,V.sl (z3.map V.str)]) .shal],false,59,0⟩) (fun m=>m≤x3.length∧(x3.drop m).any (fun s=>inS s z3)=x3.any fun s=>inS s z3) (fun m=>x3.length - m) 0 ?_ ?_ ?_
       ·refine weak_bothS [0,4,6,9,10,11,36,37,38,43,44,45] [0,2] ⟨?_⟩;rfl
       ·exact ⟨qld _,rfl⟩
       ·rintro m hok60 Q60 n60 e60 r60;obtain ⟨hm1,hR3⟩:=hok60;refine yR [0,4,6,9,10,11,36,37,38,43,44,45,46] ⟨?_⟩;refine v_seq ?_;intros;refine v_condS _ rfl ?_ ?_
        ·intro hc3;have hlm:m < x3.length:=by omega
         obtain ⟨s,hs⟩:∃s,x3[m]? =some s:=⟨_,qla hlm⟩;have hst3:=any_drop (f:=fun s=>inS s z3) hs;refine zn [0,4,6,9,10,11,36,37,38,43,44,45] ⟨?_⟩;refine v_seq ?_;intros;refine v_block ?_;intros;have F:=Fc.mk (ai (gdm hx) (ai hlti (ai hi0 (ai hk (ai (gdm hy) (ai @decide_true (ai @qmb (ai (gdm hz) (gdm hs)))))))));refine yR [0,4,6,8,9,10,11,36,37,38,43,44,45] ⟨?_⟩;refine yRc [0,4,6,9,10,11,36,37,38,43,44,45,52] (dsHas_con z3 s hlz) ⟨?_⟩;refine v_condS _ rfl ?_ ?_
         ·intro hc4;have hbad:incP l i=false:=by
           have h3:(x3.any fun s=>inS s z3)=true:=by rw [←hR3,hst3];simp [hc4]
           rw [hgd,hcl2,←hR2,hst];simp only [h3];rfl
          refine yR [2] ⟨?_⟩;refine zr ⟨?_⟩;exact ret_pure rfl (by rw [incs_bad hlt hbad]) (.inl rfl)
         ·intro hc4;refine zn [0,4,6,9,10,11,36,37,38,43,44,45] ⟨?_⟩;refine yV ⟨?_⟩;refine n60 _ (m+1) ?_ ?_ ?_
          ·refine weak_bothS [0,4,6,9,10,11,36,37,38,43,44,45] [0,1] ⟨?_⟩;rfl
          ·exact ⟨by omega,by rw [←hR3,hst3];simp [hc4]⟩
          ·show _ < _;omega
        ·intro hc3;have hno:(x3.any fun s=>inS s z3)=false:=by rw [←hR3,any_end (by omega)]
         refine zn [0,4,9,10,11,36,37,38] ⟨?_⟩;refine yV ⟨?_⟩;refine n51 _ (j+1) ?_ ?_ ?_
         ·refine weak_bothS [0,4,9,10,11,36,37,38] [0] ⟨?_⟩;rfl
         ·exact ⟨by omega,by rw [←hR2,hst];simp only [hno];rfl⟩
         ·show _ < _;show (l.take i).length - (j+1) < (l.take i).length - j;omega
      ·intro hc2;have hgood:incP l i=true:=by rw [hgd,hcl2,←hR2,any_end (by omega)];rfl
       refine zn [0,9,10,11] ⟨?_⟩;refine yV ⟨?_⟩;refine n5 _ (i+1) ?_ ?_ ?_
       ·refine weak_bothS [0,9,10,11] [] ⟨?_⟩;rfl
       ·exact ⟨by omega,upto_step hR hgood⟩
       ·show _ < _;omega
  ·intro hc0;refine zn [0] ⟨?_⟩;refine yR [2] ⟨?_⟩;refine zr ⟨?_⟩;exact ret_pure rfl (by rw [incs_good (by omega) hR]) (.inl rfl)
end Go.Proofs.YtmhaafinhpopmaaGreatDoor
