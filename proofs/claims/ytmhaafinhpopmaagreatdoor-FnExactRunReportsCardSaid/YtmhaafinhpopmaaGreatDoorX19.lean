/- What functions compute. No condition. -/
import Derived.Test.YtmhaafinhpopmaaGreatDoorX18
set_option linter.unusedSimpArgs false
set_option linter.unusedVariables false
set_option linter.defProp false
namespace Go.Proofs.YtmhaafinhpopmaaGreatDoor
open Go Go.Vm
set_option maxHeartbeats 8000000
def markAppliance (kk:Int) (n:Nat):List TA:=markG (fun j:Nat=>(markT (kk+5 * (j:Int)),(kk+5 * (j:Int)+1),(kk+5 * (j:Int)+1+1),(kk+5 * (j:Int)+1+1+1),(kk+5 * (j:Int)+1+1+1+1))) n
theorem markApplianceS_con (l:List TA) (kk:Int) (hl:l.length≤1048576) (hk:0≤kk∧kk≤1000000000000000):Con Tryz.prog 98 [.ref 0,.int .i64 kk] [.arr (l.map (fun t:TA=>V.agg [V.str t.1,V.int .i64 t.2.1,V.int .i64 t.2.2.1,V.int .i64 t.2.2.2.1,V.int .i64 t.2.2.2.2])) .flat] (.int .i64 (kk+5 * l.length)) [.arr ((markAppliance kk l.length).map (fun t:TA=>V.agg [V.str t.1,V.int .i64 t.2.1,V.int .i64 t.2.2.1,V.int .i64 t.2.2.2.1,V.int .i64 t.2.2.2.2])) .flat]:=by
 refine v_con [.tmp 4] [] Tryz.func98 rfl rfl rfl (by simp [Tryz.ntmps98]) ?_;intro Q0 n0 r0;simp only [Tryz.ntmps98,envFrom,Nat.reduceAdd];have T:=Tys.mk (ai Ty.t3 (ai Ty.t9 (ai Ty.t63 Ty.t156)));have F:=Fc.mk True.intro;refine yR [0,1] ⟨?_⟩;refine v_seq ?_;intros;refine yR [0,1,5] ⟨?_⟩;refine v_block ?_;intro Q4 n4 x4 e4 r4;refine v_loop (fun i=>⟨[(0,.ref 0),(1,.int .i64 (kk+5 * (Nat.cast i))),(5,.int .i64 (Nat.cast i))],[.arr ((markG (fun j:Nat=>(markT (kk+5 * (j:Int)),(kk+5 * (j:Int)+1),(kk+5 * (j:Int)+1+1),(kk+5 * (j:Int)+1+1+1),(kk+5 * (j:Int)+1+1+1+1))) i++l.drop i).map (fun t:TA=>V.agg [V.str t.1,V.int .i64 t.2.1,V.int .i64 t.2.2.1,V.int .i64 t.2.2.2.1,V.int .i64 t.2.2.2.2])) .flat],false,49,0⟩) (fun i=>i≤l.length) (fun i=>l.length - i) 0 ?_ ?_ ?_
 ·refine weak_bothS [0,1,5] [0] ⟨?_⟩;simp [markG]
 ·exact qld _
 ·rintro i hok5 Q5 n5 e5 r5;have hi1:i≤l.length:=hok5;refine v_seq ?_;intros;refine yR [0,1,5,9] ⟨?_⟩;refine v_condS _ rfl ?_ ?_
  ·intro hc0;have hml:=markG_all (g:=(fun j:Nat=>(markT (kk+5 * (j:Int)),(kk+5 * (j:Int)+1),(kk+5 * (j:Int)+1+1),(kk+5 * (j:Int)+1+1+1),(kk+5 * (j:Int)+1+1+1+1)))) hi1;rw [hml] at hc0;have hlt:i < l.length:=by omega
   obtain ⟨⟨x0,x1,x2,x3,x4⟩,hx⟩:∃x:TA,l[i]? =some x:=⟨l[i]'(by omega),qla (by omega)⟩;have hmg:=markG_get (g:=(fun j:Nat=>(markT (kk+5 * (j:Int)),(kk+5 * (j:Int)+1),(kk+5 * (j:Int)+1+1),(kk+5 * (j:Int)+1+1+1),(kk+5 * (j:Int)+1+1+1+1)))) hx;have hms:((markG (fun j:Nat=>(markT (kk+5 * (j:Int)),(kk+5 * (j:Int)+1),(kk+5 * (j:Int)+1+1),(kk+5 * (j:Int)+1+1+1),(kk+5 * (j:Int)+1+1+1+1))) i++l.drop i).map (fun t:TA=>V.agg [V.str t.1,V.int .i64 t.2.1,V.int .i64 t.2.2.1,V.int .i64 t.2.2.2.1,V.int .i64 t.2.2.2.2])).set i (.agg [V.str (markT (kk+5 * (i:Int))),V.int .i64 (kk+5 * (i:Int)+1),V.int .i64 (kk+5 * (i:Int)+1+1),V.int .i64 (kk+5 * (i:Int)+1+1+1),V.int .i64 (kk+5 * (i:Int)+1+1+1+1)])=(markG (fun j:Nat=>(markT (kk+5 * (j:Int)),(kk+5 * (j:Int)+1),(kk+5 * (j:Int)+1+1),(kk+5 * (j:Int)+1+1+1),(kk+5 * (j:Int)+1+1+1+1))) (i+1)++l.drop (i+1)).map (fun t:TA=>V.agg [V.str t.1,V.int .i64 t.2.1,V.int .i64 t.2.2.1,V.int .i64 t.2.2.2.1,V.int .i64 t.2.2.2.2]):=by
    have h:=set_map (f:=(fun t:TA=>V.agg [V.str t.1,V.int .i64 t.2.1,V.int .i64 t.2.2.1,V.int .i64 t.2.2.2.1,V.int .i64 t.2.2.2.2])) (l:=(markG (fun j:Nat=>(markT (kk+5 * (j:Int)),(kk+5 * (j:Int)+1),(kk+5 * (j:Int)+1+1),(kk+5 * (j:Int)+1+1+1),(kk+5 * (j:Int)+1+1+1+1))) i++l.drop i)) (i:=i) (x:=(fun j:Nat=>(markT (kk+5 * (j:Int)),(kk+5 * (j:Int)+1),(kk+5 * (j:Int)+1+1),(kk+5 * (j:Int)+1+1+1),(kk+5 * (j:Int)+1+1+1+1))) i);rw [markG_step hx] at h;exact h
   refine zn [0,1,5] ⟨?_⟩;refine v_seq ?_;intros;refine v_block ?_;intros;have F:=Fc.mk (ai (gdm hmg) (ai hml (ai @getD_set (ai hlt (ai @qlh.{0} (ai @List.set_set.{0} hms))))));refine yRc [0,1,5] (markText_con (kk+5 * (i:Int)) (by omega)) ⟨?_⟩;refine yR [0,1,5] ⟨?_⟩;refine yR [0,1,5] ⟨?_⟩;refine yR [0,1,5] ⟨?_⟩;refine yR [0,1,5] ⟨?_⟩;refine yR [0,1,5] ⟨?_⟩;refine yR [0,1,5] ⟨?_⟩;refine yR [0,1,5] ⟨?_⟩;refine yR [0,1,5] ⟨?_⟩;refine yQ [0,1,5] ⟨?_⟩;refine yV ⟨?_⟩;refine n5 _ (i+1) ?_ ?_ ?_
   ·refine weak_bothS [0,1,5] [0] ⟨?_⟩;simp only [getD_set,List.length_map,hml,hlt,List.length_set,List.set_set,hms,List.take_succ_cons,List.take_zero,List.drop_succ_cons,List.drop_zero,List.drop_nil,List.cons_append,List.nil_append,List.append_nil];rw [show (kk+5 * (i:Int)+1+1+1+1+1)=kk+5 * ((i+1:Nat):Int) by omega];rfl
   ·exact hlt
   ·show _ < _;omega
  ·intro hc0;rw [markG_all (g:=(fun j:Nat=>(markT (kk+5 * (j:Int)),(kk+5 * (j:Int)+1),(kk+5 * (j:Int)+1+1),(kk+5 * (j:Int)+1+1+1),(kk+5 * (j:Int)+1+1+1+1)))) hi1] at hc0;refine zn [1] ⟨?_⟩;refine yR [4] ⟨?_⟩;refine zr ⟨?_⟩;have hend:i=l.length:=by omega
   subst hend;exact ret_lent rfl (by simp) rfl (by simp [markAppliance]) (by simp [Blk.kindIs]) (.inl rfl)
theorem mkAppliance_len (kk:Int) (n:Nat):(markAppliance kk n).length=n:=markG_len _ _
theorem mkAppliance_at {kk:Int} {n i:Nat} (h:i < n):(markAppliance kk n)[i]? =some ((fun j:Nat=>(markT (kk+5 * (j:Int)),(kk+5 * (j:Int)+1),(kk+5 * (j:Int)+1+1),(kk+5 * (j:Int)+1+1+1),(kk+5 * (j:Int)+1+1+1+1))) i):=by
  simp [markAppliance,markG,List.getElem?_map,List.getElem?_range h]
theorem heldApplianceS_con (kk:Int) (n:Nat) (hl:n≤1048576) (hk:0≤kk∧kk≤1000000000000000):Con Tryz.prog 102 [.sl ((markAppliance kk n).map (fun t:TA=>V.agg [V.str t.1,V.int .i64 t.2.1,V.int .i64 t.2.2.1,V.int .i64 t.2.2.2.1,V.int .i64 t.2.2.2.2])),.int .i64 kk] [] (.int .i64 (kk+5 * n)) []:=by
 refine v_con [.tmp 4] [] Tryz.func102 rfl rfl rfl (by simp [Tryz.ntmps102]) ?_;intro Q0 n0 r0;simp only [Tryz.ntmps102,envFrom,Nat.reduceAdd];have T:=Tys.mk (ai Ty.t3 (ai Ty.t9 (ai Ty.t63 Ty.t156)));have F:=Fc.mk True.intro;refine yR [0,1] ⟨?_⟩;refine v_seq ?_;intros;refine yR [0,1,5] ⟨?_⟩;refine v_block ?_;intros;refine v_loop (fun i=>⟨[(0,.sl ((markAppliance kk n).map (fun t:TA=>V.agg [V.str t.1,V.int .i64 t.2.1,V.int .i64 t.2.2.1,V.int .i64 t.2.2.2.1,V.int .i64 t.2.2.2.2]))),(1,.int .i64 (kk+5 * (Nat.cast i))),(5,.int .i64 (Nat.cast i))],[],false,59,0⟩) (fun i=>i≤n) (fun i=>n - i) 0 ?_ ?_ ?_
 ·refine weak_of [0,1,5] ?_;simp only [keep_mk,keepE_nil,keepE_cons,look_cons,look_nil,Nat.reduceEqDiff,reduceIte];simp
 ·exact qld _
 ·rintro i hok5 Q5 n5 e5 r5;have hi1:i≤n:=hok5;refine v_seq ?_;intros;refine yR [0,1,5,9] ⟨?_⟩;refine v_condS _ rfl ?_ ?_
  ·intro hc0;rw [mkAppliance_len] at hc0;have hlt:i < n:=by omega
   have hx:=mkAppliance_at (kk:=kk) hlt;refine zn [0,1,5] ⟨?_⟩;refine v_seq ?_;intros;refine v_block ?_;intros;refine v_seq ?_;intros;refine v_seq ?_;intro Q12 n12 e12 r12;refine v_draw (by kernel_rfl) ?_;intro K13 q13 k13;show aAny _ _ _ _ 8 (Array.replicate 8 false) _;have F:=Fc.mk (ai (gdm hx) @mkAppliance_len);refine zdMove q13 true 0 12 ?_;refine zdMove q13 true 1 13 ?_;refine zdIndexAddr q13 true 2 14 ?_;refine zdFieldAddr q13 true 3 15 ?_;refine zdLoad q13 true 4 16 ?_;refine zdMove q13 true 5 17 ?_;refine zoc 6 (markText_con (kk+5 * (i:Int)) (by omega)) ⟨?_⟩;refine zdBinOp q13 true 7 19 ?_;refine aAny_done (by kernel_rfl) ?_;refine k13 _ ?_;refine n12 _ _ (weak_keep [0,1,5,19] _) ?_;refine zk ⟨?_⟩;refine v_cond _ rfl ?_ ?_
   ·intro hc1;exfalso;first | (simp at hc1;done) | (simp at hc1;omega)
   ·intro hc1;try simp only [zC,reduceCtorEq] at hc1
    refine zn [0,1,5] ⟨?_⟩;refine yR [0,1,5] ⟨?_⟩;refine v_seq ?_;intros;refine yR [0,1,5,28] ⟨?_⟩;refine v_cond _ rfl ?_ ?_
    ·intro hc2;exfalso;first | (simp at hc2;done) | (simp at hc2;omega)
    ·intro hc2;try simp only [zC,reduceCtorEq] at hc2
     refine zn [0,1,5] ⟨?_⟩;refine yR [0,1,5] ⟨?_⟩;refine v_seq ?_;intros;refine yR [0,1,5,37] ⟨?_⟩;refine v_cond _ rfl ?_ ?_
     ·intro hc3;exfalso;first | (simp at hc3;done) | (simp at hc3;omega)
     ·intro hc3;try simp only [zC,reduceCtorEq] at hc3
      refine zn [0,1,5] ⟨?_⟩;refine yR [0,1,5] ⟨?_⟩;refine v_seq ?_;intros;refine yR [0,1,5,46] ⟨?_⟩;refine v_cond _ rfl ?_ ?_
      ·intro hc4;exfalso;first | (simp at hc4;done) | (simp at hc4;omega)
      ·intro hc4;try simp only [zC,reduceCtorEq] at hc4
       refine zn [0,1,5] ⟨?_⟩;refine yR [0,1,5] ⟨?_⟩;refine v_seq ?_;intros;refine yR [0,1,5,55] ⟨?_⟩;refine v_cond _ rfl ?_ ?_
       ·intro hc5;exfalso;first | (simp at hc5;done) | (simp at hc5;omega)
       ·intro hc5;try simp only [zC,reduceCtorEq] at hc5
        refine zn [0,1,5] ⟨?_⟩;refine yQ [0,1,5] ⟨?_⟩;refine yV ⟨?_⟩;refine n5 _ (i+1) ?_ ?_ ?_
        ·refine weak_of [0,1,5] ?_;simp only [keep_mk,keepE_nil,keepE_cons,look_cons,look_nil,Nat.reduceEqDiff,reduceIte];rw [show (kk+5 * (i:Int)+1+1+1+1+1)=kk+5 * ((i+1:Nat):Int) by omega];rfl
        ·exact hlt
        ·show _ < _;omega
  ·intro hc0;rw [mkAppliance_len] at hc0;refine zn [1] ⟨?_⟩;refine yR [4] ⟨?_⟩;refine zr ⟨?_⟩;have hend:i=n:=by omega
   subst hend;exact ret_pure rfl rfl (.inl rfl)
theorem markTown_con (n:Int) (ss:List TS) (k:Int) (hl:ss.length≤1048576) (hk:0≤k∧k≤1000000000000000):Con Tryz.prog 40 [.agg [.int .i64 n,.ref 0],.int .i64 k] [.arr (ss.map (fun t:TS=>V.agg [V.int .i64 t.1,V.int .i64 t.2.1,V.int .i64 t.2.2])) .flat] (.int .i64 (k+3 * ss.length)) [.arr ((markStreet k ss.length).map (fun t:TS=>V.agg [V.int .i64 t.1,V.int .i64 t.2.1,V.int .i64 t.2.2])) .flat]:=by
 refine v_con [.tmp 4] [(97,[0])] Tryz.func40 rfl rfl rfl (by simp [Tryz.ntmps40]) ?_;intro Q0 n0 r0;simp only [Tryz.ntmps40,envFrom,Nat.reduceAdd];have T:=Tys.mk (ai Ty.t3 (ai Ty.t70 (ai Ty.t72 Ty.t164)));have F:=Fc.mk True.intro;refine yR [1,2] ⟨?_⟩;refine yRl [1] (markStreetS_con ss k hl hk) ⟨?_⟩;refine yR [4] ⟨?_⟩;refine zr ⟨?_⟩;exact ret_lent rfl (by simp) rfl (by simp) (by simp [Blk.kindIs]) (.inl rfl)
theorem markStr0_con (k0:Int):Con Tryz.prog 42 [.sl [],.int .i64 k0] [] (.int .i64 k0) []:=by
 refine v_con [.tmp 4] [] Tryz.func42 rfl rfl rfl (by simp [Tryz.ntmps42]) ?_;intro Q0 n0 r0;simp only [Tryz.ntmps42,envFrom,Nat.reduceAdd];have T:=Tys.mk (ai Ty.t3 (ai Ty.t9 Ty.t59));have F:=Fc.mk True.intro;refine yR [0,1] ⟨?_⟩;refine v_seq ?_;intros;refine yR [0,1,5] ⟨?_⟩;refine v_block ?_;intros;refine v_loop (fun i=>⟨[(0,.sl []),(1,.int .i64 k0),(5,.int .i64 0)],[],false,20,0⟩) (fun i=>True) (fun i=>0) () ?_ ?_ ?_
 ·refine weak_of [0,1,5] ?_;simp only [keep_mk,keepE_nil,keepE_cons,look_cons,look_nil,Nat.reduceEqDiff,reduceIte];all_goals rfl
 ·trivial
 ·rintro i hok5 Q5 n5 e5 r5;have hok:True:=hok5;refine v_seq ?_;intros;refine yR [0,1,5,9] ⟨?_⟩;refine v_cond _ rfl ?_ ?_
  ·intro hc0;exfalso;simp at hc0
  ·intro hc0;try simp only [zC,reduceCtorEq] at hc0
   refine zn [1] ⟨?_⟩;refine yR [4] ⟨?_⟩;refine zr ⟨?_⟩;exact ret_pure rfl rfl (.inl rfl)
end Go.Proofs.YtmhaafinhpopmaaGreatDoor
