/- What functions compute. No condition. -/
import Derived.Test.YtcdpeopiajgljaaGreatDoorUz
import Derived.Test.YtcdpeopiajgljaaGreatDoorUty
import Derived.Test.YtcdpeopiajgljaaGreatDoorUmG
import Derived.Test.YtcdpeopiajgljaaGreatDoorX15
import Derived.Test.YtcdpeopiajgljaaGreatDoorX9
import Derived.Test.YtcdpeopiajgljaaGreatDoorX10
set_option linter.unusedSimpArgs false
set_option linter.unusedVariables false
set_option linter.defProp false
namespace Go.Proofs.YtcdpeopiajgljaaGreatDoor
open Go Go.Vm
set_option maxHeartbeats 8000000
set_option maxRecDepth 8000 in
theorem clAdd_con (l:List (Int×Int×Int×Int×Int)) (hl:l.length≤1048576) (c0:Int) (c1:Int) (c2:Int) (c3:Int) (c4:Int):Con Tryz.prog 36 [.sl (l.map (fun t:Int×Int×Int×Int×Int=>V.agg [V.int .i64 t.1,V.int .i64 t.2.1,V.int .i64 t.2.2.1,V.int .i64 t.2.2.2.1,V.int .i64 t.2.2.2.2])),.agg [V.int .i64 c0,V.int .i64 c1,V.int .i64 c2,V.int .i64 c3,V.int .i64 c4]] [] (.ref 0) [.arr ((addL l (c0,c1,c2,c3,c4)).map (fun t:Int×Int×Int×Int×Int=>V.agg [V.int .i64 t.1,V.int .i64 t.2.1,V.int .i64 t.2.2.1,V.int .i64 t.2.2.2.1,V.int .i64 t.2.2.2.2])) .flat]:=by
 refine v_con [.tmp 4] [] Tryz.func36 rfl rfl rfl (by simp [Tryz.ntmps36]) ?_
 intro Q0 n0 r0
 simp only [Tryz.ntmps36,envFrom,Nat.reduceAdd]
 have T:=Tys.mk (ai Ty.t3 (ai Ty.t24 Ty.t26))
 have F:=Fc.mk True.intro
 refine yR [0,3] ⟨?_⟩;refine v_seq ?_;intro Q2 n2 e2 r2;refine yV ⟨?_⟩
 apply n2
 ·apply weak_trans (weak_keep [0,3,5] _)
  simp only [keep_mk,keepE_nil,keepE_cons,look_cons,look_nil,Nat.reduceEqDiff,reduceIte]
  exact weak_freezeF 3 0 [.int .i64 c0,.int .i64 c1,.int .i64 c2,.int .i64 c3,.int .i64 c4] rfl rfl
 try simp only [atSlot_cons,atSlot_nil,Nat.reduceEqDiff,reduceIte,List.set_cons_zero,List.set_cons_succ]
 refine v_seq ?_;intros;refine v_block ?_;intros;refine v_loop (fun q=>⟨[(0,.sl (l.map (fun t:Int×Int×Int×Int×Int=>V.agg [V.int .i64 t.1,V.int .i64 t.2.1,V.int .i64 t.2.2.1,V.int .i64 t.2.2.2.1,V.int .i64 t.2.2.2.2]))),(3,.pv [.agg [V.int .i64 c0,V.int .i64 c1,V.int .i64 c2,V.int .i64 c3,V.int .i64 c4]] 0 0),(5,.int .i64 (Nat.cast q.1))],[],false,35,0⟩) (fun q=>q.1≤l.length∧insAtC l c0 q.1=insAtC l c0 l.length) (fun q=>q.1) ((l.length,0):Nat×Nat) ?_ ?_ ?_
 ·exact weak_same [0,3,5] []
 ·exact ⟨Nat.le_refl _,rfl⟩
 ·rintro ⟨ka,u0⟩ hok6 Q6 n6 e6 r6
  obtain ⟨hk1,hR⟩:=hok6
  simp only [] at hk1 hR⊢
  rcases Nat.eq_zero_or_pos ka with h0k | h0k
  ·skip
   have hk0:¬((0:Int) < (ka:Int)):=by omega
   have hka:insC l (c0,c1,c2,c3,c4)=ka:=by
    show insAtC l c0 l.length=ka
    rw [←hR,h0k];rfl
   refine v_seq ?_;intros;refine v_seq ?_;intro Q8 n8 e8 r8;refine v_draw (by kernel_rfl) ?_;intro K9 q9 k9
   show aAny _ _ _ _ 13 (Array.replicate 13 false) _
   have F:=Fc.mk (ai hk0 (ai @decide_false @Bool.false_and))
   refine zdMove q9 true 0 8 ?_;refine zdBinOp q9 true 1 9 ?_;refine zdMove q9 true 2 10 ?_;refine zdgMove q9 true 3 11 ?_;refine zdgMove q9 true 4 12 ?_;refine zdgBinOpW q9 true 5 13 ?_;refine zdgIndexAddr q9 true 6 14 ?_;refine zdgFieldAddr q9 true 7 15 ?_;refine zdgLoad q9 true 8 16 ?_;refine zdgFieldAddr q9 true 9 17 ?_;refine zdgLoad q9 true 10 18 ?_;refine zdgBinOp q9 true 11 19 ?_;refine zdPick q9 true 12 20 ?_;refine aAny_done (by kernel_rfl) ?_;refine k9 _ ?_;refine n8 _ _ (weak_keep [0,3,5,20] _) ?_;refine zk ⟨?_⟩;refine v_cond _ rfl ?_ ?_
   ·intro hc0
    exfalso;simp at hc0
   ·intro hc0
    try simp only [zC,reduceCtorEq] at hc0
    have hka2:insC l (c0,c1,c2,c3,c4)=ka:=by
     first
     |exact hka
     |(show insAtC l c0 l.length=ka;rw [←hR,hkk,insAtC_lo hv (by simpa using hc0)])
    have haL:addL l (c0,c1,c2,c3,c4)=l.take ka++(c0,c1,c2,c3,c4)::l.drop ka:=by rw [addL,hka2]
    have htk:(l.take ka).length=ka:=by rw [List.length_take];omega
    have hdk:(l.drop ka).length=l.length - ka:=List.length_drop
    have hns:((l.take ka).map (fun t:Int×Int×Int×Int×Int=>V.agg [V.int .i64 t.1,V.int .i64 t.2.1,V.int .i64 t.2.2.1,V.int .i64 t.2.2.2.1,V.int .i64 t.2.2.2.2])).all V.noSl=true:=by rw [List.all_map,List.all_eq_true];intro a _;rfl
    have hns2:((l.drop ka).map (fun t:Int×Int×Int×Int×Int=>V.agg [V.int .i64 t.1,V.int .i64 t.2.1,V.int .i64 t.2.2.1,V.int .i64 t.2.2.2.1,V.int .i64 t.2.2.2.2])).all V.noSl=true:=by rw [List.all_map,List.all_eq_true];intro a _;rfl
    have hsn:(l.take ka).map (fun t:Int×Int×Int×Int×Int=>V.agg [V.int .i64 t.1,V.int .i64 t.2.1,V.int .i64 t.2.2.1,V.int .i64 t.2.2.2.1,V.int .i64 t.2.2.2.2])++[V.agg [V.int .i64 c0,V.int .i64 c1,V.int .i64 c2,V.int .i64 c3,V.int .i64 c4]]=(l.take ka++[(c0,c1,c2,c3,c4)]).map (fun t:Int×Int×Int×Int×Int=>V.agg [V.int .i64 t.1,V.int .i64 t.2.1,V.int .i64 t.2.2.1,V.int .i64 t.2.2.2.1,V.int .i64 t.2.2.2.2]):=by rw [List.map_append];rfl
    have hns3:((l.take ka++[(c0,c1,c2,c3,c4)]).map (fun t:Int×Int×Int×Int×Int=>V.agg [V.int .i64 t.1,V.int .i64 t.2.1,V.int .i64 t.2.2.1,V.int .i64 t.2.2.2.1,V.int .i64 t.2.2.2.2])).all V.noSl=true:=by rw [List.all_map,List.all_eq_true];intro a _;rfl
    have hk1l:(l.take ka++[(c0,c1,c2,c3,c4)]).length=ka+1:=by rw [List.length_append,htk];rfl
    refine zn [0,3,5] ⟨?_⟩;refine v_seq ?_;intro Q11 n11 e11 r11;refine v_draw (by kernel_rfl) ?_;intro K12 q12 k12
    show aAny _ _ _ _ 13 (Array.replicate 13 false) _
    have F:=Fc.mk (ai hk0 (ai @decide_false (ai @Bool.false_and (ai hns (ai hns2 (ai htk (ai hdk (ai hsn (ai hns3 hk1l)))))))))
    refine zdMove q12 true 1 24 ?_;refine zdMove q12 true 2 25 ?_;refine zdSlice q12 true 3 26 ?_;refine zdLoad q12 false 5 28 ?_;refine zdMove q12 false 8 31 ?_;refine zdMove q12 false 9 32 ?_;refine aAny_three 0 6 10 rfl rfl rfl (by kernel_rfl) ?_ ?_ ?_
    ·refine zsBuildSlice ⟨?_⟩
     refine aAny_three 4 6 10 rfl rfl rfl (by kernel_rfl) ?_ ?_ ?_
     ·refine zsAppend ⟨?_⟩
      refine aAny_two 6 10 rfl rfl (by kernel_rfl) ?_ ?_
      ·refine zsBuildSlice ⟨?_⟩
       refine aAny_two 7 10 rfl rfl (by kernel_rfl) ?_ ?_
       ·refine zsAppend ⟨?_⟩
        refine zdSlice q12 true 10 33 ?_;refine zoAppend 11 ⟨?_⟩;refine zoAssign 12 ⟨?_⟩;refine aAny_done (by kernel_rfl) ?_;refine k12 _ ?_;refine n11 _ _ (weak_keep [4] _) ?_;refine zq1 ⟨?_⟩
        have hE:(addL l (c0,c1,c2,c3,c4)).map (fun t:Int×Int×Int×Int×Int=>V.agg [V.int .i64 t.1,V.int .i64 t.2.1,V.int .i64 t.2.2.1,V.int .i64 t.2.2.2.1,V.int .i64 t.2.2.2.2])=(l.take ka++[(c0,c1,c2,c3,c4)]).map (fun t:Int×Int×Int×Int×Int=>V.agg [V.int .i64 t.1,V.int .i64 t.2.1,V.int .i64 t.2.2.1,V.int .i64 t.2.2.2.1,V.int .i64 t.2.2.2.2])++(l.drop ka).map (fun t:Int×Int×Int×Int×Int=>V.agg [V.int .i64 t.1,V.int .i64 t.2.1,V.int .i64 t.2.2.1,V.int .i64 t.2.2.2.1,V.int .i64 t.2.2.2.2]):=by rw [haL];simp
        rw [hE]
        exact ret_refK rfl rfl rfl
       ·refine zsSlice ⟨?_⟩
        refine zoAppend 7 ⟨?_⟩;refine zoAppend 11 ⟨?_⟩;refine zoAssign 12 ⟨?_⟩;refine aAny_done (by kernel_rfl) ?_;refine k12 _ ?_;refine n11 _ _ (weak_keep [4] _) ?_;refine zq1 ⟨?_⟩
        have hE:(addL l (c0,c1,c2,c3,c4)).map (fun t:Int×Int×Int×Int×Int=>V.agg [V.int .i64 t.1,V.int .i64 t.2.1,V.int .i64 t.2.2.1,V.int .i64 t.2.2.2.1,V.int .i64 t.2.2.2.2])=(l.take ka++[(c0,c1,c2,c3,c4)]).map (fun t:Int×Int×Int×Int×Int=>V.agg [V.int .i64 t.1,V.int .i64 t.2.1,V.int .i64 t.2.2.1,V.int .i64 t.2.2.2.1,V.int .i64 t.2.2.2.2])++(l.drop ka).map (fun t:Int×Int×Int×Int×Int=>V.agg [V.int .i64 t.1,V.int .i64 t.2.1,V.int .i64 t.2.2.1,V.int .i64 t.2.2.2.1,V.int .i64 t.2.2.2.2]):=by rw [haL];simp
        rw [hE]
        exact ret_refK rfl rfl rfl
      ·refine zsSlice ⟨?_⟩
       refine zoBuildSlice 6 ⟨?_⟩;refine zoAppend 7 ⟨?_⟩;refine zoAppend 11 ⟨?_⟩;refine zoAssign 12 ⟨?_⟩;refine aAny_done (by kernel_rfl) ?_;refine k12 _ ?_;refine n11 _ _ (weak_keep [4] _) ?_;refine zq1 ⟨?_⟩
       have hE:(addL l (c0,c1,c2,c3,c4)).map (fun t:Int×Int×Int×Int×Int=>V.agg [V.int .i64 t.1,V.int .i64 t.2.1,V.int .i64 t.2.2.1,V.int .i64 t.2.2.2.1,V.int .i64 t.2.2.2.2])=(l.take ka++[(c0,c1,c2,c3,c4)]).map (fun t:Int×Int×Int×Int×Int=>V.agg [V.int .i64 t.1,V.int .i64 t.2.1,V.int .i64 t.2.2.1,V.int .i64 t.2.2.2.1,V.int .i64 t.2.2.2.2])++(l.drop ka).map (fun t:Int×Int×Int×Int×Int=>V.agg [V.int .i64 t.1,V.int .i64 t.2.1,V.int .i64 t.2.2.1,V.int .i64 t.2.2.2.1,V.int .i64 t.2.2.2.2]):=by rw [haL];simp
       rw [hE]
       exact ret_refK rfl rfl rfl
     ·refine zsBuildSlice ⟨?_⟩
      refine aAny_two 4 10 rfl rfl (by kernel_rfl) ?_ ?_
      ·refine zsAppend ⟨?_⟩
       refine aAny_two 7 10 rfl rfl (by kernel_rfl) ?_ ?_
       ·refine zsAppend ⟨?_⟩
        refine zdSlice q12 true 10 33 ?_;refine zoAppend 11 ⟨?_⟩;refine zoAssign 12 ⟨?_⟩;refine aAny_done (by kernel_rfl) ?_;refine k12 _ ?_;refine n11 _ _ (weak_keep [4] _) ?_;refine zq1 ⟨?_⟩
        have hE:(addL l (c0,c1,c2,c3,c4)).map (fun t:Int×Int×Int×Int×Int=>V.agg [V.int .i64 t.1,V.int .i64 t.2.1,V.int .i64 t.2.2.1,V.int .i64 t.2.2.2.1,V.int .i64 t.2.2.2.2])=(l.take ka++[(c0,c1,c2,c3,c4)]).map (fun t:Int×Int×Int×Int×Int=>V.agg [V.int .i64 t.1,V.int .i64 t.2.1,V.int .i64 t.2.2.1,V.int .i64 t.2.2.2.1,V.int .i64 t.2.2.2.2])++(l.drop ka).map (fun t:Int×Int×Int×Int×Int=>V.agg [V.int .i64 t.1,V.int .i64 t.2.1,V.int .i64 t.2.2.1,V.int .i64 t.2.2.2.1,V.int .i64 t.2.2.2.2]):=by rw [haL];simp
        rw [hE]
        exact ret_refK rfl rfl rfl
       ·refine zsSlice ⟨?_⟩
        refine zoAppend 7 ⟨?_⟩;refine zoAppend 11 ⟨?_⟩;refine zoAssign 12 ⟨?_⟩;refine aAny_done (by kernel_rfl) ?_;refine k12 _ ?_;refine n11 _ _ (weak_keep [4] _) ?_;refine zq1 ⟨?_⟩
        have hE:(addL l (c0,c1,c2,c3,c4)).map (fun t:Int×Int×Int×Int×Int=>V.agg [V.int .i64 t.1,V.int .i64 t.2.1,V.int .i64 t.2.2.1,V.int .i64 t.2.2.2.1,V.int .i64 t.2.2.2.2])=(l.take ka++[(c0,c1,c2,c3,c4)]).map (fun t:Int×Int×Int×Int×Int=>V.agg [V.int .i64 t.1,V.int .i64 t.2.1,V.int .i64 t.2.2.1,V.int .i64 t.2.2.2.1,V.int .i64 t.2.2.2.2])++(l.drop ka).map (fun t:Int×Int×Int×Int×Int=>V.agg [V.int .i64 t.1,V.int .i64 t.2.1,V.int .i64 t.2.2.1,V.int .i64 t.2.2.2.1,V.int .i64 t.2.2.2.2]):=by rw [haL];simp
        rw [hE]
        exact ret_refK rfl rfl rfl
      ·refine zsSlice ⟨?_⟩
       refine zoAppend 4 ⟨?_⟩;refine zoAppend 7 ⟨?_⟩;refine zoAppend 11 ⟨?_⟩;refine zoAssign 12 ⟨?_⟩;refine aAny_done (by kernel_rfl) ?_;refine k12 _ ?_;refine n11 _ _ (weak_keep [4] _) ?_;refine zq1 ⟨?_⟩
       have hE:(addL l (c0,c1,c2,c3,c4)).map (fun t:Int×Int×Int×Int×Int=>V.agg [V.int .i64 t.1,V.int .i64 t.2.1,V.int .i64 t.2.2.1,V.int .i64 t.2.2.2.1,V.int .i64 t.2.2.2.2])=(l.take ka++[(c0,c1,c2,c3,c4)]).map (fun t:Int×Int×Int×Int×Int=>V.agg [V.int .i64 t.1,V.int .i64 t.2.1,V.int .i64 t.2.2.1,V.int .i64 t.2.2.2.1,V.int .i64 t.2.2.2.2])++(l.drop ka).map (fun t:Int×Int×Int×Int×Int=>V.agg [V.int .i64 t.1,V.int .i64 t.2.1,V.int .i64 t.2.2.1,V.int .i64 t.2.2.2.1,V.int .i64 t.2.2.2.2]):=by rw [haL];simp
       rw [hE]
       exact ret_refK rfl rfl rfl
     ·refine zsSlice ⟨?_⟩
      refine aAny_two 4 6 rfl rfl (by kernel_rfl) ?_ ?_
      ·refine zsAppend ⟨?_⟩
       refine zoBuildSlice 6 ⟨?_⟩;refine zoAppend 7 ⟨?_⟩;refine zoAppend 11 ⟨?_⟩;refine zoAssign 12 ⟨?_⟩;refine aAny_done (by kernel_rfl) ?_;refine k12 _ ?_;refine n11 _ _ (weak_keep [4] _) ?_;refine zq1 ⟨?_⟩
       have hE:(addL l (c0,c1,c2,c3,c4)).map (fun t:Int×Int×Int×Int×Int=>V.agg [V.int .i64 t.1,V.int .i64 t.2.1,V.int .i64 t.2.2.1,V.int .i64 t.2.2.2.1,V.int .i64 t.2.2.2.2])=(l.take ka++[(c0,c1,c2,c3,c4)]).map (fun t:Int×Int×Int×Int×Int=>V.agg [V.int .i64 t.1,V.int .i64 t.2.1,V.int .i64 t.2.2.1,V.int .i64 t.2.2.2.1,V.int .i64 t.2.2.2.2])++(l.drop ka).map (fun t:Int×Int×Int×Int×Int=>V.agg [V.int .i64 t.1,V.int .i64 t.2.1,V.int .i64 t.2.2.1,V.int .i64 t.2.2.2.1,V.int .i64 t.2.2.2.2]):=by rw [haL];simp
       rw [hE]
       exact ret_refK rfl rfl rfl
      ·refine zsBuildSlice ⟨?_⟩
       refine zoAppend 4 ⟨?_⟩;refine zoAppend 7 ⟨?_⟩;refine zoAppend 11 ⟨?_⟩;refine zoAssign 12 ⟨?_⟩;refine aAny_done (by kernel_rfl) ?_;refine k12 _ ?_;refine n11 _ _ (weak_keep [4] _) ?_;refine zq1 ⟨?_⟩
       have hE:(addL l (c0,c1,c2,c3,c4)).map (fun t:Int×Int×Int×Int×Int=>V.agg [V.int .i64 t.1,V.int .i64 t.2.1,V.int .i64 t.2.2.1,V.int .i64 t.2.2.2.1,V.int .i64 t.2.2.2.2])=(l.take ka++[(c0,c1,c2,c3,c4)]).map (fun t:Int×Int×Int×Int×Int=>V.agg [V.int .i64 t.1,V.int .i64 t.2.1,V.int .i64 t.2.2.1,V.int .i64 t.2.2.2.1,V.int .i64 t.2.2.2.2])++(l.drop ka).map (fun t:Int×Int×Int×Int×Int=>V.agg [V.int .i64 t.1,V.int .i64 t.2.1,V.int .i64 t.2.2.1,V.int .i64 t.2.2.2.1,V.int .i64 t.2.2.2.2]):=by rw [haL];simp
       rw [hE]
       exact ret_refK rfl rfl rfl
    ·refine zsBuildSlice ⟨?_⟩
     refine aAny_two 0 10 rfl rfl (by kernel_rfl) ?_ ?_
     ·refine zsBuildSlice ⟨?_⟩
      refine aAny_two 4 10 rfl rfl (by kernel_rfl) ?_ ?_
      ·refine zsAppend ⟨?_⟩
       refine aAny_two 7 10 rfl rfl (by kernel_rfl) ?_ ?_
       ·refine zsAppend ⟨?_⟩
        refine zdSlice q12 true 10 33 ?_;refine zoAppend 11 ⟨?_⟩;refine zoAssign 12 ⟨?_⟩;refine aAny_done (by kernel_rfl) ?_;refine k12 _ ?_;refine n11 _ _ (weak_keep [4] _) ?_;refine zq1 ⟨?_⟩
        have hE:(addL l (c0,c1,c2,c3,c4)).map (fun t:Int×Int×Int×Int×Int=>V.agg [V.int .i64 t.1,V.int .i64 t.2.1,V.int .i64 t.2.2.1,V.int .i64 t.2.2.2.1,V.int .i64 t.2.2.2.2])=(l.take ka++[(c0,c1,c2,c3,c4)]).map (fun t:Int×Int×Int×Int×Int=>V.agg [V.int .i64 t.1,V.int .i64 t.2.1,V.int .i64 t.2.2.1,V.int .i64 t.2.2.2.1,V.int .i64 t.2.2.2.2])++(l.drop ka).map (fun t:Int×Int×Int×Int×Int=>V.agg [V.int .i64 t.1,V.int .i64 t.2.1,V.int .i64 t.2.2.1,V.int .i64 t.2.2.2.1,V.int .i64 t.2.2.2.2]):=by rw [haL];simp
        rw [hE]
        exact ret_refK rfl rfl rfl
       ·refine zsSlice ⟨?_⟩
        refine zoAppend 7 ⟨?_⟩;refine zoAppend 11 ⟨?_⟩;refine zoAssign 12 ⟨?_⟩;refine aAny_done (by kernel_rfl) ?_;refine k12 _ ?_;refine n11 _ _ (weak_keep [4] _) ?_;refine zq1 ⟨?_⟩
        have hE:(addL l (c0,c1,c2,c3,c4)).map (fun t:Int×Int×Int×Int×Int=>V.agg [V.int .i64 t.1,V.int .i64 t.2.1,V.int .i64 t.2.2.1,V.int .i64 t.2.2.2.1,V.int .i64 t.2.2.2.2])=(l.take ka++[(c0,c1,c2,c3,c4)]).map (fun t:Int×Int×Int×Int×Int=>V.agg [V.int .i64 t.1,V.int .i64 t.2.1,V.int .i64 t.2.2.1,V.int .i64 t.2.2.2.1,V.int .i64 t.2.2.2.2])++(l.drop ka).map (fun t:Int×Int×Int×Int×Int=>V.agg [V.int .i64 t.1,V.int .i64 t.2.1,V.int .i64 t.2.2.1,V.int .i64 t.2.2.2.1,V.int .i64 t.2.2.2.2]):=by rw [haL];simp
        rw [hE]
        exact ret_refK rfl rfl rfl
      ·refine zsSlice ⟨?_⟩
       refine zoAppend 4 ⟨?_⟩;refine zoAppend 7 ⟨?_⟩;refine zoAppend 11 ⟨?_⟩;refine zoAssign 12 ⟨?_⟩;refine aAny_done (by kernel_rfl) ?_;refine k12 _ ?_;refine n11 _ _ (weak_keep [4] _) ?_;refine zq1 ⟨?_⟩
       have hE:(addL l (c0,c1,c2,c3,c4)).map (fun t:Int×Int×Int×Int×Int=>V.agg [V.int .i64 t.1,V.int .i64 t.2.1,V.int .i64 t.2.2.1,V.int .i64 t.2.2.2.1,V.int .i64 t.2.2.2.2])=(l.take ka++[(c0,c1,c2,c3,c4)]).map (fun t:Int×Int×Int×Int×Int=>V.agg [V.int .i64 t.1,V.int .i64 t.2.1,V.int .i64 t.2.2.1,V.int .i64 t.2.2.2.1,V.int .i64 t.2.2.2.2])++(l.drop ka).map (fun t:Int×Int×Int×Int×Int=>V.agg [V.int .i64 t.1,V.int .i64 t.2.1,V.int .i64 t.2.2.1,V.int .i64 t.2.2.2.1,V.int .i64 t.2.2.2.2]):=by rw [haL];simp
       rw [hE]
       exact ret_refK rfl rfl rfl
     ·refine zsSlice ⟨?_⟩
      refine zoBuildSlice 0 ⟨?_⟩;refine zoAppend 4 ⟨?_⟩;refine zoAppend 7 ⟨?_⟩;refine zoAppend 11 ⟨?_⟩;refine zoAssign 12 ⟨?_⟩;refine aAny_done (by kernel_rfl) ?_;refine k12 _ ?_;refine n11 _ _ (weak_keep [4] _) ?_;refine zq1 ⟨?_⟩
      have hE:(addL l (c0,c1,c2,c3,c4)).map (fun t:Int×Int×Int×Int×Int=>V.agg [V.int .i64 t.1,V.int .i64 t.2.1,V.int .i64 t.2.2.1,V.int .i64 t.2.2.2.1,V.int .i64 t.2.2.2.2])=(l.take ka++[(c0,c1,c2,c3,c4)]).map (fun t:Int×Int×Int×Int×Int=>V.agg [V.int .i64 t.1,V.int .i64 t.2.1,V.int .i64 t.2.2.1,V.int .i64 t.2.2.2.1,V.int .i64 t.2.2.2.2])++(l.drop ka).map (fun t:Int×Int×Int×Int×Int=>V.agg [V.int .i64 t.1,V.int .i64 t.2.1,V.int .i64 t.2.2.1,V.int .i64 t.2.2.2.1,V.int .i64 t.2.2.2.2]):=by rw [haL];simp
      rw [hE]
      exact ret_refK rfl rfl rfl
    ·refine zsSlice ⟨?_⟩
     refine aAny_two 0 6 rfl rfl (by kernel_rfl) ?_ ?_
     ·refine zsBuildSlice ⟨?_⟩
      refine aAny_two 4 6 rfl rfl (by kernel_rfl) ?_ ?_
      ·refine zsAppend ⟨?_⟩
       refine zoBuildSlice 6 ⟨?_⟩;refine zoAppend 7 ⟨?_⟩;refine zoAppend 11 ⟨?_⟩;refine zoAssign 12 ⟨?_⟩;refine aAny_done (by kernel_rfl) ?_;refine k12 _ ?_;refine n11 _ _ (weak_keep [4] _) ?_;refine zq1 ⟨?_⟩
       have hE:(addL l (c0,c1,c2,c3,c4)).map (fun t:Int×Int×Int×Int×Int=>V.agg [V.int .i64 t.1,V.int .i64 t.2.1,V.int .i64 t.2.2.1,V.int .i64 t.2.2.2.1,V.int .i64 t.2.2.2.2])=(l.take ka++[(c0,c1,c2,c3,c4)]).map (fun t:Int×Int×Int×Int×Int=>V.agg [V.int .i64 t.1,V.int .i64 t.2.1,V.int .i64 t.2.2.1,V.int .i64 t.2.2.2.1,V.int .i64 t.2.2.2.2])++(l.drop ka).map (fun t:Int×Int×Int×Int×Int=>V.agg [V.int .i64 t.1,V.int .i64 t.2.1,V.int .i64 t.2.2.1,V.int .i64 t.2.2.2.1,V.int .i64 t.2.2.2.2]):=by rw [haL];simp
       rw [hE]
       exact ret_refK rfl rfl rfl
      ·refine zsBuildSlice ⟨?_⟩
       refine zoAppend 4 ⟨?_⟩;refine zoAppend 7 ⟨?_⟩;refine zoAppend 11 ⟨?_⟩;refine zoAssign 12 ⟨?_⟩;refine aAny_done (by kernel_rfl) ?_;refine k12 _ ?_;refine n11 _ _ (weak_keep [4] _) ?_;refine zq1 ⟨?_⟩
       have hE:(addL l (c0,c1,c2,c3,c4)).map (fun t:Int×Int×Int×Int×Int=>V.agg [V.int .i64 t.1,V.int .i64 t.2.1,V.int .i64 t.2.2.1,V.int .i64 t.2.2.2.1,V.int .i64 t.2.2.2.2])=(l.take ka++[(c0,c1,c2,c3,c4)]).map (fun t:Int×Int×Int×Int×Int=>V.agg [V.int .i64 t.1,V.int .i64 t.2.1,V.int .i64 t.2.2.1,V.int .i64 t.2.2.2.1,V.int .i64 t.2.2.2.2])++(l.drop ka).map (fun t:Int×Int×Int×Int×Int=>V.agg [V.int .i64 t.1,V.int .i64 t.2.1,V.int .i64 t.2.2.1,V.int .i64 t.2.2.2.1,V.int .i64 t.2.2.2.2]):=by rw [haL];simp
       rw [hE]
       exact ret_refK rfl rfl rfl
     ·refine zsBuildSlice ⟨?_⟩
      refine zoBuildSlice 0 ⟨?_⟩;refine zoAppend 4 ⟨?_⟩;refine zoAppend 7 ⟨?_⟩;refine zoAppend 11 ⟨?_⟩;refine zoAssign 12 ⟨?_⟩;refine aAny_done (by kernel_rfl) ?_;refine k12 _ ?_;refine n11 _ _ (weak_keep [4] _) ?_;refine zq1 ⟨?_⟩
      have hE:(addL l (c0,c1,c2,c3,c4)).map (fun t:Int×Int×Int×Int×Int=>V.agg [V.int .i64 t.1,V.int .i64 t.2.1,V.int .i64 t.2.2.1,V.int .i64 t.2.2.2.1,V.int .i64 t.2.2.2.2])=(l.take ka++[(c0,c1,c2,c3,c4)]).map (fun t:Int×Int×Int×Int×Int=>V.agg [V.int .i64 t.1,V.int .i64 t.2.1,V.int .i64 t.2.2.1,V.int .i64 t.2.2.2.1,V.int .i64 t.2.2.2.2])++(l.drop ka).map (fun t:Int×Int×Int×Int×Int=>V.agg [V.int .i64 t.1,V.int .i64 t.2.1,V.int .i64 t.2.2.1,V.int .i64 t.2.2.2.1,V.int .i64 t.2.2.2.2]):=by rw [haL];simp
      rw [hE]
      exact ret_refK rfl rfl rfl
  ·skip
   obtain ⟨kb,hkk⟩:∃kb,ka=kb+1:=⟨ka - 1,by omega⟩
   obtain ⟨⟨v0,v1,v2,v3,v4⟩,hv⟩:∃x:Int×Int×Int×Int×Int,l[kb]? =some x:=⟨l[kb]'(by omega),List.getElem?_eq_getElem (by omega)⟩
   have hk0:(0:Int) < (ka:Int):=by omega
   have hkb:(ka:Int) - 1=(kb:Int):=by omega
   refine v_seq ?_;intros;refine v_seq ?_;intro Q14 n14 e14 r14;refine v_draw (by kernel_rfl) ?_;intro K15 q15 k15
   show aAny _ _ _ _ 13 (Array.replicate 13 false) _
   have F:=Fc.mk (ai hk0 (ai @decide_true (ai @Bool.true_and (ai hkb (ai @Int.toNat_natCast (gdm hv))))))
   refine zdMove q15 true 0 8 ?_;refine zdBinOp q15 true 1 9 ?_;refine zdMove q15 true 2 10 ?_;refine zdgMove q15 true 3 11 ?_;refine zdgMove q15 true 4 12 ?_;refine zdgBinOpW q15 true 5 13 ?_;refine zdgIndexAddr q15 true 6 14 ?_;refine zdgFieldAddr q15 true 7 15 ?_;refine zdgLoad q15 true 8 16 ?_;refine zdgFieldAddr q15 true 9 17 ?_;refine zdgLoad q15 true 10 18 ?_;refine zdgBinOp q15 true 11 19 ?_;refine zdPick q15 true 12 20 ?_;refine aAny_done (by kernel_rfl) ?_;refine k15 _ ?_;refine n14 _ _ (weak_keep [0,3,5,20] _) ?_;refine zk ⟨?_⟩;refine v_condS _ rfl ?_ ?_
   ·intro hc0
    have hkv:=hc0
    refine zn [0,3,5] ⟨?_⟩;refine v_block ?_;intros;refine yV ⟨?_⟩;refine n6 _ (kb,0) ?_ ?_ ?_
    ·exact weak_same [0,3,5] []
    ·exact ⟨by omega,by rw [←hR,hkk,insAtC_hi hv (by simpa using hkv)]⟩
    ·show _ < _;omega
   ·intro hc0
    have hka2:insC l (c0,c1,c2,c3,c4)=ka:=by
     first
     |exact hka
     |(show insAtC l c0 l.length=ka;rw [←hR,hkk,insAtC_lo hv (by simpa using hc0)])
    have haL:addL l (c0,c1,c2,c3,c4)=l.take ka++(c0,c1,c2,c3,c4)::l.drop ka:=by rw [addL,hka2]
    have htk:(l.take ka).length=ka:=by rw [List.length_take];omega
    have hdk:(l.drop ka).length=l.length - ka:=List.length_drop
    have hns:((l.take ka).map (fun t:Int×Int×Int×Int×Int=>V.agg [V.int .i64 t.1,V.int .i64 t.2.1,V.int .i64 t.2.2.1,V.int .i64 t.2.2.2.1,V.int .i64 t.2.2.2.2])).all V.noSl=true:=by rw [List.all_map,List.all_eq_true];intro a _;rfl
    have hns2:((l.drop ka).map (fun t:Int×Int×Int×Int×Int=>V.agg [V.int .i64 t.1,V.int .i64 t.2.1,V.int .i64 t.2.2.1,V.int .i64 t.2.2.2.1,V.int .i64 t.2.2.2.2])).all V.noSl=true:=by rw [List.all_map,List.all_eq_true];intro a _;rfl
    have hsn:(l.take ka).map (fun t:Int×Int×Int×Int×Int=>V.agg [V.int .i64 t.1,V.int .i64 t.2.1,V.int .i64 t.2.2.1,V.int .i64 t.2.2.2.1,V.int .i64 t.2.2.2.2])++[V.agg [V.int .i64 c0,V.int .i64 c1,V.int .i64 c2,V.int .i64 c3,V.int .i64 c4]]=(l.take ka++[(c0,c1,c2,c3,c4)]).map (fun t:Int×Int×Int×Int×Int=>V.agg [V.int .i64 t.1,V.int .i64 t.2.1,V.int .i64 t.2.2.1,V.int .i64 t.2.2.2.1,V.int .i64 t.2.2.2.2]):=by rw [List.map_append];rfl
    have hns3:((l.take ka++[(c0,c1,c2,c3,c4)]).map (fun t:Int×Int×Int×Int×Int=>V.agg [V.int .i64 t.1,V.int .i64 t.2.1,V.int .i64 t.2.2.1,V.int .i64 t.2.2.2.1,V.int .i64 t.2.2.2.2])).all V.noSl=true:=by rw [List.all_map,List.all_eq_true];intro a _;rfl
    have hk1l:(l.take ka++[(c0,c1,c2,c3,c4)]).length=ka+1:=by rw [List.length_append,htk];rfl
    refine zn [0,3,5] ⟨?_⟩;refine v_seq ?_;intro Q19 n19 e19 r19;refine v_draw (by kernel_rfl) ?_;intro K20 q20 k20
    show aAny _ _ _ _ 13 (Array.replicate 13 false) _
    have F:=Fc.mk (ai hk0 (ai @decide_true (ai @Bool.true_and (ai hkb (ai @Int.toNat_natCast (ai (gdm hv) (ai hns (ai hns2 (ai htk (ai hdk (ai hsn (ai hns3 hk1l))))))))))))
    refine zdMove q20 true 1 24 ?_;refine zdMove q20 true 2 25 ?_;refine zdSlice q20 true 3 26 ?_;refine zdLoad q20 false 5 28 ?_;refine zdMove q20 false 8 31 ?_;refine zdMove q20 false 9 32 ?_;refine aAny_three 0 6 10 rfl rfl rfl (by kernel_rfl) ?_ ?_ ?_
    ·refine zsBuildSlice ⟨?_⟩
     refine aAny_three 4 6 10 rfl rfl rfl (by kernel_rfl) ?_ ?_ ?_
     ·refine zsAppend ⟨?_⟩
      refine aAny_two 6 10 rfl rfl (by kernel_rfl) ?_ ?_
      ·refine zsBuildSlice ⟨?_⟩
       refine aAny_two 7 10 rfl rfl (by kernel_rfl) ?_ ?_
       ·refine zsAppend ⟨?_⟩
        refine zdSlice q20 true 10 33 ?_;refine zoAppend 11 ⟨?_⟩;refine zoAssign 12 ⟨?_⟩;refine aAny_done (by kernel_rfl) ?_;refine k20 _ ?_;refine n19 _ _ (weak_keep [4] _) ?_;refine zq1 ⟨?_⟩
        have hE:(addL l (c0,c1,c2,c3,c4)).map (fun t:Int×Int×Int×Int×Int=>V.agg [V.int .i64 t.1,V.int .i64 t.2.1,V.int .i64 t.2.2.1,V.int .i64 t.2.2.2.1,V.int .i64 t.2.2.2.2])=(l.take ka++[(c0,c1,c2,c3,c4)]).map (fun t:Int×Int×Int×Int×Int=>V.agg [V.int .i64 t.1,V.int .i64 t.2.1,V.int .i64 t.2.2.1,V.int .i64 t.2.2.2.1,V.int .i64 t.2.2.2.2])++(l.drop ka).map (fun t:Int×Int×Int×Int×Int=>V.agg [V.int .i64 t.1,V.int .i64 t.2.1,V.int .i64 t.2.2.1,V.int .i64 t.2.2.2.1,V.int .i64 t.2.2.2.2]):=by rw [haL];simp
        rw [hE]
        exact ret_refK rfl rfl rfl
       ·refine zsSlice ⟨?_⟩
        refine zoAppend 7 ⟨?_⟩;refine zoAppend 11 ⟨?_⟩;refine zoAssign 12 ⟨?_⟩;refine aAny_done (by kernel_rfl) ?_;refine k20 _ ?_;refine n19 _ _ (weak_keep [4] _) ?_;refine zq1 ⟨?_⟩
        have hE:(addL l (c0,c1,c2,c3,c4)).map (fun t:Int×Int×Int×Int×Int=>V.agg [V.int .i64 t.1,V.int .i64 t.2.1,V.int .i64 t.2.2.1,V.int .i64 t.2.2.2.1,V.int .i64 t.2.2.2.2])=(l.take ka++[(c0,c1,c2,c3,c4)]).map (fun t:Int×Int×Int×Int×Int=>V.agg [V.int .i64 t.1,V.int .i64 t.2.1,V.int .i64 t.2.2.1,V.int .i64 t.2.2.2.1,V.int .i64 t.2.2.2.2])++(l.drop ka).map (fun t:Int×Int×Int×Int×Int=>V.agg [V.int .i64 t.1,V.int .i64 t.2.1,V.int .i64 t.2.2.1,V.int .i64 t.2.2.2.1,V.int .i64 t.2.2.2.2]):=by rw [haL];simp
        rw [hE]
        exact ret_refK rfl rfl rfl
      ·refine zsSlice ⟨?_⟩
       refine zoBuildSlice 6 ⟨?_⟩;refine zoAppend 7 ⟨?_⟩;refine zoAppend 11 ⟨?_⟩;refine zoAssign 12 ⟨?_⟩;refine aAny_done (by kernel_rfl) ?_;refine k20 _ ?_;refine n19 _ _ (weak_keep [4] _) ?_;refine zq1 ⟨?_⟩
       have hE:(addL l (c0,c1,c2,c3,c4)).map (fun t:Int×Int×Int×Int×Int=>V.agg [V.int .i64 t.1,V.int .i64 t.2.1,V.int .i64 t.2.2.1,V.int .i64 t.2.2.2.1,V.int .i64 t.2.2.2.2])=(l.take ka++[(c0,c1,c2,c3,c4)]).map (fun t:Int×Int×Int×Int×Int=>V.agg [V.int .i64 t.1,V.int .i64 t.2.1,V.int .i64 t.2.2.1,V.int .i64 t.2.2.2.1,V.int .i64 t.2.2.2.2])++(l.drop ka).map (fun t:Int×Int×Int×Int×Int=>V.agg [V.int .i64 t.1,V.int .i64 t.2.1,V.int .i64 t.2.2.1,V.int .i64 t.2.2.2.1,V.int .i64 t.2.2.2.2]):=by rw [haL];simp
       rw [hE]
       exact ret_refK rfl rfl rfl
     ·refine zsBuildSlice ⟨?_⟩
      refine aAny_two 4 10 rfl rfl (by kernel_rfl) ?_ ?_
      ·refine zsAppend ⟨?_⟩
       refine aAny_two 7 10 rfl rfl (by kernel_rfl) ?_ ?_
       ·refine zsAppend ⟨?_⟩
        refine zdSlice q20 true 10 33 ?_;refine zoAppend 11 ⟨?_⟩;refine zoAssign 12 ⟨?_⟩;refine aAny_done (by kernel_rfl) ?_;refine k20 _ ?_;refine n19 _ _ (weak_keep [4] _) ?_;refine zq1 ⟨?_⟩
        have hE:(addL l (c0,c1,c2,c3,c4)).map (fun t:Int×Int×Int×Int×Int=>V.agg [V.int .i64 t.1,V.int .i64 t.2.1,V.int .i64 t.2.2.1,V.int .i64 t.2.2.2.1,V.int .i64 t.2.2.2.2])=(l.take ka++[(c0,c1,c2,c3,c4)]).map (fun t:Int×Int×Int×Int×Int=>V.agg [V.int .i64 t.1,V.int .i64 t.2.1,V.int .i64 t.2.2.1,V.int .i64 t.2.2.2.1,V.int .i64 t.2.2.2.2])++(l.drop ka).map (fun t:Int×Int×Int×Int×Int=>V.agg [V.int .i64 t.1,V.int .i64 t.2.1,V.int .i64 t.2.2.1,V.int .i64 t.2.2.2.1,V.int .i64 t.2.2.2.2]):=by rw [haL];simp
        rw [hE]
        exact ret_refK rfl rfl rfl
       ·refine zsSlice ⟨?_⟩
        refine zoAppend 7 ⟨?_⟩;refine zoAppend 11 ⟨?_⟩;refine zoAssign 12 ⟨?_⟩;refine aAny_done (by kernel_rfl) ?_;refine k20 _ ?_;refine n19 _ _ (weak_keep [4] _) ?_;refine zq1 ⟨?_⟩
        have hE:(addL l (c0,c1,c2,c3,c4)).map (fun t:Int×Int×Int×Int×Int=>V.agg [V.int .i64 t.1,V.int .i64 t.2.1,V.int .i64 t.2.2.1,V.int .i64 t.2.2.2.1,V.int .i64 t.2.2.2.2])=(l.take ka++[(c0,c1,c2,c3,c4)]).map (fun t:Int×Int×Int×Int×Int=>V.agg [V.int .i64 t.1,V.int .i64 t.2.1,V.int .i64 t.2.2.1,V.int .i64 t.2.2.2.1,V.int .i64 t.2.2.2.2])++(l.drop ka).map (fun t:Int×Int×Int×Int×Int=>V.agg [V.int .i64 t.1,V.int .i64 t.2.1,V.int .i64 t.2.2.1,V.int .i64 t.2.2.2.1,V.int .i64 t.2.2.2.2]):=by rw [haL];simp
        rw [hE]
        exact ret_refK rfl rfl rfl
      ·refine zsSlice ⟨?_⟩
       refine zoAppend 4 ⟨?_⟩;refine zoAppend 7 ⟨?_⟩;refine zoAppend 11 ⟨?_⟩;refine zoAssign 12 ⟨?_⟩;refine aAny_done (by kernel_rfl) ?_;refine k20 _ ?_;refine n19 _ _ (weak_keep [4] _) ?_;refine zq1 ⟨?_⟩
       have hE:(addL l (c0,c1,c2,c3,c4)).map (fun t:Int×Int×Int×Int×Int=>V.agg [V.int .i64 t.1,V.int .i64 t.2.1,V.int .i64 t.2.2.1,V.int .i64 t.2.2.2.1,V.int .i64 t.2.2.2.2])=(l.take ka++[(c0,c1,c2,c3,c4)]).map (fun t:Int×Int×Int×Int×Int=>V.agg [V.int .i64 t.1,V.int .i64 t.2.1,V.int .i64 t.2.2.1,V.int .i64 t.2.2.2.1,V.int .i64 t.2.2.2.2])++(l.drop ka).map (fun t:Int×Int×Int×Int×Int=>V.agg [V.int .i64 t.1,V.int .i64 t.2.1,V.int .i64 t.2.2.1,V.int .i64 t.2.2.2.1,V.int .i64 t.2.2.2.2]):=by rw [haL];simp
       rw [hE]
       exact ret_refK rfl rfl rfl
     ·refine zsSlice ⟨?_⟩
      refine aAny_two 4 6 rfl rfl (by kernel_rfl) ?_ ?_
      ·refine zsAppend ⟨?_⟩
       refine zoBuildSlice 6 ⟨?_⟩;refine zoAppend 7 ⟨?_⟩;refine zoAppend 11 ⟨?_⟩;refine zoAssign 12 ⟨?_⟩;refine aAny_done (by kernel_rfl) ?_;refine k20 _ ?_;refine n19 _ _ (weak_keep [4] _) ?_;refine zq1 ⟨?_⟩
       have hE:(addL l (c0,c1,c2,c3,c4)).map (fun t:Int×Int×Int×Int×Int=>V.agg [V.int .i64 t.1,V.int .i64 t.2.1,V.int .i64 t.2.2.1,V.int .i64 t.2.2.2.1,V.int .i64 t.2.2.2.2])=(l.take ka++[(c0,c1,c2,c3,c4)]).map (fun t:Int×Int×Int×Int×Int=>V.agg [V.int .i64 t.1,V.int .i64 t.2.1,V.int .i64 t.2.2.1,V.int .i64 t.2.2.2.1,V.int .i64 t.2.2.2.2])++(l.drop ka).map (fun t:Int×Int×Int×Int×Int=>V.agg [V.int .i64 t.1,V.int .i64 t.2.1,V.int .i64 t.2.2.1,V.int .i64 t.2.2.2.1,V.int .i64 t.2.2.2.2]):=by rw [haL];simp
       rw [hE]
       exact ret_refK rfl rfl rfl
      ·refine zsBuildSlice ⟨?_⟩
       refine zoAppend 4 ⟨?_⟩;refine zoAppend 7 ⟨?_⟩;refine zoAppend 11 ⟨?_⟩;refine zoAssign 12 ⟨?_⟩;refine aAny_done (by kernel_rfl) ?_;refine k20 _ ?_;refine n19 _ _ (weak_keep [4] _) ?_;refine zq1 ⟨?_⟩
       have hE:(addL l (c0,c1,c2,c3,c4)).map (fun t:Int×Int×Int×Int×Int=>V.agg [V.int .i64 t.1,V.int .i64 t.2.1,V.int .i64 t.2.2.1,V.int .i64 t.2.2.2.1,V.int .i64 t.2.2.2.2])=(l.take ka++[(c0,c1,c2,c3,c4)]).map (fun t:Int×Int×Int×Int×Int=>V.agg [V.int .i64 t.1,V.int .i64 t.2.1,V.int .i64 t.2.2.1,V.int .i64 t.2.2.2.1,V.int .i64 t.2.2.2.2])++(l.drop ka).map (fun t:Int×Int×Int×Int×Int=>V.agg [V.int .i64 t.1,V.int .i64 t.2.1,V.int .i64 t.2.2.1,V.int .i64 t.2.2.2.1,V.int .i64 t.2.2.2.2]):=by rw [haL];simp
       rw [hE]
       exact ret_refK rfl rfl rfl
    ·refine zsBuildSlice ⟨?_⟩
     refine aAny_two 0 10 rfl rfl (by kernel_rfl) ?_ ?_
     ·refine zsBuildSlice ⟨?_⟩
      refine aAny_two 4 10 rfl rfl (by kernel_rfl) ?_ ?_
      ·refine zsAppend ⟨?_⟩
       refine aAny_two 7 10 rfl rfl (by kernel_rfl) ?_ ?_
       ·refine zsAppend ⟨?_⟩
        refine zdSlice q20 true 10 33 ?_;refine zoAppend 11 ⟨?_⟩;refine zoAssign 12 ⟨?_⟩;refine aAny_done (by kernel_rfl) ?_;refine k20 _ ?_;refine n19 _ _ (weak_keep [4] _) ?_;refine zq1 ⟨?_⟩
        have hE:(addL l (c0,c1,c2,c3,c4)).map (fun t:Int×Int×Int×Int×Int=>V.agg [V.int .i64 t.1,V.int .i64 t.2.1,V.int .i64 t.2.2.1,V.int .i64 t.2.2.2.1,V.int .i64 t.2.2.2.2])=(l.take ka++[(c0,c1,c2,c3,c4)]).map (fun t:Int×Int×Int×Int×Int=>V.agg [V.int .i64 t.1,V.int .i64 t.2.1,V.int .i64 t.2.2.1,V.int .i64 t.2.2.2.1,V.int .i64 t.2.2.2.2])++(l.drop ka).map (fun t:Int×Int×Int×Int×Int=>V.agg [V.int .i64 t.1,V.int .i64 t.2.1,V.int .i64 t.2.2.1,V.int .i64 t.2.2.2.1,V.int .i64 t.2.2.2.2]):=by rw [haL];simp
        rw [hE]
        exact ret_refK rfl rfl rfl
       ·refine zsSlice ⟨?_⟩
        refine zoAppend 7 ⟨?_⟩;refine zoAppend 11 ⟨?_⟩;refine zoAssign 12 ⟨?_⟩;refine aAny_done (by kernel_rfl) ?_;refine k20 _ ?_;refine n19 _ _ (weak_keep [4] _) ?_;refine zq1 ⟨?_⟩
        have hE:(addL l (c0,c1,c2,c3,c4)).map (fun t:Int×Int×Int×Int×Int=>V.agg [V.int .i64 t.1,V.int .i64 t.2.1,V.int .i64 t.2.2.1,V.int .i64 t.2.2.2.1,V.int .i64 t.2.2.2.2])=(l.take ka++[(c0,c1,c2,c3,c4)]).map (fun t:Int×Int×Int×Int×Int=>V.agg [V.int .i64 t.1,V.int .i64 t.2.1,V.int .i64 t.2.2.1,V.int .i64 t.2.2.2.1,V.int .i64 t.2.2.2.2])++(l.drop ka).map (fun t:Int×Int×Int×Int×Int=>V.agg [V.int .i64 t.1,V.int .i64 t.2.1,V.int .i64 t.2.2.1,V.int .i64 t.2.2.2.1,V.int .i64 t.2.2.2.2]):=by rw [haL];simp
        rw [hE]
        exact ret_refK rfl rfl rfl
      ·refine zsSlice ⟨?_⟩
       refine zoAppend 4 ⟨?_⟩;refine zoAppend 7 ⟨?_⟩;refine zoAppend 11 ⟨?_⟩;refine zoAssign 12 ⟨?_⟩;refine aAny_done (by kernel_rfl) ?_;refine k20 _ ?_;refine n19 _ _ (weak_keep [4] _) ?_;refine zq1 ⟨?_⟩
       have hE:(addL l (c0,c1,c2,c3,c4)).map (fun t:Int×Int×Int×Int×Int=>V.agg [V.int .i64 t.1,V.int .i64 t.2.1,V.int .i64 t.2.2.1,V.int .i64 t.2.2.2.1,V.int .i64 t.2.2.2.2])=(l.take ka++[(c0,c1,c2,c3,c4)]).map (fun t:Int×Int×Int×Int×Int=>V.agg [V.int .i64 t.1,V.int .i64 t.2.1,V.int .i64 t.2.2.1,V.int .i64 t.2.2.2.1,V.int .i64 t.2.2.2.2])++(l.drop ka).map (fun t:Int×Int×Int×Int×Int=>V.agg [V.int .i64 t.1,V.int .i64 t.2.1,V.int .i64 t.2.2.1,V.int .i64 t.2.2.2.1,V.int .i64 t.2.2.2.2]):=by rw [haL];simp
       rw [hE]
       exact ret_refK rfl rfl rfl
     ·refine zsSlice ⟨?_⟩
      refine zoBuildSlice 0 ⟨?_⟩;refine zoAppend 4 ⟨?_⟩;refine zoAppend 7 ⟨?_⟩;refine zoAppend 11 ⟨?_⟩;refine zoAssign 12 ⟨?_⟩;refine aAny_done (by kernel_rfl) ?_;refine k20 _ ?_;refine n19 _ _ (weak_keep [4] _) ?_;refine zq1 ⟨?_⟩
      have hE:(addL l (c0,c1,c2,c3,c4)).map (fun t:Int×Int×Int×Int×Int=>V.agg [V.int .i64 t.1,V.int .i64 t.2.1,V.int .i64 t.2.2.1,V.int .i64 t.2.2.2.1,V.int .i64 t.2.2.2.2])=(l.take ka++[(c0,c1,c2,c3,c4)]).map (fun t:Int×Int×Int×Int×Int=>V.agg [V.int .i64 t.1,V.int .i64 t.2.1,V.int .i64 t.2.2.1,V.int .i64 t.2.2.2.1,V.int .i64 t.2.2.2.2])++(l.drop ka).map (fun t:Int×Int×Int×Int×Int=>V.agg [V.int .i64 t.1,V.int .i64 t.2.1,V.int .i64 t.2.2.1,V.int .i64 t.2.2.2.1,V.int .i64 t.2.2.2.2]):=by rw [haL];simp
      rw [hE]
      exact ret_refK rfl rfl rfl
    ·refine zsSlice ⟨?_⟩
     refine aAny_two 0 6 rfl rfl (by kernel_rfl) ?_ ?_
     ·refine zsBuildSlice ⟨?_⟩
      refine aAny_two 4 6 rfl rfl (by kernel_rfl) ?_ ?_
      ·refine zsAppend ⟨?_⟩
       refine zoBuildSlice 6 ⟨?_⟩;refine zoAppend 7 ⟨?_⟩;refine zoAppend 11 ⟨?_⟩;refine zoAssign 12 ⟨?_⟩;refine aAny_done (by kernel_rfl) ?_;refine k20 _ ?_;refine n19 _ _ (weak_keep [4] _) ?_;refine zq1 ⟨?_⟩
       have hE:(addL l (c0,c1,c2,c3,c4)).map (fun t:Int×Int×Int×Int×Int=>V.agg [V.int .i64 t.1,V.int .i64 t.2.1,V.int .i64 t.2.2.1,V.int .i64 t.2.2.2.1,V.int .i64 t.2.2.2.2])=(l.take ka++[(c0,c1,c2,c3,c4)]).map (fun t:Int×Int×Int×Int×Int=>V.agg [V.int .i64 t.1,V.int .i64 t.2.1,V.int .i64 t.2.2.1,V.int .i64 t.2.2.2.1,V.int .i64 t.2.2.2.2])++(l.drop ka).map (fun t:Int×Int×Int×Int×Int=>V.agg [V.int .i64 t.1,V.int .i64 t.2.1,V.int .i64 t.2.2.1,V.int .i64 t.2.2.2.1,V.int .i64 t.2.2.2.2]):=by rw [haL];simp
       rw [hE]
       exact ret_refK rfl rfl rfl
      ·refine zsBuildSlice ⟨?_⟩
       refine zoAppend 4 ⟨?_⟩;refine zoAppend 7 ⟨?_⟩;refine zoAppend 11 ⟨?_⟩;refine zoAssign 12 ⟨?_⟩;refine aAny_done (by kernel_rfl) ?_;refine k20 _ ?_;refine n19 _ _ (weak_keep [4] _) ?_;refine zq1 ⟨?_⟩
       have hE:(addL l (c0,c1,c2,c3,c4)).map (fun t:Int×Int×Int×Int×Int=>V.agg [V.int .i64 t.1,V.int .i64 t.2.1,V.int .i64 t.2.2.1,V.int .i64 t.2.2.2.1,V.int .i64 t.2.2.2.2])=(l.take ka++[(c0,c1,c2,c3,c4)]).map (fun t:Int×Int×Int×Int×Int=>V.agg [V.int .i64 t.1,V.int .i64 t.2.1,V.int .i64 t.2.2.1,V.int .i64 t.2.2.2.1,V.int .i64 t.2.2.2.2])++(l.drop ka).map (fun t:Int×Int×Int×Int×Int=>V.agg [V.int .i64 t.1,V.int .i64 t.2.1,V.int .i64 t.2.2.1,V.int .i64 t.2.2.2.1,V.int .i64 t.2.2.2.2]):=by rw [haL];simp
       rw [hE]
       exact ret_refK rfl rfl rfl
     ·refine zsBuildSlice ⟨?_⟩
      refine zoBuildSlice 0 ⟨?_⟩;refine zoAppend 4 ⟨?_⟩;refine zoAppend 7 ⟨?_⟩;refine zoAppend 11 ⟨?_⟩;refine zoAssign 12 ⟨?_⟩;refine aAny_done (by kernel_rfl) ?_;refine k20 _ ?_;refine n19 _ _ (weak_keep [4] _) ?_;refine zq1 ⟨?_⟩
      have hE:(addL l (c0,c1,c2,c3,c4)).map (fun t:Int×Int×Int×Int×Int=>V.agg [V.int .i64 t.1,V.int .i64 t.2.1,V.int .i64 t.2.2.1,V.int .i64 t.2.2.2.1,V.int .i64 t.2.2.2.2])=(l.take ka++[(c0,c1,c2,c3,c4)]).map (fun t:Int×Int×Int×Int×Int=>V.agg [V.int .i64 t.1,V.int .i64 t.2.1,V.int .i64 t.2.2.1,V.int .i64 t.2.2.2.1,V.int .i64 t.2.2.2.2])++(l.drop ka).map (fun t:Int×Int×Int×Int×Int=>V.agg [V.int .i64 t.1,V.int .i64 t.2.1,V.int .i64 t.2.2.1,V.int .i64 t.2.2.2.1,V.int .i64 t.2.2.2.2]):=by rw [haL];simp
      rw [hE]
      exact ret_refK rfl rfl rfl
theorem specAddCall_con (l:List (Int×Int×Int×Int×Int)) (hl:l.length≤1048576) (c0:Int) (c1:Int) (c2:Int) (c3:Int) (c4:Int):Con Tryz.prog 7 [.sl (l.map (fun t:Int×Int×Int×Int×Int=>V.agg [V.int .i64 t.1,V.int .i64 t.2.1,V.int .i64 t.2.2.1,V.int .i64 t.2.2.2.1,V.int .i64 t.2.2.2.2])),.agg [V.int .i64 c0,V.int .i64 c1,V.int .i64 c2,V.int .i64 c3,V.int .i64 c4]] [] (.tup [.ref 0,.bool (adB l (c0,c1,c2,c3,c4))]) [.arr ((adR l (c0,c1,c2,c3,c4)).map (fun t:Int×Int×Int×Int×Int=>V.agg [V.int .i64 t.1,V.int .i64 t.2.1,V.int .i64 t.2.2.1,V.int .i64 t.2.2.2.1,V.int .i64 t.2.2.2.2])) .flat]:=by
 refine v_con [.tmp 4,.tmp 5] [] Tryz.func7 rfl rfl rfl (by simp [Tryz.ntmps7]) ?_
 intro Q0 n0 r0
 simp only [Tryz.ntmps7,envFrom,Nat.reduceAdd]
 have T:=Tys.mk (ai Ty.t3 (ai Ty.t4 (ai Ty.t24 Ty.t26)))
 have F:=Fc.mk True.intro
 refine yR [0,3] ⟨?_⟩;refine v_seq ?_;intros;refine yRcg [0,3,18] (clGood_con l hl) (clOne_con c0 c1 c2 c3 c4) ⟨?_⟩;refine v_condS _ rfl ?_ ?_
 ·intro hc0
  have hB:(adB l (c0,c1,c2,c3,c4))=false:=by
   cases hq:(adB l (c0,c1,c2,c3,c4)) with
   |false=>rfl
   |true=>
    exfalso
    rw [adB,Bool.and_eq_true,Bool.and_eq_true,Bool.not_eq_true',decide_eq_false_iff_not] at hq
    simp [hq.1.1,hq.1.2] at hc0
    exact hq.2 hc0
  refine yR [4,5] ⟨?_⟩;refine zr ⟨?_⟩
  have hz:(adR l (c0,c1,c2,c3,c4))=[]:=by rw [adR,hB];rfl
  rw [hz,hB]
  exact ret_ref_tup rfl rfl rfl (.inl rfl)
 ·intro hc0
  have hq:(csB l=true∧cOne (c0,c1,c2,c3,c4)=true)∧¬((l.length:Int)=20):=by
   (try simp at hc0)
   first | exact hc0 | exact ⟨⟨hc0.1,hc0.2.1⟩,hc0.2.2⟩ | exact ⟨⟨hc0.2.2,hc0.2.1⟩,hc0.1⟩ | (refine ⟨⟨?_,?_⟩,?_⟩<;>simp_all)
  have hB:(adB l (c0,c1,c2,c3,c4))=true:=by rw [adB,hq.1.1,hq.1.2,decide_eq_false hq.2];rfl
  have hl20:=cs_len hq.1.1
  have hRa:(adR l (c0,c1,c2,c3,c4))=addL l (c0,c1,c2,c3,c4):=if_pos hB
  refine zn [0,3] ⟨?_⟩;refine yRc [4,5] (clAdd_con l (by omega) c0 c1 c2 c3 c4) ⟨?_⟩;refine zr ⟨?_⟩
  rw [hRa,hB]
  exact ret_ref_tup rfl rfl rfl (.inl rfl)
end Go.Proofs.YtcdpeopiajgljaaGreatDoor
