/- What functions compute. No condition. -/
import Derived.Test.YtmhaafinhpopmaaGreatX26
import Derived.Test.YtmhaafinhpopmaaGreatX17
set_option linter.unusedSimpArgs false
set_option linter.unusedVariables false
set_option linter.defProp false
namespace Go.Proofs.YtmhaafinhpopmaaGreat
open Go Go.Vm
set_option maxHeartbeats 8000000
set_option maxRecDepth 8000 in
theorem extend_nil (us:List TA) (need:List Int) (a0:Nat) (outs:List (List ByteArray)) (hfl:us.length≤12) (hk:∀a∈us,0≤a.2.1∧a.2.1≤3) (hn:(need.length=4∧∀x∈need,0≤x∧x≤6)) (ha:a0≤us.length) (hol:outs.length≤20) (ih:∀(b:Nat) (nd:List Int) (nms:List ByteArray) (os:List (List ByteArray)),a0 < b→b≤us.length→(nd.length=4∧∀x∈nd,0≤x∧x≤6)→nms.length≤b→os.length≤20→ConS Tryz.prog 64 [.int .i64 (b:Int),.ref 4,.ptr 0 0 0,.ptr 1 0 0,.ptr 2 0 0,.ptr 3 0 0] [.box (slN (nd.map (V.int .i64))) .deep,.box (slN (os.map (fun l:List ByteArray=>V.sl (l.map V.str)))) .deep,.box (.sl (us.map (fun t:TA=>V.agg [V.str t.1,V.int .i64 t.2.1,V.int .i64 t.2.2.1,V.int .i64 t.2.2.2.1,V.int .i64 t.2.2.2.2]))) .shal,.box (.fn 64 [.ptr 0 0 0,.ptr 1 0 0,.ptr 2 0 0,.ptr 3 0 0]) .mix,.arr (nms.map V.str) .flat] [.box (slN (nd.map (V.int .i64))) .deep,.box (slN ((extI nd ((us.drop b).map fun a=>(a.1,a.2.1)) nms os).map (fun l:List ByteArray=>V.sl (l.map V.str)))) .deep,.box (.sl (us.map (fun t:TA=>V.agg [V.str t.1,V.int .i64 t.2.1,V.int .i64 t.2.2.1,V.int .i64 t.2.2.2.1,V.int .i64 t.2.2.2.2]))) .shal,.box (.fn 64 [.ptr 0 0 0,.ptr 1 0 0,.ptr 2 0 0,.ptr 3 0 0]) .mix,.arr (nms.map V.str) .flat]):ConS Tryz.prog 64 [.int .i64 (a0:Int),.nsl,.ptr 0 0 0,.ptr 1 0 0,.ptr 2 0 0,.ptr 3 0 0] [.box (slN (need.map (V.int .i64))) .deep,.box (slN (outs.map (fun l:List ByteArray=>V.sl (l.map V.str)))) .deep,.box (.sl (us.map (fun t:TA=>V.agg [V.str t.1,V.int .i64 t.2.1,V.int .i64 t.2.2.1,V.int .i64 t.2.2.2.1,V.int .i64 t.2.2.2.2]))) .shal,.box (.fn 64 [.ptr 0 0 0,.ptr 1 0 0,.ptr 2 0 0,.ptr 3 0 0]) .mix] [.box (slN (need.map (V.int .i64))) .deep,.box (slN ((extI need ((us.drop a0).map fun a=>(a.1,a.2.1)) ([]:List ByteArray) outs).map (fun l:List ByteArray=>V.sl (l.map V.str)))) .deep,.box (.sl (us.map (fun t:TA=>V.agg [V.str t.1,V.int .i64 t.2.1,V.int .i64 t.2.2.1,V.int .i64 t.2.2.2.1,V.int .i64 t.2.2.2.2]))) .shal,.box (.fn 64 [.ptr 0 0 0,.ptr 1 0 0,.ptr 2 0 0,.ptr 3 0 0]) .mix]:=by
 have hnsn:(need.map (V.int .i64)).all V.noSl=true:=by rw [List.all_map,qlh];intro a _;rfl
 obtain ⟨mx,hmax,hmx⟩:=max_need hn;have hll:need.length=4:=hn.1;refine v_conS [(64,[2,3,4,5,1])] Tryz.func64 rfl rfl rfl (by simp [Tryz.ntmps64]) _ (weak_trans (weak_outB 0 (need.map (V.int .i64)) .flat rfl (fun _=>rfl) (fun _=>.inr ⟨rfl,nsI _⟩) rfl) (weak_outB 1 (outs.map (fun l:List ByteArray=>V.sl (l.map V.str))) (fillK outs.length) rfl kO0 kO1 rfl)) ?_;intro Q0 n0 r0;simp only [Tryz.ntmps64,envFrom,Nat.reduceAdd,List.set_cons_zero,List.set_cons_succ,List.cons_append,List.nil_append,List.length_cons,List.length_nil];have T:=Tys.mk (ai Ty.t3 (ai Ty.t9 (ai Ty.t27 (ai Ty.t28 (ai Ty.t31 (ai Ty.t38 (ai Ty.t72 Ty.t91)))))));have F:=Fc.mk True.intro;refine v_seq ?_;intro Q1 n1 e1 r1;refine yRc [0,1,2,3,4,5,12] (hmax) ⟨?_⟩;refine v_condS _ rfl ?_ ?_
 ·intro hc0;have hz:=hmx.1 hc0;have hdb:extI need ((us.drop a0).map fun a=>(a.1,a.2.1)) ([]:List ByteArray) outs=outs++[([]:List ByteArray)]:=by rw [extI,if_pos hz]
  rw [hdb] at n0 r0;refine v_seq ?_;intro Q4 n4 e4 r4;refine v_draw (by kernel_rfl) ?_;intro K5 q5 k5;show aAny _ _ _ _ 6 (Array.replicate 6 false) _;refine zdLoad q5 true 0 13 ?_;refine zdMove q5 true 1 14 ?_;refine zoc 2 (cloneStr_con [] (by simp)) ⟨?_⟩;refine zoBuildSlice 3 ⟨?_⟩;refine zoAppend 4 ⟨?_⟩;refine zoStore 5 ⟨?_⟩;refine aAny_done (by kernel_rfl) ?_;refine k5 _ ?_;refine n4 _ _ (weak_keep [] _) ?_;refine zk ⟨?_⟩;refine v_ret ?_;refine r1 _ ?_;refine r0 _ ⟨[],[.box (slN (need.map (V.int .i64))) .deep,.box (slN ((outs++[([]:List ByteArray)]).map (fun l:List ByteArray=>V.sl (l.map V.str)))) .deep,.box (.sl (us.map (fun t:TA=>V.agg [V.str t.1,V.int .i64 t.2.1,V.int .i64 t.2.2.1,V.int .i64 t.2.2.2.1,V.int .i64 t.2.2.2.2]))) .shal,.box (.fn 64 [.ptr 0 0 0,.ptr 1 0 0,.ptr 2 0 0,.ptr 3 0 0]) .mix],false,64,0⟩ ?_ ⟨rfl,rfl⟩;exact weak_trans (weak_trans (weak_inB 0 4 (need.map (V.int .i64)) .mix .flat rfl (.inr rfl) rfl (by decide) (.inl rfl)) (weak_inB 1 8 ((outs++[([]:List ByteArray)]).map (fun l:List ByteArray=>V.sl (l.map V.str))) .mix (fillK (outs++[([]:List ByteArray)]).length) rfl (.inr rfl) (by rw [ql1,qlm];rfl) (by decide) (fillK_or _))) (weak_same [] [0,1,2,3] (hm:=by show ∀j,j < 4→_;decide))
 ·intro hc0;have hz:zeroL need=false:=by cases q:zeroL need with | false=>rfl | true=>exact absurd (hmx.2 q) hc0
  have hdb:extI need ((us.drop a0).map fun a=>(a.1,a.2.1)) ([]:List ByteArray) outs=(loopI need ((us.drop a0).map fun a=>(a.1,a.2.1)) ([]:List ByteArray) outs):=by rw [extI,if_neg (by rw [hz];decide)]
  rw [hdb] at n0 r0;refine zn [0,1,2,3,4,5] ⟨?_⟩;refine yR [1,2,3,4,5,8] ⟨?_⟩;refine v_block ?_;intros;refine v_loop (fun p=>⟨[(1,.nsl),(2,.ptr 0 0 0),(3,.ptr 1 0 0),(4,.ptr 2 0 0),(5,.ptr 3 0 0),(8,.int .i64 (Nat.cast p.1))],[.box (.ref 4) .mix,.box (.ref 5) .mix,.box (.sl (us.map (fun t:TA=>V.agg [V.str t.1,V.int .i64 t.2.1,V.int .i64 t.2.2.1,V.int .i64 t.2.2.2.1,V.int .i64 t.2.2.2.2]))) .shal,.box (.fn 64 [.ptr 0 0 0,.ptr 1 0 0,.ptr 2 0 0,.ptr 3 0 0]) .mix,.arr (need.map (V.int .i64)) .flat,.arr (p.2.map (fun l:List ByteArray=>V.sl (l.map V.str))) (fillK p.2.length)],false,64,0⟩) (fun p=>(a0≤p.1∧p.1≤us.length)∧p.2.length≤21∧loopI need ((us.drop p.1).map fun a=>(a.1,a.2.1)) ([]:List ByteArray) p.2=(loopI need ((us.drop a0).map fun a=>(a.1,a.2.1)) ([]:List ByteArray) outs)) (fun p=>us.length - p.1) ((a0,outs):Nat×List (List ByteArray)) ?_ ?_ ?_
  ·exact weak_same [1,2,3,4,5,8] [0,1,2,3,4,5] (hm:=by show ∀j,j < 4→_;decide)
  ·exact ⟨⟨qlu _,ha⟩,by show outs.length≤21;omega,rfl⟩
  ·rintro ⟨i,acc⟩ hok8 Q8 n8 e8 r8;obtain ⟨hi1,hal0,hR⟩:=hok8;simp only [] at hi1 hal0 hR⊢;refine v_seq ?_;intros;refine yR [1,2,3,4,5,8,27] ⟨?_⟩;refine v_condS _ rfl ?_ ?_
   ·intro hc1;have hlt:i < us.length:=by omega
    obtain ⟨⟨x0,x1,x2,x3,x4⟩,hx⟩:∃x:TA,us[i]? =some x:=⟨us[i]'(by omega),qla (by omega)⟩;have hkx:=hk _ (qlb hx);simp only [] at hkx;obtain ⟨kx,hkk⟩:=qlf hkx.1;subst hkk;obtain ⟨v,hv,hv0,hv6,hvg⟩:=need_at (k:=kx) hn (by omega);have hst:=ki_drop hx;simp only [] at hst;rw [hst] at hR;have hal:¬20 < acc.length:=by omega
    refine zn [1,2,3,4,5,8] ⟨?_⟩;refine v_seq ?_;intros;refine v_block ?_;intros;have F:=Fc.mk (ai (gdm hx) (gdm hv));refine yR [1,2,3,4,5,8,9] ⟨?_⟩;refine yR [1,2,3,4,5,8,9,39] ⟨?_⟩;refine v_condS _ rfl ?_ ?_
    ·intro hc2;have hvp:0 < need.getD ((kx:Int)).toNat 0:=by rw [hvg];omega
     have hdk:need.set kx (v - 1)=decK need (kx:Int):=by rw [decK,hvg,ql2]
     have hdn:=decK_ok hn hvp;rw [loopI_hit hal hvp] at hR;rw [←hdk] at hdn hR;have hv2:(need.set kx (v - 1))[kx]? =some (v - 1):=qlj (by omega);have hbk:=set_back hv;have hrec:=ih (i+1) (need.set kx (v - 1)) (([]:List ByteArray)++[x0]) acc (by omega) (by omega) hdn (by simp;try omega) (by omega);have hol2:=extI_le (need.set kx (v - 1)) ((us.drop (i+1)).map fun a=>(a.1,a.2.1)) (([]:List ByteArray)++[x0]) acc (by omega);generalize hge:extI (need.set kx (v - 1)) ((us.drop (i+1)).map fun a=>(a.1,a.2.1)) (([]:List ByteArray)++[x0]) acc=out2 at hrec hR hol2;simp only [List.map_append,List.map_cons,List.map_nil,List.nil_append] at hrec;refine v_seq ?_;intro Q17 n17 e17 r17;have F:=Fc.mk (ai (gdm hx) (ai (gdm hv) (ai @set_map (ai hll (ai (gdm hv2) hbk)))));refine yV ⟨?_⟩;apply n17
     ·apply weak_trans (weak_keep [1,2,3,4,5,8,9] _);simp only [keep_mk,keepE_nil,keepE_cons,look_cons,look_nil,Nat.reduceEqDiff,reduceIte];exact weak_trans (weak_inB 0 4 ((need.set kx (v - 1)).map (V.int .i64)) .mix .flat rfl (.inr rfl) rfl (by decide) (.inl rfl)) (weak_inB 1 5 (acc.map (fun l:List ByteArray=>V.sl (l.map V.str))) .mix (fillK acc.length) rfl (.inr rfl) (rfl) (by decide) (fillK_or _))
     try simp only [atSlot_cons,atSlot_nil,Nat.reduceEqDiff,reduceIte,List.set_cons_zero,List.set_cons_succ]
     refine v_join (A:=Unit) (fun e1=>⟨[(1,.nsl),(2,.ptr 0 0 0),(3,.ptr 1 0 0),(4,.ptr 2 0 0),(5,.ptr 3 0 0),(8,.int .i64 (Nat.cast i)),(9,.int .i64 (Nat.cast kx))],[.box (.ref 4) .mix,.box (.ref 5) .mix,.box (.sl (us.map (fun t:TA=>V.agg [V.str t.1,V.int .i64 t.2.1,V.int .i64 t.2.2.1,V.int .i64 t.2.2.2.1,V.int .i64 t.2.2.2.2]))) .shal,.box (.fn 64 [.ptr 0 0 0,.ptr 1 0 0,.ptr 2 0 0,.ptr 3 0 0]) .mix,.arr ((need.set kx (v - 1)).map (V.int .i64)) .flat,.arr (out2.map (fun l:List ByteArray=>V.sl (l.map V.str))) (fillK out2.length)],false,64,0⟩) (fun e1=>True) ?_ ?_
     ·intro Q19 n19 e19 r19;refine v_draw (by kernel_rfl) ?_;intro K20 q20 k20;show aAny _ _ _ _ 12 (Array.replicate 12 false) _;refine zdMove q20 false 1 47 ?_;refine zdBinOpW q20 false 2 48 ?_;refine zdMove q20 true 3 49 ?_;refine zdLoad q20 true 4 50 ?_;refine zdMove q20 true 5 51 ?_;refine zdIndexAddr q20 true 6 52 ?_;refine zdFieldAddr q20 true 7 53 ?_;refine zdLoad q20 true 8 54 ?_;refine aAny_two 0 9 rfl rfl (by kernel_rfl) ?_ ?_
      ·refine zsLoad ⟨?_⟩;refine zoBuildSlice 9 ⟨?_⟩;refine zoAppend 10 ⟨?_⟩;refine aAny_only 11 rfl (by kernel_rfl) ?_;intro K k;simp only [zE,zM,aStepM,optable,set_some,Nat.reduceEqDiff,reduceIte,Nat.reduceLT,implies_true,forall_const,reduceCtorEq,V.ofValue,V.ofScalar,V.un,V.gd,aExec,lentIds,lendOf,argIds,List.flatMap_cons,List.getD_cons_zero,List.getD_cons_succ,Nat.beq_refl,‹Tys _›.h,‹Fc _›.h];repeat (refine andC ?_)
       refine aCall_self 4 (hrec) rfl rfl rfl (by decide) (by decide) (by simp [Blk.okS,V.onlyL,V.only,Nat.blt,fillK_mix]) rfl (by simp [Blk.okS,V.onlyL,V.only,Nat.blt,fillK_mix]) (qlh.1 rfl) ?_;refine k _ ?_;clear k K;simp only [zW,set_some,Nat.reduceEqDiff,reduceIte,setBlks,List.set_cons_zero,List.set_cons_succ];refine aAny_done (by kernel_rfl) ?_;refine k20 _ ?_;refine n19 () _ ?_ ?_
       ·trivial
       ·refine weak_trans (weak_outB 0 ((need.set kx (v - 1)).map (V.int .i64)) .flat rfl (fun _=>rfl) (fun _=>.inr ⟨rfl,nsI _⟩) rfl) ?_;try simp only [List.set_cons_zero,List.set_cons_succ,List.cons_append,List.nil_append,List.length_cons,List.length_nil,Nat.reduceAdd]
        refine weak_trans (weak_outB 1 (out2.map (fun l:List ByteArray=>V.sl (l.map V.str))) (fillK out2.length) rfl kO0 kO1 rfl) ?_;try simp only [List.set_cons_zero,List.set_cons_succ,List.cons_append,List.nil_append,List.length_cons,List.length_nil,Nat.reduceAdd]
        exact weak_same [1,2,3,4,5,8,9] [0,1,2,3,8,9] (hm:=by show ∀j,j < 4→_;decide)
      ·refine zsBuildSlice ⟨?_⟩;refine aAny_two 0 10 rfl rfl (by kernel_rfl) ?_ ?_
       ·refine zsLoad ⟨?_⟩;refine zoAppend 10 ⟨?_⟩;refine aAny_only 11 rfl (by kernel_rfl) ?_;intro K k;simp only [zE,zM,aStepM,optable,set_some,Nat.reduceEqDiff,reduceIte,Nat.reduceLT,implies_true,forall_const,reduceCtorEq,V.ofValue,V.ofScalar,V.un,V.gd,aExec,lentIds,lendOf,argIds,List.flatMap_cons,List.getD_cons_zero,List.getD_cons_succ,Nat.beq_refl,‹Tys _›.h,‹Fc _›.h];repeat (refine andC ?_)
        refine aCall_self 4 (hrec) rfl rfl rfl (by decide) (by decide) (by simp [Blk.okS,V.onlyL,V.only,Nat.blt,fillK_mix]) rfl (by simp [Blk.okS,V.onlyL,V.only,Nat.blt,fillK_mix]) (qlh.1 rfl) ?_;refine k _ ?_;clear k K;simp only [zW,set_some,Nat.reduceEqDiff,reduceIte,setBlks,List.set_cons_zero,List.set_cons_succ];refine aAny_done (by kernel_rfl) ?_;refine k20 _ ?_;refine n19 () _ ?_ ?_
        ·trivial
        ·refine weak_trans (weak_outB 0 ((need.set kx (v - 1)).map (V.int .i64)) .flat rfl (fun _=>rfl) (fun _=>.inr ⟨rfl,nsI _⟩) rfl) ?_;try simp only [List.set_cons_zero,List.set_cons_succ,List.cons_append,List.nil_append,List.length_cons,List.length_nil,Nat.reduceAdd]
         refine weak_trans (weak_outB 1 (out2.map (fun l:List ByteArray=>V.sl (l.map V.str))) (fillK out2.length) rfl kO0 kO1 rfl) ?_;try simp only [List.set_cons_zero,List.set_cons_succ,List.cons_append,List.nil_append,List.length_cons,List.length_nil,Nat.reduceAdd]
         exact weak_same [1,2,3,4,5,8,9] [0,1,2,3,8,9] (hm:=by show ∀j,j < 4→_;decide)
       ·refine zsAppend ⟨?_⟩;refine zdLoad q20 true 0 46 ?_;refine aAny_only 11 rfl (by kernel_rfl) ?_;intro K k;simp only [zE,zM,aStepM,optable,set_some,Nat.reduceEqDiff,reduceIte,Nat.reduceLT,implies_true,forall_const,reduceCtorEq,V.ofValue,V.ofScalar,V.un,V.gd,aExec,lentIds,lendOf,argIds,List.flatMap_cons,List.getD_cons_zero,List.getD_cons_succ,Nat.beq_refl,‹Tys _›.h,‹Fc _›.h];repeat (refine andC ?_)
        refine aCall_self 4 (hrec) rfl rfl rfl (by decide) (by decide) (by simp [Blk.okS,V.onlyL,V.only,Nat.blt,fillK_mix]) rfl (by simp [Blk.okS,V.onlyL,V.only,Nat.blt,fillK_mix]) (qlh.1 rfl) ?_;refine k _ ?_;clear k K;simp only [zW,set_some,Nat.reduceEqDiff,reduceIte,setBlks,List.set_cons_zero,List.set_cons_succ];refine aAny_done (by kernel_rfl) ?_;refine k20 _ ?_;refine n19 () _ ?_ ?_
        ·trivial
        ·refine weak_trans (weak_outB 0 ((need.set kx (v - 1)).map (V.int .i64)) .flat rfl (fun _=>rfl) (fun _=>.inr ⟨rfl,nsI _⟩) rfl) ?_;try simp only [List.set_cons_zero,List.set_cons_succ,List.cons_append,List.nil_append,List.length_cons,List.length_nil,Nat.reduceAdd]
         refine weak_trans (weak_outB 1 (out2.map (fun l:List ByteArray=>V.sl (l.map V.str))) (fillK out2.length) rfl kO0 kO1 rfl) ?_;try simp only [List.set_cons_zero,List.set_cons_succ,List.cons_append,List.nil_append,List.length_cons,List.length_nil,Nat.reduceAdd]
         exact weak_same [1,2,3,4,5,8,9] [0,1,2,3,8,9] (hm:=by show ∀j,j < 4→_;decide)
     ·rintro e1 hok19;have hok:True:=hok19;have F:=Fc.mk (ai (gdm hx) (ai (gdm hv) (ai @set_map (ai hll (ai (gdm hv2) hbk)))));refine yQ [1,2,3,4,5,8] ⟨?_⟩;refine yV ⟨?_⟩;refine n8 _ (i+1,out2) ?_ ?_ ?_
      ·refine weak_bothN [1,2,3,4,5,8] [0,1,2,3,4,5] (hm:=by show ∀j,j < 4→_;decide) ⟨?_⟩;rfl
      ·exact ⟨by show a0≤i+1∧i+1≤us.length;omega,hol2,hR⟩
      ·show _ < _;show us.length - (i+1) < us.length - i;omega
    ·intro hc2;rw [loopI_miss hal (by rw [hvg];omega)] at hR;refine zn [1,2,3,4,5,8] ⟨?_⟩;refine yV ⟨?_⟩;refine n8 _ (i+1,acc) ?_ ?_ ?_
     ·refine weak_bothN [1,2,3,4,5,8] [0,1,2,3,4,5] (hm:=by show ∀j,j < 4→_;decide) ⟨?_⟩;rfl
     ·exact ⟨by show a0≤i+1∧i+1≤us.length;omega,hal0,hR⟩
     ·show _ < _;show us.length - (i+1) < us.length - i;omega
   ·intro hc1;have hend:(loopI need ((us.drop a0).map fun a=>(a.1,a.2.1)) ([]:List ByteArray) outs)=acc:=by
     rw [←hR]
     by_cases hq:20 < acc.length
     ·exact loopI_full hq _
     ·rw [qlt (by first | omega | (simp_all;omega))];rfl
    rw [hend] at n0 r0;refine zx ⟨?_⟩;refine n0 _ ⟨[],[.box (slN (need.map (V.int .i64))) .deep,.box (slN (acc.map (fun l:List ByteArray=>V.sl (l.map V.str)))) .deep,.box (.sl (us.map (fun t:TA=>V.agg [V.str t.1,V.int .i64 t.2.1,V.int .i64 t.2.2.1,V.int .i64 t.2.2.2.1,V.int .i64 t.2.2.2.2]))) .shal,.box (.fn 64 [.ptr 0 0 0,.ptr 1 0 0,.ptr 2 0 0,.ptr 3 0 0]) .mix],false,64,0⟩ ?_ ⟨rfl,rfl⟩;exact weak_trans (weak_trans (weak_inB 0 4 (need.map (V.int .i64)) .mix .flat rfl (.inr rfl) rfl (by decide) (.inl rfl)) (weak_inB 1 5 (acc.map (fun l:List ByteArray=>V.sl (l.map V.str))) .mix (fillK acc.length) rfl (.inr rfl) (rfl) (by decide) (fillK_or _))) (weak_same [] [0,1,2,3] (hm:=by show ∀j,j < 4→_;decide))
theorem weak_giveV {m:Nat} {s:St} (b i:Nat) (xs:List V) (k:Kd) (hb:s.O[b]? =some (.box (.ref i) .mix)) (hO:s.O[i]? =some (.arr xs k)) (hk:k=.flat∨k=.deep∨k=.thin) (hne:b≠i) :
    Weak m s {s with O:=(s.O.set b (.box (.sl xs) .shal)).set i .dead}:=by
  intro cx a w μ ow hmu h;have hli:i < s.O.length:=(qlc.1 hO).1;have hlb:b < s.O.length:=(qlc.1 hb).1;have htc:takeCell s (.ref i)=some (.sl xs,[i],false):=by
    simp only [takeCell,St.row,hO,Option.bind_some,Blk.row];rcases hk with e | e | e<;>subst e<;>rfl
  refine ⟨μ,dropOw ow i,h.dfr,h.sz,fun t2=> ?_,fun j bk e=> ?_,fun j hj=>h.dom j (by rwa [qln,qln] at hj),fun y hy=>h.owl y (dropOw_ne hy),fun y hy=>h.own y (dropOw_ne hy),h.frm,h.mu⟩
  · obtain ⟨bl,r1,r2⟩:=h.env t2
    exact ⟨bl,r1,fun y hy=>vok_drop i (r2 y hy)⟩
  · by_cases q:j=i
    · subst q
      rw [qlj (by rw [qln];exact hli)] at e;simp only [Option.some.injEq] at e;subst e;trivial
    · rw [qlq (fun z=>q z.symm)] at e
      by_cases qb:j=b
      · subst qb
        rw [qlj hlb] at e;simp only [Option.some.injEq] at e;subst e;obtain ⟨l,q1,q2,q3⟩:=h.blk j _ hb;rcases q3 with ⟨_,q3⟩ | ⟨q3,q4,bl,⟨c1,c2,c3,c,tc,vs,c4,c5,c6,c7,c8⟩,q6,_⟩
        · cases q3
        have c6':RepL w μ [V.ref i] vs bl:=by simpa [V.cells,Kd.mu] using c6
        cases c6' with
        | cons _ x bx _ x3 b3 hx r3=>
          cases r3;have hbx:bx=[]:=by cases hx;rfl
          subst hbx;obtain ⟨bl',t1,_,_,t4,_⟩:=takeCell_rep h.sup hx (by simp) htc;obtain ⟨_,own⟩:=t4 rfl;refine ⟨l,q1,q2,.inr ⟨q3,(dropOw_keep q4 q).trans q4,bl'++[],⟨c1,c2,?_,c,tc,_,c4,c5,RepL.cons _ _ _ _ _ _ t1 .nil,c7,c8⟩,?_,fun _=>by simp⟩⟩
          · intro y hy
            rw [qli] at hy;subst hy;rw [←c3 _ (qli.2 rfl)];simp [V.cells]
          · show ∀y∈bl'++[],VOK cx (dropOw ow i) s.vw y
            intro y hy;rw [ql6] at hy;obtain ⟨j2,hj,r,e⟩:=own y hy;rw [qli] at hj;subst hj;exact ⟨.inl (dropOw_in e),.inr (h.own y (by rw [e];simp))⟩
      · rw [qlq (fun z=>qb z.symm)] at e
        have:=h.blk j bk e;cases bk with
        | dead=>trivial
        | arr ys k2=>exact row_drop q this
        | box y k2=>exact row_drop q this
        | hid j n=>exact this
theorem weak_ms {m:Nat} {s:St} (b:Nat) (x:V) (hb:s.O[b]? =some (.box x .mix)) (hn:x.noRef=true):Weak m s {s with O:=s.O.set b (.box x .shal)}:=
  weak_kind b _ _ [x] .mix .shal hb (.inr ⟨_,_,rfl,rfl,rfl,rfl⟩) (fun cx w μ ow bl vs h1 h2=>⟨noRef_all h1 (by simp [hn]),h2⟩) (.inl (by simp))
end Go.Proofs.YtmhaafinhpopmaaGreat
