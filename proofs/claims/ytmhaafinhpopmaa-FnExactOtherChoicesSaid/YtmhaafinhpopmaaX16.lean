/- What functions compute. No condition. -/
import Derived.Test.YtmhaafinhpopmaaX15
import Derived.Test.YtmhaafinhpopmaaX14
set_option linter.unusedSimpArgs false
set_option linter.unusedVariables false
set_option linter.defProp false
namespace Go.Proofs.Ytmhaafinhpopmaa
open Go Go.Vm
set_option maxHeartbeats 8000000
set_option maxRecDepth 8000 in
theorem extend_nil (us:List TA) (need:List Int) (a0:Nat) (outs:List (List ByteArray)) (hfl:us.length≤12) (hk:∀a∈us,0≤a.2.1∧a.2.1≤3) (hn:(need.length=4∧∀x∈need,0≤x∧x≤6)) (ha:a0≤us.length) (hol:outs.length≤20) (ih:∀(b:Nat) (nd:List Int) (nms:List ByteArray) (os:List (List ByteArray)),a0 < b→b≤us.length→(nd.length=4∧∀x∈nd,0≤x∧x≤6)→nms.length≤b→os.length≤20→ConS Try.prog 57 [.int .i64 (b:Int),.ref 4,.ptr 0 0 0,.ptr 1 0 0,.ptr 2 0 0,.ptr 3 0 0] [.box (slN (nd.map (V.int .i64))) .deep,.box (slN (os.map (fun l:List ByteArray=>V.sl (l.map V.str)))) .deep,.box (.sl (us.map (fun t:TA=>V.agg [V.str t.1,V.int .i64 t.2.1,V.int .i64 t.2.2.1,V.int .i64 t.2.2.2.1,V.int .i64 t.2.2.2.2]))) .shal,.box (.fn 57 [.ptr 0 0 0,.ptr 1 0 0,.ptr 2 0 0,.ptr 3 0 0]) .mix,.arr (nms.map V.str) .flat] [.box (slN (nd.map (V.int .i64))) .deep,.box (slN ((extI nd ((us.drop b).map fun a=>(a.1,a.2.1)) nms os).map (fun l:List ByteArray=>V.sl (l.map V.str)))) .deep,.box (.sl (us.map (fun t:TA=>V.agg [V.str t.1,V.int .i64 t.2.1,V.int .i64 t.2.2.1,V.int .i64 t.2.2.2.1,V.int .i64 t.2.2.2.2]))) .shal,.box (.fn 57 [.ptr 0 0 0,.ptr 1 0 0,.ptr 2 0 0,.ptr 3 0 0]) .mix,.arr (nms.map V.str) .flat]):ConS Try.prog 57 [.int .i64 (a0:Int),.nsl,.ptr 0 0 0,.ptr 1 0 0,.ptr 2 0 0,.ptr 3 0 0] [.box (slN (need.map (V.int .i64))) .deep,.box (slN (outs.map (fun l:List ByteArray=>V.sl (l.map V.str)))) .deep,.box (.sl (us.map (fun t:TA=>V.agg [V.str t.1,V.int .i64 t.2.1,V.int .i64 t.2.2.1,V.int .i64 t.2.2.2.1,V.int .i64 t.2.2.2.2]))) .shal,.box (.fn 57 [.ptr 0 0 0,.ptr 1 0 0,.ptr 2 0 0,.ptr 3 0 0]) .mix] [.box (slN (need.map (V.int .i64))) .deep,.box (slN ((extI need ((us.drop a0).map fun a=>(a.1,a.2.1)) ([]:List ByteArray) outs).map (fun l:List ByteArray=>V.sl (l.map V.str)))) .deep,.box (.sl (us.map (fun t:TA=>V.agg [V.str t.1,V.int .i64 t.2.1,V.int .i64 t.2.2.1,V.int .i64 t.2.2.2.1,V.int .i64 t.2.2.2.2]))) .shal,.box (.fn 57 [.ptr 0 0 0,.ptr 1 0 0,.ptr 2 0 0,.ptr 3 0 0]) .mix]:=by
 have hnsn:(need.map (V.int .i64)).all V.noSl=true:=by rw [List.all_map,qlt];intro a _;rfl
 obtain ⟨mx,hmax,hmx⟩:=max_need hn;have hll:need.length=4:=hn.1;refine v_conS [(57,[2,3,4,5,1])] Try.func57 rfl rfl rfl (by simp [Try.ntmps57]) _ (weak_trans (weak_outB 0 (need.map (V.int .i64)) .flat rfl (fun _=>rfl) (fun _=>.inr ⟨rfl,nsI _⟩) rfl) (weak_outB 1 (outs.map (fun l:List ByteArray=>V.sl (l.map V.str))) (fillK outs.length) rfl kO0 kO1 rfl)) ?_;intro Q0 n0 r0;simp only [Try.ntmps57,envFrom,Nat.reduceAdd,List.set_cons_zero,List.set_cons_succ,List.cons_append,List.nil_append,List.length_cons,List.length_nil];have T:=Tys.mk (ai Ty.t3 (ai Ty.t9 (ai Ty.t26 (ai Ty.t29 (ai Ty.t36 (ai Ty.t60 (ai Ty.t66 Ty.t86)))))));have F:=Fc.mk True.intro;refine v_seq ?_;intro Q1 n1 e1 r1;refine yRc [0,1,2,3,4,5,12] (hmax) ⟨?_⟩;refine v_condS _ rfl ?_ ?_
 ·intro hc0;have hz:=hmx.1 hc0;have hdb:extI need ((us.drop a0).map fun a=>(a.1,a.2.1)) ([]:List ByteArray) outs=outs++[([]:List ByteArray)]:=by rw [extI,if_pos hz]
  rw [hdb] at n0 r0;refine v_seq ?_;intro Q4 n4 e4 r4;refine v_draw (by kernel_rfl) ?_;intro K5 q5 k5;show aAny _ _ _ _ 6 (Array.replicate 6 false) _;refine zdLoad q5 true 0 13 ?_;refine zdMove q5 true 1 14 ?_;refine zoc 2 (cloneStr_con [] (by simp)) ⟨?_⟩;refine zoBuildSlice 3 ⟨?_⟩;refine zoAppend 4 ⟨?_⟩;refine zoStore 5 ⟨?_⟩;refine aAny_done (by kernel_rfl) ?_;refine k5 _ ?_;refine n4 _ _ (weak_keep [] _) ?_;refine zk ⟨?_⟩;refine v_ret ?_;refine r1 _ ?_;refine r0 _ ⟨[],[.box (slN (need.map (V.int .i64))) .deep,.box (slN ((outs++[([]:List ByteArray)]).map (fun l:List ByteArray=>V.sl (l.map V.str)))) .deep,.box (.sl (us.map (fun t:TA=>V.agg [V.str t.1,V.int .i64 t.2.1,V.int .i64 t.2.2.1,V.int .i64 t.2.2.2.1,V.int .i64 t.2.2.2.2]))) .shal,.box (.fn 57 [.ptr 0 0 0,.ptr 1 0 0,.ptr 2 0 0,.ptr 3 0 0]) .mix],false,64,0⟩ ?_ ⟨rfl,rfl⟩;exact weak_trans (weak_trans (weak_inB 0 4 (need.map (V.int .i64)) .mix .flat rfl (.inr rfl) rfl (by decide) (.inl rfl)) (weak_inB 1 8 ((outs++[([]:List ByteArray)]).map (fun l:List ByteArray=>V.sl (l.map V.str))) .mix (fillK (outs++[([]:List ByteArray)]).length) rfl (.inr rfl) (by rw [ql2,qlm];rfl) (by decide) (fillK_or _))) (weak_same [] [0,1,2,3] (hm:=by show ∀j,j < 4→_;decide))
 ·intro hc0;have hz:zeroL need=false:=by cases q:zeroL need with | false=>rfl | true=>exact absurd (hmx.2 q) hc0
  have hdb:extI need ((us.drop a0).map fun a=>(a.1,a.2.1)) ([]:List ByteArray) outs=(loopI need ((us.drop a0).map fun a=>(a.1,a.2.1)) ([]:List ByteArray) outs):=by rw [extI,if_neg (by rw [hz];decide)]
  rw [hdb] at n0 r0;refine zn [0,1,2,3,4,5] ⟨?_⟩;refine yR [1,2,3,4,5,8] ⟨?_⟩;refine v_block ?_;intros;refine v_loop (fun p=>⟨[(1,.nsl),(2,.ptr 0 0 0),(3,.ptr 1 0 0),(4,.ptr 2 0 0),(5,.ptr 3 0 0),(8,.int .i64 (Nat.cast p.1))],[.box (.ref 4) .mix,.box (.ref 5) .mix,.box (.sl (us.map (fun t:TA=>V.agg [V.str t.1,V.int .i64 t.2.1,V.int .i64 t.2.2.1,V.int .i64 t.2.2.2.1,V.int .i64 t.2.2.2.2]))) .shal,.box (.fn 57 [.ptr 0 0 0,.ptr 1 0 0,.ptr 2 0 0,.ptr 3 0 0]) .mix,.arr (need.map (V.int .i64)) .flat,.arr (p.2.map (fun l:List ByteArray=>V.sl (l.map V.str))) (fillK p.2.length)],false,64,0⟩) (fun p=>(a0≤p.1∧p.1≤us.length)∧p.2.length≤21∧loopI need ((us.drop p.1).map fun a=>(a.1,a.2.1)) ([]:List ByteArray) p.2=(loopI need ((us.drop a0).map fun a=>(a.1,a.2.1)) ([]:List ByteArray) outs)) (fun p=>us.length - p.1) ((a0,outs):Nat×List (List ByteArray)) ?_ ?_ ?_
  ·exact weak_same [1,2,3,4,5,8] [0,1,2,3,4,5] (hm:=by show ∀j,j < 4→_;decide)
  ·exact ⟨⟨qlu _,ha⟩,by show outs.length≤21;omega,rfl⟩
  ·rintro ⟨i,acc⟩ hok8 Q8 n8 e8 r8;obtain ⟨hi1,hal0,hR⟩:=hok8;simp only [] at hi1 hal0 hR⊢;refine v_seq ?_;intros;refine yR [1,2,3,4,5,8,27] ⟨?_⟩;refine v_condS _ rfl ?_ ?_
   ·intro hc1;have hlt:i < us.length:=by omega
    obtain ⟨⟨x0,x1,x2,x3,x4⟩,hx⟩:∃x:TA,us[i]? =some x:=⟨us[i]'(by omega),qla (by omega)⟩;have hkx:=hk _ (qlb hx);simp only [] at hkx;obtain ⟨kx,hkk⟩:=qln hkx.1;subst hkk;obtain ⟨v,hv,hv0,hv6,hvg⟩:=need_at (k:=kx) hn (by omega);have hst:=ki_drop hx;simp only [] at hst;rw [hst] at hR;have hal:¬20 < acc.length:=by omega
    refine zn [1,2,3,4,5,8] ⟨?_⟩;refine v_seq ?_;intros;refine v_block ?_;intros;have F:=Fc.mk (ai (gdm hx) (gdm hv));refine yR [1,2,3,4,5,8,9] ⟨?_⟩;refine yR [1,2,3,4,5,8,9,39] ⟨?_⟩;refine v_condS _ rfl ?_ ?_
    ·intro hc2;have hvp:0 < need.getD ((kx:Int)).toNat 0:=by rw [hvg];omega
     have hdk:need.set kx (v - 1)=decK need (kx:Int):=by rw [decK,hvg,Int.toNat_natCast]
     have hdn:=decK_ok hn hvp;rw [loopI_hit hal hvp] at hR;rw [←hdk] at hdn hR;have hv2:(need.set kx (v - 1))[kx]? =some (v - 1):=qli (by omega);have hbk:=set_back hv;have hrec:=ih (i+1) (need.set kx (v - 1)) (([]:List ByteArray)++[x0]) acc (by omega) (by omega) hdn (by simp;try omega) (by omega);have hol2:=extI_le (need.set kx (v - 1)) ((us.drop (i+1)).map fun a=>(a.1,a.2.1)) (([]:List ByteArray)++[x0]) acc (by omega);generalize hge:extI (need.set kx (v - 1)) ((us.drop (i+1)).map fun a=>(a.1,a.2.1)) (([]:List ByteArray)++[x0]) acc=out2 at hrec hR hol2;simp only [List.map_append,List.map_cons,List.map_nil,List.nil_append] at hrec;refine v_seq ?_;intro Q17 n17 e17 r17;have F:=Fc.mk (ai (gdm hx) (ai (gdm hv) (ai @set_map (ai hll (ai (gdm hv2) hbk)))));refine yV ⟨?_⟩;apply n17
     ·apply weak_trans (weak_keep [1,2,3,4,5,8,9] _);simp only [keep_mk,keepE_nil,keepE_cons,look_cons,look_nil,Nat.reduceEqDiff,reduceIte];exact weak_trans (weak_inB 0 4 ((need.set kx (v - 1)).map (V.int .i64)) .mix .flat rfl (.inr rfl) rfl (by decide) (.inl rfl)) (weak_inB 1 5 (acc.map (fun l:List ByteArray=>V.sl (l.map V.str))) .mix (fillK acc.length) rfl (.inr rfl) (rfl) (by decide) (fillK_or _))
     try simp only [atSlot_cons,atSlot_nil,Nat.reduceEqDiff,reduceIte,List.set_cons_zero,List.set_cons_succ]
     refine v_join (A:=Unit) (fun e1=>⟨[(1,.nsl),(2,.ptr 0 0 0),(3,.ptr 1 0 0),(4,.ptr 2 0 0),(5,.ptr 3 0 0),(8,.int .i64 (Nat.cast i)),(9,.int .i64 (Nat.cast kx))],[.box (.ref 4) .mix,.box (.ref 5) .mix,.box (.sl (us.map (fun t:TA=>V.agg [V.str t.1,V.int .i64 t.2.1,V.int .i64 t.2.2.1,V.int .i64 t.2.2.2.1,V.int .i64 t.2.2.2.2]))) .shal,.box (.fn 57 [.ptr 0 0 0,.ptr 1 0 0,.ptr 2 0 0,.ptr 3 0 0]) .mix,.arr ((need.set kx (v - 1)).map (V.int .i64)) .flat,.arr (out2.map (fun l:List ByteArray=>V.sl (l.map V.str))) (fillK out2.length)],false,64,0⟩) (fun e1=>True) ?_ ?_
     ·intro Q19 n19 e19 r19;refine v_draw (by kernel_rfl) ?_;intro K20 q20 k20;show aAny _ _ _ _ 12 (Array.replicate 12 false) _;refine zdMove q20 false 1 47 ?_;refine zdBinOpW q20 false 2 48 ?_;refine zdMove q20 true 3 49 ?_;refine zdLoad q20 true 4 50 ?_;refine zdMove q20 true 5 51 ?_;refine zdIndexAddr q20 true 6 52 ?_;refine zdFieldAddr q20 true 7 53 ?_;refine zdLoad q20 true 8 54 ?_;refine aAny_two 0 9 rfl rfl (by kernel_rfl) ?_ ?_
      ·refine zsLoad ⟨?_⟩;refine zoBuildSlice 9 ⟨?_⟩;refine zoAppend 10 ⟨?_⟩;refine aAny_only 11 rfl (by kernel_rfl) ?_;intro K k;simp only [zE,zM,aStepM,optable,set_some,Nat.reduceEqDiff,reduceIte,Nat.reduceLT,implies_true,forall_const,reduceCtorEq,V.ofValue,V.ofScalar,V.un,V.gd,aExec,lentIds,lendOf,argIds,List.flatMap_cons,List.getD_cons_zero,List.getD_cons_succ,Nat.beq_refl,‹Tys _›.h,‹Fc _›.h];repeat (refine andC ?_)
       refine aCall_self 4 (hrec) rfl rfl rfl (by decide) (by decide) (by simp [Blk.okS,V.onlyL,V.only,Nat.blt,fillK_mix]) rfl (by simp [Blk.okS,V.onlyL,V.only,Nat.blt,fillK_mix]) (qlt.1 rfl) ?_;refine k _ ?_;clear k K;simp only [zW,set_some,Nat.reduceEqDiff,reduceIte,setBlks,List.set_cons_zero,List.set_cons_succ];refine aAny_done (by kernel_rfl) ?_;refine k20 _ ?_;refine n19 () _ ?_ ?_
       ·trivial
       ·refine weak_trans (weak_outB 0 ((need.set kx (v - 1)).map (V.int .i64)) .flat rfl (fun _=>rfl) (fun _=>.inr ⟨rfl,nsI _⟩) rfl) ?_;try simp only [List.set_cons_zero,List.set_cons_succ,List.cons_append,List.nil_append,List.length_cons,List.length_nil,Nat.reduceAdd]
        refine weak_trans (weak_outB 1 (out2.map (fun l:List ByteArray=>V.sl (l.map V.str))) (fillK out2.length) rfl kO0 kO1 rfl) ?_;try simp only [List.set_cons_zero,List.set_cons_succ,List.cons_append,List.nil_append,List.length_cons,List.length_nil,Nat.reduceAdd]
        exact weak_same [1,2,3,4,5,8,9] [0,1,2,3,8,9] (hm:=by show ∀j,j < 4→_;decide)
      ·refine zsBuildSlice ⟨?_⟩;refine aAny_two 0 10 rfl rfl (by kernel_rfl) ?_ ?_
       ·refine zsLoad ⟨?_⟩;refine zoAppend 10 ⟨?_⟩;refine aAny_only 11 rfl (by kernel_rfl) ?_;intro K k;simp only [zE,zM,aStepM,optable,set_some,Nat.reduceEqDiff,reduceIte,Nat.reduceLT,implies_true,forall_const,reduceCtorEq,V.ofValue,V.ofScalar,V.un,V.gd,aExec,lentIds,lendOf,argIds,List.flatMap_cons,List.getD_cons_zero,List.getD_cons_succ,Nat.beq_refl,‹Tys _›.h,‹Fc _›.h];repeat (refine andC ?_)
        refine aCall_self 4 (hrec) rfl rfl rfl (by decide) (by decide) (by simp [Blk.okS,V.onlyL,V.only,Nat.blt,fillK_mix]) rfl (by simp [Blk.okS,V.onlyL,V.only,Nat.blt,fillK_mix]) (qlt.1 rfl) ?_;refine k _ ?_;clear k K;simp only [zW,set_some,Nat.reduceEqDiff,reduceIte,setBlks,List.set_cons_zero,List.set_cons_succ];refine aAny_done (by kernel_rfl) ?_;refine k20 _ ?_;refine n19 () _ ?_ ?_
        ·trivial
        ·refine weak_trans (weak_outB 0 ((need.set kx (v - 1)).map (V.int .i64)) .flat rfl (fun _=>rfl) (fun _=>.inr ⟨rfl,nsI _⟩) rfl) ?_;try simp only [List.set_cons_zero,List.set_cons_succ,List.cons_append,List.nil_append,List.length_cons,List.length_nil,Nat.reduceAdd]
         refine weak_trans (weak_outB 1 (out2.map (fun l:List ByteArray=>V.sl (l.map V.str))) (fillK out2.length) rfl kO0 kO1 rfl) ?_;try simp only [List.set_cons_zero,List.set_cons_succ,List.cons_append,List.nil_append,List.length_cons,List.length_nil,Nat.reduceAdd]
         exact weak_same [1,2,3,4,5,8,9] [0,1,2,3,8,9] (hm:=by show ∀j,j < 4→_;decide)
       ·refine zsAppend ⟨?_⟩;refine zdLoad q20 true 0 46 ?_;refine aAny_only 11 rfl (by kernel_rfl) ?_;intro K k;simp only [zE,zM,aStepM,optable,set_some,Nat.reduceEqDiff,reduceIte,Nat.reduceLT,implies_true,forall_const,reduceCtorEq,V.ofValue,V.ofScalar,V.un,V.gd,aExec,lentIds,lendOf,argIds,List.flatMap_cons,List.getD_cons_zero,List.getD_cons_succ,Nat.beq_refl,‹Tys _›.h,‹Fc _›.h];repeat (refine andC ?_)
        refine aCall_self 4 (hrec) rfl rfl rfl (by decide) (by decide) (by simp [Blk.okS,V.onlyL,V.only,Nat.blt,fillK_mix]) rfl (by simp [Blk.okS,V.onlyL,V.only,Nat.blt,fillK_mix]) (qlt.1 rfl) ?_;refine k _ ?_;clear k K;simp only [zW,set_some,Nat.reduceEqDiff,reduceIte,setBlks,List.set_cons_zero,List.set_cons_succ];refine aAny_done (by kernel_rfl) ?_;refine k20 _ ?_;refine n19 () _ ?_ ?_
        ·trivial
        ·refine weak_trans (weak_outB 0 ((need.set kx (v - 1)).map (V.int .i64)) .flat rfl (fun _=>rfl) (fun _=>.inr ⟨rfl,nsI _⟩) rfl) ?_;try simp only [List.set_cons_zero,List.set_cons_succ,List.cons_append,List.nil_append,List.length_cons,List.length_nil,Nat.reduceAdd]
         refine weak_trans (weak_outB 1 (out2.map (fun l:List ByteArray=>V.sl (l.map V.str))) (fillK out2.length) rfl kO0 kO1 rfl) ?_;try simp only [List.set_cons_zero,List.set_cons_succ,List.cons_append,List.nil_append,List.length_cons,List.length_nil,Nat.reduceAdd]
         exact weak_same [1,2,3,4,5,8,9] [0,1,2,3,8,9] (hm:=by show ∀j,j < 4→_;decide)
     ·rintro e1 hok19;have hok:True:=hok19;have F:=Fc.mk (ai (gdm hx) (ai (gdm hv) (ai @set_map (ai hll (ai (gdm hv2) hbk)))));refine yQ [1,2,3,4,5,8] ⟨?_⟩;refine yV ⟨?_⟩;refine n8 _ (i+1,out2) ?_ ?_ ?_
      ·refine weak_bothN [1,2,3,4,5,8] [0,1,2,3,4,5] (hm:=by show ∀j,j < 4→_;decide) ⟨?_⟩;rfl
      ·exact ⟨by show a0≤i+1∧i+1≤us.length;omega,hol2,hR⟩
      ·show _ < _;show us.length - (i+1) < us.length - i;omega
    ·intro hc2;rw [loopI_miss hal (by rw [hvg];omega)] at hR;refine zn [1,2,3,4,5,8] ⟨?_⟩;refine yV ⟨?_⟩;refine n8 _ (i+1,acc) ?_ ?_ ?_
     ·refine weak_bothN [1,2,3,4,5,8] [0,1,2,3,4,5] (hm:=by show ∀j,j < 4→_;decide) ⟨?_⟩;rfl
     ·exact ⟨by show a0≤i+1∧i+1≤us.length;omega,hal0,hR⟩
     ·show _ < _;show us.length - (i+1) < us.length - i;omega
   ·intro hc1;have hend:(loopI need ((us.drop a0).map fun a=>(a.1,a.2.1)) ([]:List ByteArray) outs)=acc:=by
     rw [←hR]
     by_cases hq:20 < acc.length
     ·exact loopI_full hq _
     ·rw [qle (by first | omega | (simp_all;omega))];rfl
    rw [hend] at n0 r0;refine zx ⟨?_⟩;refine n0 _ ⟨[],[.box (slN (need.map (V.int .i64))) .deep,.box (slN (acc.map (fun l:List ByteArray=>V.sl (l.map V.str)))) .deep,.box (.sl (us.map (fun t:TA=>V.agg [V.str t.1,V.int .i64 t.2.1,V.int .i64 t.2.2.1,V.int .i64 t.2.2.2.1,V.int .i64 t.2.2.2.2]))) .shal,.box (.fn 57 [.ptr 0 0 0,.ptr 1 0 0,.ptr 2 0 0,.ptr 3 0 0]) .mix],false,64,0⟩ ?_ ⟨rfl,rfl⟩;exact weak_trans (weak_trans (weak_inB 0 4 (need.map (V.int .i64)) .mix .flat rfl (.inr rfl) rfl (by decide) (.inl rfl)) (weak_inB 1 5 (acc.map (fun l:List ByteArray=>V.sl (l.map V.str))) .mix (fillK acc.length) rfl (.inr rfl) (rfl) (by decide) (fillK_or _))) (weak_same [] [0,1,2,3] (hm:=by show ∀j,j < 4→_;decide))
theorem weak_giveV {m:Nat} {s:St} (b i:Nat) (xs:List V) (k:Kd) (hb:s.O[b]? =some (.box (.ref i) .mix)) (hO:s.O[i]? =some (.arr xs k)) (hk:k=.flat∨k=.deep∨k=.thin) (hne:b≠i) :
    Weak m s {s with O:=(s.O.set b (.box (.sl xs) .shal)).set i .dead}:=by
  intro cx a w μ ow hmu h;have hli:i < s.O.length:=(qlf.1 hO).1;have hlb:b < s.O.length:=(qlf.1 hb).1;have htc:takeCell s (.ref i)=some (.sl xs,[i],false):=by
    simp only [takeCell,St.row,hO,Option.bind_some,Blk.row];rcases hk with e | e | e<;>subst e<;>rfl
  refine ⟨μ,dropOw ow i,h.dfr,h.sz,fun t2=> ?_,fun j bk e=> ?_,fun j hj=>h.dom j (by rwa [qlp,qlp] at hj),fun y hy=>h.owl y (dropOw_ne hy),fun y hy=>h.own y (dropOw_ne hy),h.frm,h.mu⟩
  · obtain ⟨bl,r1,r2⟩:=h.env t2
    exact ⟨bl,r1,fun y hy=>vok_drop i (r2 y hy)⟩
  · by_cases q:j=i
    · subst q
      rw [qli (by rw [qlp];exact hli)] at e;simp only [Option.some.injEq] at e;subst e;trivial
    · rw [qlx (fun z=>q z.symm)] at e
      by_cases qb:j=b
      · subst qb
        rw [qli hlb] at e;simp only [Option.some.injEq] at e;subst e;obtain ⟨l,q1,q2,q3⟩:=h.blk j _ hb;rcases q3 with ⟨_,q3⟩ | ⟨q3,q4,bl,⟨c1,c2,c3,c,tc,vs,c4,c5,c6,c7,c8⟩,q6,_⟩
        · cases q3
        have c6':RepL w μ [V.ref i] vs bl:=by simpa [V.cells,Kd.mu] using c6
        cases c6' with
        | cons _ x bx _ x3 b3 hx r3=>
          cases r3;have hbx:bx=[]:=by cases hx;rfl
          subst hbx;obtain ⟨bl',t1,_,_,t4,_⟩:=takeCell_rep h.sup hx (by simp) htc;obtain ⟨_,own⟩:=t4 rfl;refine ⟨l,q1,q2,.inr ⟨q3,(dropOw_keep q4 q).trans q4,bl'++[],⟨c1,c2,?_,c,tc,_,c4,c5,RepL.cons _ _ _ _ _ _ t1 .nil,c7,c8⟩,?_,fun _=>by simp⟩⟩
          · intro y hy
            rw [qlo] at hy;subst hy;rw [←c3 _ (qlo.2 rfl)];simp [V.cells]
          · show ∀y∈bl'++[],VOK cx (dropOw ow i) s.vw y
            intro y hy;rw [qma] at hy;obtain ⟨j2,hj,r,e⟩:=own y hy;rw [qlo] at hj;subst hj;exact ⟨.inl (dropOw_in e),.inr (h.own y (by rw [e];simp))⟩
      · rw [qlx (fun z=>qb z.symm)] at e
        have:=h.blk j bk e;cases bk with
        | dead=>trivial
        | arr ys k2=>exact row_drop q this
        | box y k2=>exact row_drop q this
        | hid j n=>exact this
def usP (ts:List Int) (limit:Int) (a:TA):Bool:=availB a && inR (Tm.at_ ts a.2.2.1.toNat) 0 limit
def usL (fl:List TA) (ts:List Int) (limit:Int):List TA:=fl.filter (usP ts limit)
def usN (fl:List TA) (ts:List Int) (limit:Int):List (ByteArray×Int):=(usL fl ts limit).map fun a=>(a.1,a.2.1)
def othAll (n:Int) (ss:List TS) (fl:List TA) (node:Int) (need:List Int) (limit:Int):List (List ByteArray):=full need (usN fl (tmL n ss node) limit)
def othB (n:Int) (ss:List TS) (fl:List TA) (node:Int) (need:List Int) (limit:Int):Bool:=(askD n ss fl node && (need4 need && inR limit 0 36000)) && !decide (20 < (othAll n ss fl node need limit).length)
def othR (n:Int) (ss:List TS) (fl:List TA) (node:Int) (need:List Int) (limit:Int):List (List ByteArray):=if othB n ss fl node need limit=true then othAll n ss fl node need limit else []
def tAt (fl:List TA) (ts:List Int) (j:Nat):Int:=(allT fl ts).getD j 0
def ubAt (fl:List TA) (ts:List Int) (limit:Int) (l:List Int):List Bool:=(List.range fl.length).map fun j:Nat=>decide ((j:Int)∈l) && decide (tAt fl ts j≤limit)
theorem ub_len (fl:List TA) (ts:List Int) (limit:Int) (l:List Int):(ubAt fl ts limit l).length=fl.length:=by simp [ubAt]
theorem ub_at {fl:List TA} {ts:List Int} {limit:Int} {l:List Int} {j:Nat} (h:j < fl.length):(ubAt fl ts limit l)[j]? =some (decide ((j:Int)∈l) && decide (tAt fl ts j≤limit)):=by
  simp [ubAt,List.getElem?_map,List.getElem?_range h]
theorem ub_zero (fl:List TA) (ts:List Int) (limit:Int):ubAt fl ts limit []=List.replicate fl.length false:=by
  rw [ubAt];simp only [List.not_mem_nil,decide_false,Bool.false_and];rw [List.map_const',List.length_range]
theorem ub_step {fl:List TA} {ts rl:List Int} {limit p:Int} {i k:Nat} (h:rl[i]? =some (k:Int)) (hk:k < fl.length) (hp:(allT fl ts)[k]? =some p):(ubAt fl ts limit (rl.take i)).set k (decide (p≤limit))=ubAt fl ts limit (rl.take (i+1)):=by
  apply List.ext_getElem?;intro j;have hpk:tAt fl ts k=p:=by rw [tAt,qlc,hp];rfl
  have ht:rl.take (i+1)=rl.take i++[(k:Int)]:=by rw [List.take_add_one,h];rfl
  rw [List.getElem?_set]
  by_cases e:k=j
  · subst e
    rw [if_pos rfl,if_pos (by rw [ub_len];exact hk),ub_at hk,hpk,ht];simp
  · rw [if_neg e]
    by_cases hj:j < fl.length
    · rw [ub_at hj,ub_at hj,ht]
      have:((j:Int)∈rl.take i++[(k:Int)])↔((j:Int)∈rl.take i):=by
        rw [qll,qlo];exact ⟨fun q=>q.elim (fun z=>z) fun z=>absurd z (by omega),.inl⟩
      rw [decide_eq_decide.2 this]
    · rw [qlj (by rw [ub_len];omega),qlj (by rw [ub_len];omega)]
theorem ready_in {fl:List TA} {ts:List Int} {j:Nat} {a:TA} (ha:fl[j]? =some a) (hp:readyP fl ts a=true):∀m,j < m→m≤fl.length→(j:Int)∈readyTo fl ts m
  | 0,h,_=>absurd h (by omega)
  | m + 1,h,hm=>by
    rw [readyTo,qll]
    by_cases e:j=m
    · subst e
      right;rw [ha];simp only [hp,if_true,List.mem_singleton]
    · exact .inl (ready_in ha hp m (by omega) (by omega))
theorem ub_full (fl:List TA) (ts:List Int) (limit:Int):ubAt fl ts limit (readyL fl ts)=fl.map (usP ts limit):=by
  apply List.ext_getElem?;intro j
  by_cases hj:j < fl.length
  · have ha:fl[j]? =some fl[j]:=qla hj
    rw [ub_at hj,List.getElem?_map,ha,Option.map_some]
    congr 1
    have ht:tAt fl ts j=Tm.at_ ts fl[j].2.2.1.toNat:=by rw [tAt,allT,qlc,List.getElem?_map,ha];rfl
    have hm:((j:Int)∈readyL fl ts)↔readyP fl ts fl[j]=true:=by
      constructor
      · intro h
        obtain ⟨k,a,h1,h2,h3,h4⟩:=readyL_mem h;obtain rfl:j=k:=by omega
        rw [ha] at h3;cases h3;exact h4
      · intro h
        exact isort_mem.2 (ready_in ha h _ hj (qlu _))
    have hm2:decide ((j:Int)∈readyL fl ts)=readyP fl ts fl[j]:=by
      cases q:readyP fl ts fl[j] with
      | true=>exact decide_eq_true (hm.2 q)
      | false=>exact decide_eq_false fun z=>by rw [hm.1 z] at q;cases q
    rw [hm2,ht,usP,inR];have hr:readyP fl ts fl[j]=(availB fl[j] && decide (0≤Tm.at_ ts fl[j].2.2.1.toNat)):=rfl;rw [hr,Bool.and_assoc]
  · rw [qlj (by rw [ub_len];omega),qlj (by rw [qmb];omega)]
theorem usable_us (ts:List Int) (limit:Int):∀fl:List TA,usable (triL fl (fl.map (usP ts limit)))=usN fl ts limit
  | []=>rfl
  | a::fl=>by
    have h:=usable_us ts limit fl;rw [usable,triL,List.map_cons,List.zipWith_cons_cons,List.filterMap_cons,usN,usL,List.filter_cons];rw [usable,triL,usN,usL] at h;cases hp:usP ts limit a with
    | true=>simp only [hp,if_true,List.map_cons];rw [h]
    | false=>simp only [hp,Bool.false_eq_true,if_false];rw [h]
theorem need_nn {need:List Int} (hn:(need.length=4∧∀x∈need,0≤x∧x≤6)):∀x∈need,0≤x:=fun x hx=>(hn.2 x hx).1
theorem oth_spec {fl:List TA} {ts need:List Int} {limit:Int} (hn:(need.length=4∧∀x∈need,0≤x∧x≤6)):TR (dbT need ((triL fl (ubAt fl ts limit (readyL fl ts))).drop 0)) (full need (usN fl ts limit)):=by
  have h:=dbT_tr (triL fl (ubAt fl ts limit (readyL fl ts))) need (need_nn hn);rw [ub_full,usable_us] at h;rw [List.drop_zero,ub_full];exact h
theorem oth_impl {fl:List TA} {ts need:List Int} {limit:Int}:TR (extI need (((usL fl ts limit).drop 0).map fun a=>(a.1,a.2.1)) [] []) (full need (usN fl ts limit)):=by
  have h:=extI_tr (usN fl ts limit) need [] [];rw [List.nil_append] at h;have e:(full need (usN fl ts limit)).map (([]:List ByteArray)++·)=full need (usN fl ts limit):=by
    rw [show (fun x:List ByteArray=>([]:List ByteArray)++x)=id from funext fun x=>rfl,List.map_id]
  rw [e] at h;rw [List.drop_zero];exact h
theorem tr_in {a b:List (List ByteArray)} (h:TR a b):(20 < a.length↔20 < b.length)∧(¬20 < a.length→a=b):=by
  rcases h with rfl | ⟨h1,h2⟩
  · exact ⟨Iff.rfl,fun _=>rfl⟩
  · exact ⟨⟨fun _=>h2,fun _=>h1⟩,fun q=>absurd h1 q⟩
theorem us_take {fl:List TA} {ts:List Int} {limit:Int} {i:Nat} {x:TA} (h:fl[i]? =some x):usL (fl.take (i+1)) ts limit=if usP ts limit x=true then usL (fl.take i) ts limit++[x] else usL (fl.take i) ts limit:=by
  rw [usL,List.take_add_one,h,Option.toList,List.filter_append];cases hp:usP ts limit x with
  | true=>rw [if_pos rfl,List.filter_cons,if_pos hp];rfl
  | false=>rw [if_neg (by decide),List.filter_cons,if_neg (by rw [hp];decide),List.filter_nil,qma];rfl
theorem us_len (fl:List TA) (ts:List Int) (limit:Int):(usL fl ts limit).length≤fl.length:=List.length_filter_le ..
theorem us_sub {fl:List TA} {ts:List Int} {limit:Int} {a:TA} (h:a∈usL fl ts limit):a∈fl:=(List.mem_filter.1 h).1
theorem oth_len {n:Int} {ss:List TS} {fl:List TA} {node:Int} {need:List Int} {limit:Int} (hfl:fl.length≤12):∀r∈othAll n ss fl node need limit,r.length≤12:=by
  intro r hr;have h:=full_len hr;rw [usN,qmb] at h;have:=us_len fl (tmL n ss node) limit;omega
theorem snoc_ap {l:List TA} {x:TA}:l.map (fun t:TA=>V.agg [V.str t.1,V.int .i64 t.2.1,V.int .i64 t.2.2.1,V.int .i64 t.2.2.2.1,V.int .i64 t.2.2.2.2])++[(fun t:TA=>V.agg [V.str t.1,V.int .i64 t.2.1,V.int .i64 t.2.2.1,V.int .i64 t.2.2.2.1,V.int .i64 t.2.2.2.2]) x]=(l++[x]).map (fun t:TA=>V.agg [V.str t.1,V.int .i64 t.2.1,V.int .i64 t.2.2.1,V.int .i64 t.2.2.2.1,V.int .i64 t.2.2.2.2]):=by rw [ql2];rfl
set_option maxRecDepth 8000 in
theorem specOther_con (n:Int) (ss:List TS) (fl:List TA) (node:Int) (need:List Int) (limit:Int) (hs:ss.length≤1048576) (hl:fl.length≤1048576) (hls:∀t∈fl,t.1.size≤9223372036854775807) (hne:need.length≤1048576):Con Try.prog 6 [.agg [.int .i64 n,.sl (ss.map (fun t:TS=>V.agg [V.int .i64 t.1,V.int .i64 t.2.1,V.int .i64 t.2.2]))],.sl (fl.map (fun t:TA=>V.agg [V.str t.1,V.int .i64 t.2.1,V.int .i64 t.2.2.1,V.int .i64 t.2.2.2.1,V.int .i64 t.2.2.2.2])),.int .i64 node,.sl (need.map (V.int .i64)),.int .i64 limit] [] (.tup [.ref 0,.bool (othB n ss fl node need limit)]) [.arr ((othR n ss fl node need limit).map (fun l:List ByteArray=>V.sl (l.map V.str))) (fillK (othR n ss fl node need limit).length)]:=by
 refine v_con [.tmp 10,.tmp 11] [] Try.func6 rfl rfl rfl (by simp [Try.ntmps6]) ?_;intro Q0 n0 r0;simp only [Try.ntmps6,envFrom,Nat.reduceAdd];have T:=Tys.mk (ai Ty.t3 (ai Ty.t4 (ai Ty.t9 (ai Ty.t26 (ai Ty.t29 (ai Ty.t32 (ai Ty.t34 (ai Ty.t36 (ai Ty.t57 (ai Ty.t60 (ai Ty.t66 Ty.t79)))))))))));have F:=Fc.mk True.intro;refine yR [1,2,3,4,5] ⟨?_⟩;refine v_seq ?_;intros;refine yRcgg [1,2,3,4,5,32] (dsAsked_con n ss fl node hs hl hls) (tbNeed_con need hne) (dsLimit_con limit) ⟨?_⟩;refine v_condS _ rfl ?_ ?_
 ·intro hc0;have hh:(askD n ss fl node && (need4 need && inR limit 0 36000))=false:=by cases hq:(askD n ss fl node && (need4 need && inR limit 0 36000)) with | false=>rfl | true=>(exfalso;simp [askD,inR] at hq hc0;first | (simp_all;done) | (simp_all [askD];done) | (simp_all;omega))
  have hB:othB n ss fl node need limit=false:=by rw [othB,hh];rfl
  have hR0:othR n ss fl node need limit=[]:=by rw [othR,hB];rfl
  refine yR [10,11] ⟨?_⟩;refine zr ⟨?_⟩;rw [hB,hR0];exact ret_ref_tup rfl rfl rfl (.inl rfl)
 ·intro hc0;have hH:askD n ss fl node=true∧need4 need=true∧inR limit 0 36000=true:=by first | exact hc0 | (simp [askD,inR] at hc0⊢;first | exact hc0 | (simp_all;done) | (simp_all;omega))
  obtain ⟨hask,hnd,hlm⟩:=hH;have hK:(askD n ss fl node && (need4 need && inR limit 0 36000))=true:=by rw [hask,hnd,hlm];rfl
  have hn:=need4_facts hnd;obtain ⟨hd,hu⟩:=ask_facts hask;have hfl:=hd.hfl;obtain ⟨ts,hts⟩:∃ts,ts=tmL n ss node:=⟨_,rfl⟩;obtain ⟨rl,hrl⟩:∃rl,rl=readyL fl ts:=⟨_,rfl⟩;have hrll:=readyL_len fl ts;rw [←hrl] at hrll;have hrv:∀{y:Int},y∈rl→∃k:Nat,y=(k:Int)∧k < fl.length:=by
   intro y hy;rw [hrl] at hy;obtain ⟨k,x,h1,h2,_⟩:=readyL_mem hy;exact ⟨k,h1,h2⟩
  have htr:=oth_spec (fl:=fl) (ts:=ts) (limit:=limit) hn;rw [←hrl] at htr;have hoa:othAll n ss fl node need limit=full need (usN fl ts limit):=by rw [othAll,hts]
  rw [←hoa] at htr;have hti:=tr_in htr;have hdb:Con Try.prog 26 [.sl (fl.map (fun t:TA=>V.agg [V.str t.1,V.int .i64 t.2.1,V.int .i64 t.2.2.1,V.int .i64 t.2.2.2.1,V.int .i64 t.2.2.2.2])),.sl ((ubAt fl ts limit rl).map V.bool),.int .i64 0,.sl (need.map (V.int .i64))] [] (.ref 0) [.arr ((dbT need ((triL fl (ubAt fl ts limit rl)).drop 0)).map (fun l:List ByteArray=>V.sl (l.map V.str))) (fillK (dbT need ((triL fl (ubAt fl ts limit rl)).drop 0)).length)]:=dbChoices_con fl (ubAt fl ts limit rl) hfl (ub_len ..) (fun a ha=>(hd.hap a ha).1) need 0 hn (qlg _);have hdl:=dbT_le need ((triL fl (ubAt fl ts limit rl)).drop 0);rw [List.length_drop,tri_len (ub_len ..)] at hdl;generalize dbT need ((triL fl (ubAt fl ts limit rl)).drop 0)=out at hdb htr hti hdl;refine zn [1,2,3,4,5] ⟨?_⟩;refine yRc [1,3,4,12,13] ((hrl ▸ hts ▸ dsReady_con n ss fl node hd hu:Con _ _ _ _ _ [.arr (rl.map (V.int .i64)) .flat,.arr ((allT fl ts).map (V.int .i64)) .flat])) ⟨?_⟩;refine yR [1,3,4,12,13,14] ⟨?_⟩;refine v_seq ?_;intros;refine yR [1,3,4,13,14,43,44,45] ⟨?_⟩;refine v_block ?_;intros;refine v_loop (fun i=>⟨[(1,.sl (fl.map (fun t:TA=>V.agg [V.str t.1,V.int .i64 t.2.1,V.int .i64 t.2.2.1,V.int .i64 t.2.2.2.1,V.int .i64 t.2.2.2.2]))),(3,.sl (need.map (V.int .i64))),(4,.int .i64 limit),(13,.ref 1),(14,.ref 2),(43,.ref 0),(44,.int .i64 rl.length),(45,.int .i64 (Nat.cast i))],[.arr (rl.map (V.int .i64)) .flat,.arr ((allT fl ts).map (V.int .i64)) .flat,.arr ((ubAt fl ts limit (rl.take i)).map V.bool) .flat],false,67,0⟩) (fun i=>i≤rl.length) (fun i=>rl.length - i) 0 ?_ ?_ ?_
  ·refine weak_bothS [1,3,4,13,14,43,44,45] [2,3,4] ⟨?_⟩;rw [List.take_zero,ub_zero,List.map_replicate];rfl
  ·exact qlg _
  ·rintro i hok11 Q11 n11 e11 r11;have hi1:i≤rl.length:=hok11;refine yR [1,3,4,13,14,43,44,45,46] ⟨?_⟩;refine v_seq ?_;intros;refine v_condS _ rfl ?_ ?_
   ·intro hc1;have hlt:i < rl.length:=by omega
    obtain ⟨y,hy⟩:∃y,rl[i]? =some y:=⟨_,qla hlt⟩;obtain ⟨k1,hyk,hkl⟩:=hrv (qlb hy);subst hyk;obtain ⟨p,hp⟩:∃p,(allT fl ts)[k1]? =some p:=⟨_,qla (by rw [allT_len];exact hkl)⟩;have hub:=ub_step (limit:=limit) hy hkl hp;have hul:=ub_len fl ts limit (rl.take i);obtain ⟨u,hu⟩:∃u,(ubAt fl ts limit (rl.take i))[k1]? =some u:=⟨_,ub_at hkl⟩;refine zn [1,3,4,13,14,43,44,45] ⟨?_⟩;refine v_seq ?_;intros;refine v_block ?_;intros;have F:=Fc.mk (ai (gdm hy) (ai (gdm hp) (ai (gdm hu) (ai @allT_len (ai hul (ai @set_map hub))))));refine yR [1,3,4,13,14,16,43,44,45] ⟨?_⟩;refine yQ [1,3,4,13,14,43,44,45] ⟨?_⟩;refine yV ⟨?_⟩;refine n11 _ (i+1) ?_ ?_ ?_
    ·refine weak_bothS [1,3,4,13,14,43,44,45] [0,1,2] ⟨?_⟩;rfl
    ·exact hlt
    ·show _ < _;omega
   ·intro hc1;have hend:i=rl.length:=by omega
    subst hend;rw [List.take_length];refine zn [1,3,14] ⟨?_⟩;refine yRc [17] (hdb) ⟨?_⟩;refine v_seq ?_;intros;refine yR [17,65] ⟨?_⟩;refine v_condS _ rfl ?_ ?_
    ·intro hc2;have hB:othB n ss fl node need limit=false:=by rw [othB,hK,decide_eq_true (hti.1.1 (by omega))];rfl
     have hR1:othR n ss fl node need limit=[]:=by rw [othR,hB];rfl
     refine yR [10,11] ⟨?_⟩;refine zr ⟨?_⟩;rw [hB,hR1];exact ret_ref_tup rfl rfl rfl (.inl rfl)
    ·intro hc2;have hB:othB n ss fl node need limit=true:=by rw [othB,hK,decide_eq_false (fun q=>absurd (hti.1.2 q) (by omega))];rfl
     have hR1:othR n ss fl node need limit=out:=by rw [othR,if_pos hB];exact (hti.2 (by omega)).symm
     refine zn [17] ⟨?_⟩;refine yR [10,11] ⟨?_⟩;refine zr ⟨?_⟩;rw [hB,hR1];exact rta
end Go.Proofs.Ytmhaafinhpopmaa
