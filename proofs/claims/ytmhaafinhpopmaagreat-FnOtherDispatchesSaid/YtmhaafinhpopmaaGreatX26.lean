/- What functions compute. No condition. -/
import Derived.Test.YtmhaafinhpopmaaGreatX24
import Derived.Test.YtmhaafinhpopmaaGreatX16
set_option linter.unusedSimpArgs false
set_option linter.unusedVariables false
set_option linter.defProp false
namespace Go.Proofs.YtmhaafinhpopmaaGreat
open Go Go.Vm
set_option maxHeartbeats 8000000
theorem mostL_ge:∀(l:List Int) (a:Int),a≤mostL l a∧∀x∈l,x≤mostL l a
  | [],a=>⟨Int.le_refl _,fun x hx=>by cases hx⟩
  | y::l,a=>by
    obtain ⟨h1,h2⟩:=mostL_ge l (if y > a then y else a);have e:mostL (y::l) a=mostL l (if y > a then y else a):=rfl;rw [e];refine ⟨Int.le_trans (by split<;>omega) h1,fun x hx=> ?_⟩
    rcases ql0.1 hx with rfl | hx
    · exact Int.le_trans (by split<;>omega) h1
    · exact h2 x hx
theorem mostL_in:∀(l:List Int) (a:Int),mostL l a=a∨mostL l a∈l
  | [],a=>.inl rfl
  | y ::l,a=>by
    have e:mostL (y::l) a=mostL l (if y > a then y else a):=rfl;rw [e];rcases mostL_in l (if y > a then y else a) with h | h
    · rw [h]
      split
      · exact .inr (qle ..)
      · exact .inl rfl
    · exact .inr (qlg _ h)
theorem max_need {need:List Int} (hn:(need.length=4∧∀x∈need,0≤x∧x≤6)):∃mx,Con Tryz.prog 65 [.sl (need.map (V.int .i64))] [] (.int .i64 mx) []∧(mx=0↔zeroL need=true):=by
  obtain ⟨h1,h2⟩:=hn;cases need with
  | nil=>cases h1
  | cons x l=>
    refine ⟨mostL l x,slMax_con x l (by omega),?_⟩;have h3:=mostL_ge l x;constructor
    · intro h
      rw [h] at h3;refine qlh.2 fun y hy=>decide_eq_true ?_
      have h4:=(h2 y hy).1;rcases ql0.1 hy with rfl | hy
      · omega
      · have:=h3.2 y hy;omega
    · intro h
      have hz:∀y∈x::l,y=0:=fun y hy=>of_decide_eq_true (qlh.1 h y hy)
      rcases mostL_in l x with q | q
      · rw [q];exact hz x (qle ..)
      · exact hz _ (qlg _ q)
theorem kO0 {o:List (List ByteArray)} (h:o.map (fun l:List ByteArray=>V.sl (l.map V.str))=[]):fillK o.length=.flat:=by
  cases o with
  | nil=>rfl
  | cons x l=>cases h
theorem kO1 {o:List (List ByteArray)} (h:o.map (fun l:List ByteArray=>V.sl (l.map V.str))≠[]):fillK o.length=.deep∨(fillK o.length=.flat∧(o.map (fun l:List ByteArray=>V.sl (l.map V.str))).all V.noSl=true):=by
  cases o with
  | nil=>exact absurd rfl h
  | cons x l=>exact .inl rfl
theorem ki_drop {us:List TA} {i:Nat} {x:TA} (h:us[i]? =some x):((us.drop i).map fun a=>(a.1,a.2.1))=(x.1,x.2.1)::((us.drop (i+1)).map fun a=>(a.1,a.2.1)):=by rw [getElem_drop_cons h];rfl
theorem set_back {l:List Int} {i:Nat} {v:Int} (h:l[i]? =some v):(l.set i (v - 1)).set i (v - 1+1)=l:=by
  obtain ⟨hi,hv⟩:=qlc.1 h;rw [List.set_set,show v - 1+1=v by omega];apply List.ext_getElem?;intro q;rw [List.getElem?_set];split
  · rename_i e;subst e;exact h.symm
  · rfl
set_option maxRecDepth 8000 in
theorem extend_step (us:List TA) (need:List Int) (a0:Nat) (names:List ByteArray) (outs:List (List ByteArray)) (hfl:us.length≤12) (hk:∀a∈us,0≤a.2.1∧a.2.1≤3) (hn:(need.length=4∧∀x∈need,0≤x∧x≤6)) (ha:a0≤us.length) (hnl:names.length≤a0) (hol:outs.length≤20) (ih:∀(b:Nat) (nd:List Int) (nms:List ByteArray) (os:List (List ByteArray)),a0 < b→b≤us.length→(nd.length=4∧∀x∈nd,0≤x∧x≤6)→nms.length≤b→os.length≤20→ConS Tryz.prog 64 [.int .i64 (b:Int),.ref 4,.ptr 0 0 0,.ptr 1 0 0,.ptr 2 0 0,.ptr 3 0 0] [.box (slN (nd.map (V.int .i64))) .deep,.box (slN (os.map (fun l:List ByteArray=>V.sl (l.map V.str)))) .deep,.box (.sl (us.map (fun t:TA=>V.agg [V.str t.1,V.int .i64 t.2.1,V.int .i64 t.2.2.1,V.int .i64 t.2.2.2.1,V.int .i64 t.2.2.2.2]))) .shal,.box (.fn 64 [.ptr 0 0 0,.ptr 1 0 0,.ptr 2 0 0,.ptr 3 0 0]) .mix,.arr (nms.map V.str) .flat] [.box (slN (nd.map (V.int .i64))) .deep,.box (slN ((extI nd ((us.drop b).map fun a=>(a.1,a.2.1)) nms os).map (fun l:List ByteArray=>V.sl (l.map V.str)))) .deep,.box (.sl (us.map (fun t:TA=>V.agg [V.str t.1,V.int .i64 t.2.1,V.int .i64 t.2.2.1,V.int .i64 t.2.2.2.1,V.int .i64 t.2.2.2.2]))) .shal,.box (.fn 64 [.ptr 0 0 0,.ptr 1 0 0,.ptr 2 0 0,.ptr 3 0 0]) .mix,.arr (nms.map V.str) .flat]):ConS Tryz.prog 64 [.int .i64 (a0:Int),.ref 4,.ptr 0 0 0,.ptr 1 0 0,.ptr 2 0 0,.ptr 3 0 0] [.box (slN (need.map (V.int .i64))) .deep,.box (slN (outs.map (fun l:List ByteArray=>V.sl (l.map V.str)))) .deep,.box (.sl (us.map (fun t:TA=>V.agg [V.str t.1,V.int .i64 t.2.1,V.int .i64 t.2.2.1,V.int .i64 t.2.2.2.1,V.int .i64 t.2.2.2.2]))) .shal,.box (.fn 64 [.ptr 0 0 0,.ptr 1 0 0,.ptr 2 0 0,.ptr 3 0 0]) .mix,.arr (names.map V.str) .flat] [.box (slN (need.map (V.int .i64))) .deep,.box (slN ((extI need ((us.drop a0).map fun a=>(a.1,a.2.1)) names outs).map (fun l:List ByteArray=>V.sl (l.map V.str)))) .deep,.box (.sl (us.map (fun t:TA=>V.agg [V.str t.1,V.int .i64 t.2.1,V.int .i64 t.2.2.1,V.int .i64 t.2.2.2.1,V.int .i64 t.2.2.2.2]))) .shal,.box (.fn 64 [.ptr 0 0 0,.ptr 1 0 0,.ptr 2 0 0,.ptr 3 0 0]) .mix,.arr (names.map V.str) .flat]:=by
 have hnsn:(need.map (V.int .i64)).all V.noSl=true:=by rw [List.all_map,qlh];intro a _;rfl
 obtain ⟨mx,hmax,hmx⟩:=max_need hn;have hll:need.length=4:=hn.1;refine v_conS [(64,[2,3,4,5,1])] Tryz.func64 rfl rfl rfl (by simp [Tryz.ntmps64]) _ (weak_trans (weak_outB 0 (need.map (V.int .i64)) .flat rfl (fun _=>rfl) (fun _=>.inr ⟨rfl,nsI _⟩) rfl) (weak_outB 1 (outs.map (fun l:List ByteArray=>V.sl (l.map V.str))) (fillK outs.length) rfl kO0 kO1 rfl)) ?_;intro Q0 n0 r0;simp only [Tryz.ntmps64,envFrom,Nat.reduceAdd,List.set_cons_zero,List.set_cons_succ,List.cons_append,List.nil_append,List.length_cons,List.length_nil];have T:=Tys.mk (ai Ty.t3 (ai Ty.t9 (ai Ty.t27 (ai Ty.t28 (ai Ty.t31 (ai Ty.t38 (ai Ty.t72 Ty.t91)))))));have F:=Fc.mk True.intro;refine v_seq ?_;intro Q1 n1 e1 r1;refine yRc [0,1,2,3,4,5,12] (hmax) ⟨?_⟩;refine v_condS _ rfl ?_ ?_
 ·intro hc0;have hz:=hmx.1 hc0;have hdb:extI need ((us.drop a0).map fun a=>(a.1,a.2.1)) names outs=outs++[names]:=by rw [extI,if_pos hz]
  rw [hdb] at n0 r0;refine v_seq ?_;intro Q4 n4 e4 r4;refine v_draw (by kernel_rfl) ?_;intro K5 q5 k5;show aAny _ _ _ _ 6 (Array.replicate 6 false) _;refine zdLoad q5 true 0 13 ?_;refine zdMove q5 true 1 14 ?_;refine zoc 2 (cloneStr_con names (by omega)) ⟨?_⟩;refine zoBuildSlice 3 ⟨?_⟩;refine zoAppend 4 ⟨?_⟩;refine zoStore 5 ⟨?_⟩;refine aAny_done (by kernel_rfl) ?_;refine k5 _ ?_;refine n4 _ _ (weak_keep [] _) ?_;refine zk ⟨?_⟩;refine v_ret ?_;refine r1 _ ?_;refine r0 _ ⟨[],[.box (slN (need.map (V.int .i64))) .deep,.box (slN ((outs++[names]).map (fun l:List ByteArray=>V.sl (l.map V.str)))) .deep,.box (.sl (us.map (fun t:TA=>V.agg [V.str t.1,V.int .i64 t.2.1,V.int .i64 t.2.2.1,V.int .i64 t.2.2.2.1,V.int .i64 t.2.2.2.2]))) .shal,.box (.fn 64 [.ptr 0 0 0,.ptr 1 0 0,.ptr 2 0 0,.ptr 3 0 0]) .mix,.arr (names.map V.str) .flat],false,64,0⟩ ?_ ⟨rfl,rfl⟩;exact weak_trans (weak_trans (weak_inB 0 5 (need.map (V.int .i64)) .mix .flat rfl (.inr rfl) rfl (by decide) (.inl rfl)) (weak_inB 1 9 ((outs++[names]).map (fun l:List ByteArray=>V.sl (l.map V.str))) .mix (fillK (outs++[names]).length) rfl (.inr rfl) (by rw [ql1,qlm];rfl) (by decide) (fillK_or _))) (weak_same [] [0,1,2,3,4] (hm:=by show ∀j,j < 5→_;decide))
 ·intro hc0;have hz:zeroL need=false:=by cases q:zeroL need with | false=>rfl | true=>exact absurd (hmx.2 q) hc0
  have hdb:extI need ((us.drop a0).map fun a=>(a.1,a.2.1)) names outs=(loopI need ((us.drop a0).map fun a=>(a.1,a.2.1)) names outs):=by rw [extI,if_neg (by rw [hz];decide)]
  rw [hdb] at n0 r0;refine zn [0,1,2,3,4,5] ⟨?_⟩;refine yR [1,2,3,4,5,8] ⟨?_⟩;refine v_block ?_;intros;refine v_loop (fun p=>⟨[(1,.ref 4),(2,.ptr 0 0 0),(3,.ptr 1 0 0),(4,.ptr 2 0 0),(5,.ptr 3 0 0),(8,.int .i64 (Nat.cast p.1))],[.box (.ref 5) .mix,.box (.ref 6) .mix,.box (.sl (us.map (fun t:TA=>V.agg [V.str t.1,V.int .i64 t.2.1,V.int .i64 t.2.2.1,V.int .i64 t.2.2.2.1,V.int .i64 t.2.2.2.2]))) .shal,.box (.fn 64 [.ptr 0 0 0,.ptr 1 0 0,.ptr 2 0 0,.ptr 3 0 0]) .mix,.arr (names.map V.str) .flat,.arr (need.map (V.int .i64)) .flat,.arr (p.2.map (fun l:List ByteArray=>V.sl (l.map V.str))) (fillK p.2.length)],false,64,0⟩) (fun p=>(a0≤p.1∧p.1≤us.length)∧p.2.length≤21∧loopI need ((us.drop p.1).map fun a=>(a.1,a.2.1)) names p.2=(loopI need ((us.drop a0).map fun a=>(a.1,a.2.1)) names outs)) (fun p=>us.length - p.1) ((a0,outs):Nat×List (List ByteArray)) ?_ ?_ ?_
  ·exact weak_same [1,2,3,4,5,8] [0,1,2,3,4,5,6] (hm:=by show ∀j,j < 5→_;decide)
  ·exact ⟨⟨qlu _,ha⟩,by show outs.length≤21;omega,rfl⟩
  ·rintro ⟨i,acc⟩ hok8 Q8 n8 e8 r8;obtain ⟨hi1,hal0,hR⟩:=hok8;simp only [] at hi1 hal0 hR⊢;refine v_seq ?_;intros;refine yR [1,2,3,4,5,8,27] ⟨?_⟩;refine v_condS _ rfl ?_ ?_
   ·intro hc1;have hlt:i < us.length:=by omega
    obtain ⟨⟨x0,x1,x2,x3,x4⟩,hx⟩:∃x:TA,us[i]? =some x:=⟨us[i]'(by omega),qla (by omega)⟩;have hkx:=hk _ (qlb hx);simp only [] at hkx;obtain ⟨kx,hkk⟩:=qlf hkx.1;subst hkk;obtain ⟨v,hv,hv0,hv6,hvg⟩:=need_at (k:=kx) hn (by omega);have hst:=ki_drop hx;simp only [] at hst;rw [hst] at hR;have hal:¬20 < acc.length:=by omega
    refine zn [1,2,3,4,5,8] ⟨?_⟩;refine v_seq ?_;intros;refine v_block ?_;intros;have F:=Fc.mk (ai (gdm hx) (gdm hv));refine yR [1,2,3,4,5,8,9] ⟨?_⟩;refine yR [1,2,3,4,5,8,9,39] ⟨?_⟩;refine v_condS _ rfl ?_ ?_
    ·intro hc2;have hvp:0 < need.getD ((kx:Int)).toNat 0:=by rw [hvg];omega
     have hdk:need.set kx (v - 1)=decK need (kx:Int):=by rw [decK,hvg,ql2]
     have hdn:=decK_ok hn hvp;rw [loopI_hit hal hvp] at hR;rw [←hdk] at hdn hR;have hv2:(need.set kx (v - 1))[kx]? =some (v - 1):=qlj (by omega);have hbk:=set_back hv;have hrec:=ih (i+1) (need.set kx (v - 1)) (names++[x0]) acc (by omega) (by omega) hdn (by simp;try omega) (by omega);have hol2:=extI_le (need.set kx (v - 1)) ((us.drop (i+1)).map fun a=>(a.1,a.2.1)) (names++[x0]) acc (by omega);generalize hge:extI (need.set kx (v - 1)) ((us.drop (i+1)).map fun a=>(a.1,a.2.1)) (names++[x0]) acc=out2 at hrec hR hol2;simp only [List.map_append,List.map_cons,List.map_nil,List.nil_append] at hrec;refine v_seq ?_;intro Q17 n17 e17 r17;have F:=Fc.mk (ai (gdm hx) (ai (gdm hv) (ai @set_map (ai hll (ai (gdm hv2) hbk)))));refine yV ⟨?_⟩;apply n17
     ·apply weak_trans (weak_keep [1,2,3,4,5,8,9] _);simp only [keep_mk,keepE_nil,keepE_cons,look_cons,look_nil,Nat.reduceEqDiff,reduceIte];exact weak_trans (weak_inB 0 5 ((need.set kx (v - 1)).map (V.int .i64)) .mix .flat rfl (.inr rfl) rfl (by decide) (.inl rfl)) (weak_inB 1 6 (acc.map (fun l:List ByteArray=>V.sl (l.map V.str))) .mix (fillK acc.length) rfl (.inr rfl) (rfl) (by decide) (fillK_or _))
     try simp only [atSlot_cons,atSlot_nil,Nat.reduceEqDiff,reduceIte,List.set_cons_zero,List.set_cons_succ]
     refine v_join (A:=Unit) (fun e1=>⟨[(1,.ref 4),(2,.ptr 0 0 0),(3,.ptr 1 0 0),(4,.ptr 2 0 0),(5,.ptr 3 0 0),(8,.int .i64 (Nat.cast i)),(9,.int .i64 (Nat.cast kx))],[.box (.ref 5) .mix,.box (.ref 6) .mix,.box (.sl (us.map (fun t:TA=>V.agg [V.str t.1,V.int .i64 t.2.1,V.int .i64 t.2.2.1,V.int .i64 t.2.2.2.1,V.int .i64 t.2.2.2.2]))) .shal,.box (.fn 64 [.ptr 0 0 0,.ptr 1 0 0,.ptr 2 0 0,.ptr 3 0 0]) .mix,.arr (names.map V.str) .flat,.arr ((need.set kx (v - 1)).map (V.int .i64)) .flat,.arr (out2.map (fun l:List ByteArray=>V.sl (l.map V.str))) (fillK out2.length)],false,64,0⟩) (fun e1=>True) ?_ ?_
     ·intro Q19 n19 e19 r19;refine v_draw (by kernel_rfl) ?_;intro K20 q20 k20;show aAny _ _ _ _ 12 (Array.replicate 12 false) _;refine zdMove q20 false 1 47 ?_;refine zdBinOpW q20 false 2 48 ?_;refine zdMove q20 true 3 49 ?_;refine zdLoad q20 true 4 50 ?_;refine zdMove q20 true 5 51 ?_;refine zdIndexAddr q20 true 6 52 ?_;refine zdFieldAddr q20 true 7 53 ?_;refine zdLoad q20 true 8 54 ?_;refine aAny_two 0 9 rfl rfl (by kernel_rfl) ?_ ?_
      ·refine zsLoad ⟨?_⟩;refine zoBuildSlice 9 ⟨?_⟩;refine aAny_onlyK 10 rfl (by kernel_rfl) (by show 56 < 64;decide) rfl ?_;intro K k;simp only [zE,zL,zO,zN,optable,set_some,Nat.reduceEqDiff,reduceIte,Nat.reduceLT,implies_true,forall_const,reduceCtorEq,V.ofValue,V.ofScalar,V.un,V.gd,aKeepOp,aKeep,dstOK,fillK_thin,beq_self_eq_true,List.nodup_cons,List.mem_singleton,forall_eq',List.size_toArray,List.getD_eq_getElem?_getD,Array.getD_eq_getD_getElem?,Option.getD_some,aAppend,destOf,srcOf,takeElems,takeV,takeCell,takeCells,row_mk,Blk.row,killAll,V.isSub,V.noSl,Value.cells,Option.toList,List.forall_mem_map,List.length_map,List.all_cons,List.all_nil,List.isEmpty_nil,List.isEmpty_cons,List.not_mem_nil,List.nodup_nil,join_ff,join_ft,join_fv,join_d,join_s,fillK_join0,fillK_join,List.mem_cons,or_false,forall_eq_or_imp,forall_eq,List.set_cons_zero,List.set_cons_succ,List.length_append,Go.Vm.V.cells,Nat.reduceAdd,Nat.reduceLeDiff,Nat.reduceMul,contentL,Value.oneCell',‹Tys _›.h,‹Fc _›.h];repeat (refine andA ?_)
       refine ⟨k _ ?_,fun hne=>k _ ?_⟩<;>clear k K
       ·try simp only [set_some]
        refine aAny_only 11 rfl (by kernel_rfl) ?_;intro K k;simp only [zE,zM,aStepM,optable,set_some,Nat.reduceEqDiff,reduceIte,Nat.reduceLT,implies_true,forall_const,reduceCtorEq,V.ofValue,V.ofScalar,V.un,V.gd,aExec,lentIds,lendOf,argIds,List.flatMap_cons,List.getD_cons_zero,List.getD_cons_succ,Nat.beq_refl,‹Tys _›.h,‹Fc _›.h];repeat (refine andC ?_)
        refine aCall_self 4 (hrec) rfl rfl rfl (by decide) (by decide) (by simp [Blk.okS,V.onlyL,V.only,Nat.blt,fillK_mix]) rfl (by simp [Blk.okS,V.onlyL,V.only,Nat.blt,fillK_mix]) (qlh.1 rfl) ?_;refine k _ ?_;clear k K;simp only [zW,set_some,Nat.reduceEqDiff,reduceIte,setBlks,List.set_cons_zero,List.set_cons_succ];refine aAny_done (by kernel_rfl) ?_;refine k20 _ ?_;refine n19 () _ ?_ ?_
        ·trivial
        ·refine weak_trans (weak_outB 0 ((need.set kx (v - 1)).map (V.int .i64)) .flat rfl (fun _=>rfl) (fun _=>.inr ⟨rfl,nsI _⟩) rfl) ?_;try simp only [List.set_cons_zero,List.set_cons_succ,List.cons_append,List.nil_append,List.length_cons,List.length_nil,Nat.reduceAdd]
         refine weak_trans (weak_outB 1 (out2.map (fun l:List ByteArray=>V.sl (l.map V.str))) (fillK out2.length) rfl kO0 kO1 rfl) ?_;try simp only [List.set_cons_zero,List.set_cons_succ,List.cons_append,List.nil_append,List.length_cons,List.length_nil,Nat.reduceAdd]
         exact weak_same [1,2,3,4,5,8,9] [0,1,2,3,4,9,10] (hm:=by show ∀j,j < 5→_;decide)
       ·try simp only [set_some]
        refine aAny_only 11 rfl (by kernel_rfl) ?_;intro K k;simp only [zE,zM,aStepM,optable,set_some,Nat.reduceEqDiff,reduceIte,Nat.reduceLT,implies_true,forall_const,reduceCtorEq,V.ofValue,V.ofScalar,V.un,V.gd,aExec,lentIds,lendOf,argIds,List.flatMap_cons,List.getD_cons_zero,List.getD_cons_succ,Nat.beq_refl,‹Tys _›.h,‹Fc _›.h];repeat (refine andC ?_)
        refine aCall_self 4 (hrec) rfl rfl rfl (by decide) (by decide) (by simp [Blk.okS,V.onlyL,V.only,Nat.blt,fillK_mix]) rfl (by simp [Blk.okS,V.onlyL,V.only,Nat.blt,fillK_mix]) (qlh.1 rfl) ?_;refine k _ ?_;clear k K;simp only [zW,set_some,Nat.reduceEqDiff,reduceIte,setBlks,List.set_cons_zero,List.set_cons_succ];refine aAny_done (by kernel_rfl) ?_;refine k20 _ ?_;refine n19 () _ ?_ ?_
        ·trivial
        ·refine weak_trans (weak_revive 4 8 (names.map V.str) [.str x0] (by rw [ql7];rfl) rfl) ?_;try simp only [List.set_cons_zero,List.set_cons_succ,List.cons_append,List.nil_append,List.length_cons,List.length_nil,Nat.reduceAdd]
         refine weak_trans (weak_outB 0 ((need.set kx (v - 1)).map (V.int .i64)) .flat rfl (fun _=>rfl) (fun _=>.inr ⟨rfl,nsI _⟩) rfl) ?_;try simp only [List.set_cons_zero,List.set_cons_succ,List.cons_append,List.nil_append,List.length_cons,List.length_nil,Nat.reduceAdd]
         refine weak_trans (weak_outB 1 (out2.map (fun l:List ByteArray=>V.sl (l.map V.str))) (fillK out2.length) rfl kO0 kO1 rfl) ?_;try simp only [List.set_cons_zero,List.set_cons_succ,List.cons_append,List.nil_append,List.length_cons,List.length_nil,Nat.reduceAdd]
         exact weak_same [1,2,3,4,5,8,9] [0,1,2,3,4,9,10] (hm:=by show ∀j,j < 5→_;decide)
      ·refine zsBuildSlice ⟨?_⟩;refine aAny_twoK 0 10 rfl rfl (by kernel_rfl) (by show 56 < 64;decide) rfl ?_ ?_
       ·refine zsLoad ⟨?_⟩;refine aAny_onlyK 10 rfl (by kernel_rfl) (by show 56 < 64;decide) rfl ?_;intro K k;simp only [zE,zL,zO,zN,optable,set_some,Nat.reduceEqDiff,reduceIte,Nat.reduceLT,implies_true,forall_const,reduceCtorEq,V.ofValue,V.ofScalar,V.un,V.gd,aKeepOp,aKeep,dstOK,fillK_thin,beq_self_eq_true,List.nodup_cons,List.mem_singleton,forall_eq',List.size_toArray,List.getD_eq_getElem?_getD,Array.getD_eq_getD_getElem?,Option.getD_some,aAppend,destOf,srcOf,takeElems,takeV,takeCell,takeCells,row_mk,Blk.row,killAll,V.isSub,V.noSl,Value.cells,Option.toList,List.forall_mem_map,List.length_map,List.all_cons,List.all_nil,List.isEmpty_nil,List.isEmpty_cons,List.not_mem_nil,List.nodup_nil,join_ff,join_ft,join_fv,join_d,join_s,fillK_join0,fillK_join,List.mem_cons,or_false,forall_eq_or_imp,forall_eq,List.set_cons_zero,List.set_cons_succ,List.length_append,Go.Vm.V.cells,Nat.reduceAdd,Nat.reduceLeDiff,Nat.reduceMul,contentL,Value.oneCell',‹Tys _›.h,‹Fc _›.h];repeat (refine andA ?_)
        refine ⟨k _ ?_,fun hne=>k _ ?_⟩<;>clear k K
        ·try simp only [set_some]
         refine aAny_only 11 rfl (by kernel_rfl) ?_;intro K k;simp only [zE,zM,aStepM,optable,set_some,Nat.reduceEqDiff,reduceIte,Nat.reduceLT,implies_true,forall_const,reduceCtorEq,V.ofValue,V.ofScalar,V.un,V.gd,aExec,lentIds,lendOf,argIds,List.flatMap_cons,List.getD_cons_zero,List.getD_cons_succ,Nat.beq_refl,‹Tys _›.h,‹Fc _›.h];repeat (refine andC ?_)
         refine aCall_self 4 (hrec) rfl rfl rfl (by decide) (by decide) (by simp [Blk.okS,V.onlyL,V.only,Nat.blt,fillK_mix]) rfl (by simp [Blk.okS,V.onlyL,V.only,Nat.blt,fillK_mix]) (qlh.1 rfl) ?_;refine k _ ?_;clear k K;simp only [zW,set_some,Nat.reduceEqDiff,reduceIte,setBlks,List.set_cons_zero,List.set_cons_succ];refine aAny_done (by kernel_rfl) ?_;refine k20 _ ?_;refine n19 () _ ?_ ?_
         ·trivial
         ·refine weak_trans (weak_outB 0 ((need.set kx (v - 1)).map (V.int .i64)) .flat rfl (fun _=>rfl) (fun _=>.inr ⟨rfl,nsI _⟩) rfl) ?_;try simp only [List.set_cons_zero,List.set_cons_succ,List.cons_append,List.nil_append,List.length_cons,List.length_nil,Nat.reduceAdd]
          refine weak_trans (weak_outB 1 (out2.map (fun l:List ByteArray=>V.sl (l.map V.str))) (fillK out2.length) rfl kO0 kO1 rfl) ?_;try simp only [List.set_cons_zero,List.set_cons_succ,List.cons_append,List.nil_append,List.length_cons,List.length_nil,Nat.reduceAdd]
          exact weak_same [1,2,3,4,5,8,9] [0,1,2,3,4,9,10] (hm:=by show ∀j,j < 5→_;decide)
        ·try simp only [set_some]
         refine aAny_only 11 rfl (by kernel_rfl) ?_;intro K k;simp only [zE,zM,aStepM,optable,set_some,Nat.reduceEqDiff,reduceIte,Nat.reduceLT,implies_true,forall_const,reduceCtorEq,V.ofValue,V.ofScalar,V.un,V.gd,aExec,lentIds,lendOf,argIds,List.flatMap_cons,List.getD_cons_zero,List.getD_cons_succ,Nat.beq_refl,‹Tys _›.h,‹Fc _›.h];repeat (refine andC ?_)
         refine aCall_self 4 (hrec) rfl rfl rfl (by decide) (by decide) (by simp [Blk.okS,V.onlyL,V.only,Nat.blt,fillK_mix]) rfl (by simp [Blk.okS,V.onlyL,V.only,Nat.blt,fillK_mix]) (qlh.1 rfl) ?_;refine k _ ?_;clear k K;simp only [zW,set_some,Nat.reduceEqDiff,reduceIte,setBlks,List.set_cons_zero,List.set_cons_succ];refine aAny_done (by kernel_rfl) ?_;refine k20 _ ?_;refine n19 () _ ?_ ?_
         ·trivial
         ·refine weak_trans (weak_revive 4 8 (names.map V.str) [.str x0] (by rw [ql7];rfl) rfl) ?_;try simp only [List.set_cons_zero,List.set_cons_succ,List.cons_append,List.nil_append,List.length_cons,List.length_nil,Nat.reduceAdd]
          refine weak_trans (weak_outB 0 ((need.set kx (v - 1)).map (V.int .i64)) .flat rfl (fun _=>rfl) (fun _=>.inr ⟨rfl,nsI _⟩) rfl) ?_;try simp only [List.set_cons_zero,List.set_cons_succ,List.cons_append,List.nil_append,List.length_cons,List.length_nil,Nat.reduceAdd]
          refine weak_trans (weak_outB 1 (out2.map (fun l:List ByteArray=>V.sl (l.map V.str))) (fillK out2.length) rfl kO0 kO1 rfl) ?_;try simp only [List.set_cons_zero,List.set_cons_succ,List.cons_append,List.nil_append,List.length_cons,List.length_nil,Nat.reduceAdd]
          exact weak_same [1,2,3,4,5,8,9] [0,1,2,3,4,9,10] (hm:=by show ∀j,j < 5→_;decide)
       ·intro K k;simp only [zE,zL,zO,zN,optable,set_some,Nat.reduceEqDiff,reduceIte,Nat.reduceLT,implies_true,forall_const,reduceCtorEq,V.ofValue,V.ofScalar,V.un,V.gd,aKeepOp,aKeep,dstOK,fillK_thin,beq_self_eq_true,List.nodup_cons,List.mem_singleton,forall_eq',List.size_toArray,List.getD_eq_getElem?_getD,Array.getD_eq_getD_getElem?,Option.getD_some,aAppend,destOf,srcOf,takeElems,takeV,takeCell,takeCells,row_mk,Blk.row,killAll,V.isSub,V.noSl,Value.cells,Option.toList,List.forall_mem_map,List.length_map,List.all_cons,List.all_nil,List.isEmpty_nil,List.isEmpty_cons,List.not_mem_nil,List.nodup_nil,join_ff,join_ft,join_fv,join_d,join_s,fillK_join0,fillK_join,List.mem_cons,or_false,forall_eq_or_imp,forall_eq,List.set_cons_zero,List.set_cons_succ,List.length_append,Go.Vm.V.cells,Nat.reduceAdd,Nat.reduceLeDiff,Nat.reduceMul,contentL,Value.oneCell',‹Tys _›.h,‹Fc _›.h];repeat (refine andA ?_)
        refine ⟨k _ ?_,fun hne=>k _ ?_⟩<;>clear k K
        ·try simp only [set_some]
         refine zdLoad q20 true 0 46 ?_;refine aAny_only 11 rfl (by kernel_rfl) ?_;intro K k;simp only [zE,zM,aStepM,optable,set_some,Nat.reduceEqDiff,reduceIte,Nat.reduceLT,implies_true,forall_const,reduceCtorEq,V.ofValue,V.ofScalar,V.un,V.gd,aExec,lentIds,lendOf,argIds,List.flatMap_cons,List.getD_cons_zero,List.getD_cons_succ,Nat.beq_refl,‹Tys _›.h,‹Fc _›.h];repeat (refine andC ?_)
         refine aCall_self 4 (hrec) rfl rfl rfl (by decide) (by decide) (by simp [Blk.okS,V.onlyL,V.only,Nat.blt,fillK_mix]) rfl (by simp [Blk.okS,V.onlyL,V.only,Nat.blt,fillK_mix]) (qlh.1 rfl) ?_;refine k _ ?_;clear k K;simp only [zW,set_some,Nat.reduceEqDiff,reduceIte,setBlks,List.set_cons_zero,List.set_cons_succ];refine aAny_done (by kernel_rfl) ?_;refine k20 _ ?_;refine n19 () _ ?_ ?_
         ·trivial
         ·refine weak_trans (weak_outB 0 ((need.set kx (v - 1)).map (V.int .i64)) .flat rfl (fun _=>rfl) (fun _=>.inr ⟨rfl,nsI _⟩) rfl) ?_;try simp only [List.set_cons_zero,List.set_cons_succ,List.cons_append,List.nil_append,List.length_cons,List.length_nil,Nat.reduceAdd]
          refine weak_trans (weak_outB 1 (out2.map (fun l:List ByteArray=>V.sl (l.map V.str))) (fillK out2.length) rfl kO0 kO1 rfl) ?_;try simp only [List.set_cons_zero,List.set_cons_succ,List.cons_append,List.nil_append,List.length_cons,List.length_nil,Nat.reduceAdd]
          exact weak_same [1,2,3,4,5,8,9] [0,1,2,3,4,9,10] (hm:=by show ∀j,j < 5→_;decide)
        ·try simp only [set_some]
         refine zdLoad q20 true 0 46 ?_;refine aAny_only 11 rfl (by kernel_rfl) ?_;intro K k;simp only [zE,zM,aStepM,optable,set_some,Nat.reduceEqDiff,reduceIte,Nat.reduceLT,implies_true,forall_const,reduceCtorEq,V.ofValue,V.ofScalar,V.un,V.gd,aExec,lentIds,lendOf,argIds,List.flatMap_cons,List.getD_cons_zero,List.getD_cons_succ,Nat.beq_refl,‹Tys _›.h,‹Fc _›.h];repeat (refine andC ?_)
         refine aCall_self 4 (hrec) rfl rfl rfl (by decide) (by decide) (by simp [Blk.okS,V.onlyL,V.only,Nat.blt,fillK_mix]) rfl (by simp [Blk.okS,V.onlyL,V.only,Nat.blt,fillK_mix]) (qlh.1 rfl) ?_;refine k _ ?_;clear k K;simp only [zW,set_some,Nat.reduceEqDiff,reduceIte,setBlks,List.set_cons_zero,List.set_cons_succ];refine aAny_done (by kernel_rfl) ?_;refine k20 _ ?_;refine n19 () _ ?_ ?_
         ·trivial
         ·refine weak_trans (weak_revive 4 8 (names.map V.str) [.str x0] (by rw [ql7];rfl) rfl) ?_;try simp only [List.set_cons_zero,List.set_cons_succ,List.cons_append,List.nil_append,List.length_cons,List.length_nil,Nat.reduceAdd]
          refine weak_trans (weak_outB 0 ((need.set kx (v - 1)).map (V.int .i64)) .flat rfl (fun _=>rfl) (fun _=>.inr ⟨rfl,nsI _⟩) rfl) ?_;try simp only [List.set_cons_zero,List.set_cons_succ,List.cons_append,List.nil_append,List.length_cons,List.length_nil,Nat.reduceAdd]
          refine weak_trans (weak_outB 1 (out2.map (fun l:List ByteArray=>V.sl (l.map V.str))) (fillK out2.length) rfl kO0 kO1 rfl) ?_;try simp only [List.set_cons_zero,List.set_cons_succ,List.cons_append,List.nil_append,List.length_cons,List.length_nil,Nat.reduceAdd]
          exact weak_same [1,2,3,4,5,8,9] [0,1,2,3,4,9,10] (hm:=by show ∀j,j < 5→_;decide)
     ·rintro e1 hok19;have hok:True:=hok19;have F:=Fc.mk (ai (gdm hx) (ai (gdm hv) (ai @set_map (ai hll (ai (gdm hv2) hbk)))));refine yQ [1,2,3,4,5,8] ⟨?_⟩;refine yV ⟨?_⟩;refine n8 _ (i+1,out2) ?_ ?_ ?_
      ·refine weak_bothN [1,2,3,4,5,8] [0,1,2,3,4,5,6] (hm:=by show ∀j,j < 5→_;decide) ⟨?_⟩;rfl
      ·exact ⟨by show a0≤i+1∧i+1≤us.length;omega,hol2,hR⟩
      ·show _ < _;show us.length - (i+1) < us.length - i;omega
    ·intro hc2;rw [loopI_miss hal (by rw [hvg];omega)] at hR;refine zn [1,2,3,4,5,8] ⟨?_⟩;refine yV ⟨?_⟩;refine n8 _ (i+1,acc) ?_ ?_ ?_
     ·refine weak_bothN [1,2,3,4,5,8] [0,1,2,3,4,5,6] (hm:=by show ∀j,j < 5→_;decide) ⟨?_⟩;rfl
     ·exact ⟨by show a0≤i+1∧i+1≤us.length;omega,hal0,hR⟩
     ·show _ < _;show us.length - (i+1) < us.length - i;omega
   ·intro hc1;have hend:(loopI need ((us.drop a0).map fun a=>(a.1,a.2.1)) names outs)=acc:=by
     rw [←hR]
     by_cases hq:20 < acc.length
     ·exact loopI_full hq _
     ·rw [qlt (by first | omega | (simp_all;omega))];rfl
    rw [hend] at n0 r0;refine zx ⟨?_⟩;refine n0 _ ⟨[],[.box (slN (need.map (V.int .i64))) .deep,.box (slN (acc.map (fun l:List ByteArray=>V.sl (l.map V.str)))) .deep,.box (.sl (us.map (fun t:TA=>V.agg [V.str t.1,V.int .i64 t.2.1,V.int .i64 t.2.2.1,V.int .i64 t.2.2.2.1,V.int .i64 t.2.2.2.2]))) .shal,.box (.fn 64 [.ptr 0 0 0,.ptr 1 0 0,.ptr 2 0 0,.ptr 3 0 0]) .mix,.arr (names.map V.str) .flat],false,64,0⟩ ?_ ⟨rfl,rfl⟩;exact weak_trans (weak_trans (weak_inB 0 5 (need.map (V.int .i64)) .mix .flat rfl (.inr rfl) rfl (by decide) (.inl rfl)) (weak_inB 1 6 (acc.map (fun l:List ByteArray=>V.sl (l.map V.str))) .mix (fillK acc.length) rfl (.inr rfl) (rfl) (by decide) (fillK_or _))) (weak_same [] [0,1,2,3,4] (hm:=by show ∀j,j < 5→_;decide))
theorem extend_con (us:List TA) (hfl:us.length≤12) (hk:∀a∈us,0≤a.2.1∧a.2.1≤3):∀(b:Nat) (nd:List Int) (nms:List ByteArray) (os:List (List ByteArray)),b≤us.length→(nd.length=4∧∀x∈nd,0≤x∧x≤6)→nms.length≤b→os.length≤20→
    ConS Tryz.prog 64 [.int .i64 (b:Int),.ref 4,.ptr 0 0 0,.ptr 1 0 0,.ptr 2 0 0,.ptr 3 0 0] [.box (slN (nd.map (V.int .i64))) .deep,.box (slN (os.map (fun l:List ByteArray=>V.sl (l.map V.str)))) .deep,.box (.sl (us.map (fun t:TA=>V.agg [V.str t.1,V.int .i64 t.2.1,V.int .i64 t.2.2.1,V.int .i64 t.2.2.2.1,V.int .i64 t.2.2.2.2]))) .shal,.box (.fn 64 [.ptr 0 0 0,.ptr 1 0 0,.ptr 2 0 0,.ptr 3 0 0]) .mix,.arr (nms.map V.str) .flat] [.box (slN (nd.map (V.int .i64))) .deep,.box (slN ((extI nd ((us.drop b).map fun a=>(a.1,a.2.1)) nms os).map (fun l:List ByteArray=>V.sl (l.map V.str)))) .deep,.box (.sl (us.map (fun t:TA=>V.agg [V.str t.1,V.int .i64 t.2.1,V.int .i64 t.2.2.1,V.int .i64 t.2.2.2.1,V.int .i64 t.2.2.2.2]))) .shal,.box (.fn 64 [.ptr 0 0 0,.ptr 1 0 0,.ptr 2 0 0,.ptr 3 0 0]) .mix,.arr (nms.map V.str) .flat]:=by
  have key:∀(m b:Nat) (nd:List Int) (nms:List ByteArray) (os:List (List ByteArray)),us.length - b≤m→b≤us.length→(nd.length=4∧∀x∈nd,0≤x∧x≤6)→nms.length≤b→os.length≤20→
    ConS Tryz.prog 64 [.int .i64 (b:Int),.ref 4,.ptr 0 0 0,.ptr 1 0 0,.ptr 2 0 0,.ptr 3 0 0] [.box (slN (nd.map (V.int .i64))) .deep,.box (slN (os.map (fun l:List ByteArray=>V.sl (l.map V.str)))) .deep,.box (.sl (us.map (fun t:TA=>V.agg [V.str t.1,V.int .i64 t.2.1,V.int .i64 t.2.2.1,V.int .i64 t.2.2.2.1,V.int .i64 t.2.2.2.2]))) .shal,.box (.fn 64 [.ptr 0 0 0,.ptr 1 0 0,.ptr 2 0 0,.ptr 3 0 0]) .mix,.arr (nms.map V.str) .flat] [.box (slN (nd.map (V.int .i64))) .deep,.box (slN ((extI nd ((us.drop b).map fun a=>(a.1,a.2.1)) nms os).map (fun l:List ByteArray=>V.sl (l.map V.str)))) .deep,.box (.sl (us.map (fun t:TA=>V.agg [V.str t.1,V.int .i64 t.2.1,V.int .i64 t.2.2.1,V.int .i64 t.2.2.2.1,V.int .i64 t.2.2.2.2]))) .shal,.box (.fn 64 [.ptr 0 0 0,.ptr 1 0 0,.ptr 2 0 0,.ptr 3 0 0]) .mix,.arr (nms.map V.str) .flat]:=by
    intro m
    induction m with
    | zero=>exact fun b nd nms os h h1 h2 h3 h4=>extend_step us nd b nms os hfl hk h2 h1 h3 h4 fun b2 _ _ _ q1 q2=>absurd q1 (by omega)
    | succ m ih=>exact fun b nd nms os h h1 h2 h3 h4=>extend_step us nd b nms os hfl hk h2 h1 h3 h4 fun b2 nd2 nms2 os2 q1 q2 q3 q4 q5=>ih b2 nd2 nms2 os2 (by omega) q2 q3 q4 q5
  exact fun b nd nms os=>key _ b nd nms os (qlu _)
end Go.Proofs.YtmhaafinhpopmaaGreat
