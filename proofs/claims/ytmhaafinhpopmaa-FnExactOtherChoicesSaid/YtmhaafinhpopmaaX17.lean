/- What functions compute. No condition. -/
import Derived.Test.YtmhaafinhpopmaaX16
set_option linter.unusedSimpArgs false
set_option linter.unusedVariables false
set_option linter.defProp false
namespace Go.Proofs.Ytmhaafinhpopmaa
open Go Go.Vm
set_option maxHeartbeats 8000000
set_option maxRecDepth 8000 in
theorem implOth_con (n:Int) (ss:List TS) (fl:List TA) (node:Int) (hd:DsFacts n ss fl) (hu:0≤node∧node < n) (need:List Int) (limit:Int) (hn:(need.length=4∧∀x∈need,0≤x∧x≤6)):Con Try.prog 33 [.pv [.agg [.int .i64 n,.sl (ss.map (fun t:TS=>V.agg [V.int .i64 t.1,V.int .i64 t.2.1,V.int .i64 t.2.2]))]] 0 0,.sl (fl.map (fun t:TA=>V.agg [V.str t.1,V.int .i64 t.2.1,V.int .i64 t.2.2.1,V.int .i64 t.2.2.2.1,V.int .i64 t.2.2.2.2])),.int .i64 node,.sl (need.map (V.int .i64)),.int .i64 limit] [] (.tup [.ref 0,.bool (!decide (20 < (othAll n ss fl node need limit).length))]) [.arr ((if 20 < (othAll n ss fl node need limit).length then [] else (othAll n ss fl node need limit)).map (fun l:List ByteArray=>V.sl (l.map V.str))) (fillK (if 20 < (othAll n ss fl node need limit).length then [] else (othAll n ss fl node need limit)).length)]:=by
 have hfl:=hd.hfl;obtain ⟨ts,hts⟩:∃ts,ts=tmL n ss node:=⟨_,rfl⟩;have htl:ts.length=n.toNat:=by rw [hts,times_len]
 have htb:=tm_facts hd.hn hu hd.hss hd.hsl;rw [←hts] at htb;have hn14:=hd.hn;have hsn:∀nid,Vm.settle nid V.nfn=(V.nfn,[]):=fun _=>rfl
 refine v_con [.tmp 10,.tmp 11] [(57,[2,3,4,5,1])] Try.func33 rfl rfl rfl (by simp [Try.ntmps33]) ?_;intro Q0 n0 r0;simp only [Try.ntmps33,envFrom,Nat.reduceAdd];have T:=Tys.mk (ai Ty.t3 (ai Ty.t4 (ai Ty.t9 (ai Ty.t26 (ai Ty.t29 (ai Ty.t32 (ai Ty.t34 (ai Ty.t36 (ai Ty.t60 (ai Ty.t63 (ai Ty.t66 (ai Ty.t79 Ty.t86))))))))))));have F:=Fc.mk True.intro;have F:=Fc.mk hsn;refine yR [0,1,2,3,4] ⟨?_⟩;refine yRc [1,3,4,12] ((hts ▸ tTimes_con n ss node hd.hn hu hd.hss hd.hsl:Con _ _ _ _ _ [.arr (ts.map (V.int .i64)) .flat])) ⟨?_⟩;refine yR [1,3,4,12,13] ⟨?_⟩;refine v_seq ?_;intros;refine yR [3,4,12,13,22,23,24] ⟨?_⟩;refine v_block ?_;intros;refine v_loop (fun i=>⟨[(3,.sl (need.map (V.int .i64))),(4,.int .i64 limit),(12,.ref 0),(13,.ptr 1 0 0),(22,.sl (fl.map (fun t:TA=>V.agg [V.str t.1,V.int .i64 t.2.1,V.int .i64 t.2.2.1,V.int .i64 t.2.2.2.1,V.int .i64 t.2.2.2.2]))),(23,.int .i64 fl.length),(24,.int .i64 (Nat.cast i))],[.arr (ts.map (V.int .i64)) .flat,.box (.ref 2) .mix,.arr ((usL (fl.take i) ts limit).map (fun t:TA=>V.agg [V.str t.1,V.int .i64 t.2.1,V.int .i64 t.2.2.1,V.int .i64 t.2.2.2.1,V.int .i64 t.2.2.2.2])) .flat],false,53,0⟩) (fun i=>i≤fl.length) (fun i=>fl.length - i) 0 ?_ ?_ ?_
 ·refine weak_bothN [3,4,12,13,22,23,24] [1,3,2] ⟨?_⟩;rfl
 ·exact qlg _
 ·rintro i hok7 Q7 n7 e7 r7;have hi1:i≤fl.length:=hok7;refine yR [3,4,12,13,22,23,24,25] ⟨?_⟩;refine v_seq ?_;intros;refine v_condS _ rfl ?_ ?_
  ·intro hc0;have hlt:i < fl.length:=by omega
   obtain ⟨⟨x0,x1,x2,x3,x4⟩,hx⟩:∃x:TA,fl[i]? =some x:=⟨fl[i]'(by omega),qla (by omega)⟩;have hap:=hd.hap _ (qlb hx);simp only [] at hap;obtain ⟨w,hw⟩:=qln hap.2.1;subst hw;obtain ⟨p,hp⟩:∃p,ts[w]? =some p:=⟨_,qla (by rw [htl];omega)⟩;have hwl:w < ts.length:=by rw [htl];omega
   have hpb:=htb w;rw [Tm.at_get hp] at hpb;have hst:=us_take (ts:=ts) (limit:=limit) hx;have hup:usP ts limit (x0,x1,(w:Int),x3,x4)=(availB (x0,x1,(w:Int),x3,x4) && inR p 0 limit):=by rw [usP];simp only [Int.toNat_natCast,Tm.at_get hp]
   have hul:=us_len (fl.take i) ts limit;have htl2:(fl.take i).length=i:=by rw [qlz];omega
   refine zn [3,4,12,13,22,23,24] ⟨?_⟩;refine v_seq ?_;intros;refine v_block ?_;intros;have F:=Fc.mk (ai hsn (ai (gdm hx) (gdm hp)));refine yR [3,4,12,13,15,22,23,24] ⟨?_⟩;refine yRcg [3,4,12,13,15,22,23,24,38] (isAvailable_con x0 x1 (w:Int) x3 x4 hap.1) (inside_con p 0 limit) ⟨?_⟩;refine v_condS _ rfl ?_ ?_
   ·intro hc1;have hr1:usP ts limit (x0,x1,(w:Int),x3,x4)=true:=by rw [hup];simpa [inR] using hc1
    refine yQ [3,4,12,13,22,23,24] ⟨?_⟩;refine yV ⟨?_⟩;refine n7 _ (i+1) ?_ ?_ ?_
    ·refine weak_bothN [3,4,12,13,22,23,24] [0,1,5] ⟨?_⟩;rw [hst,if_pos hr1,←snoc_ap];rfl
    ·exact hlt
    ·show _ < _;omega
   ·intro hc1;have hr1:¬usP ts limit (x0,x1,(w:Int),x3,x4)=true:=by rw [hup];simpa [inR] using hc1
    refine zn [3,4,12,13,22,23,24] ⟨?_⟩;refine yV ⟨?_⟩;refine n7 _ (i+1) ?_ ?_ ?_
    ·refine weak_bothN [3,4,12,13,22,23,24] [0,1,2] ⟨?_⟩;rw [hst,if_neg hr1];rfl
    ·exact hlt
    ·show _ < _;omega
  ·intro hc0;have hend:i=fl.length:=by omega
   subst hend;rw [List.take_length];have htr:=oth_impl (fl:=fl) (ts:=ts) (need:=need) (limit:=limit);have hoa:othAll n ss fl node need limit=full need (usN fl ts limit):=by rw [othAll,hts]
   rw [←hoa] at htr;have hti:=tr_in htr;have husl:=us_len fl ts limit;have husk:∀a∈usL fl ts limit,0≤a.2.1∧a.2.1≤3:=fun a ha=>(hd.hap a (us_sub ha)).1
   have hxl:=extI_le need (((usL fl ts limit).drop 0).map fun a=>(a.1,a.2.1)) [] [] (by simp);have hnil:=extend_nil (usL fl ts limit) need 0 [] (by omega) husk hn (qlg _) (by simp) (fun b nd nms os _ h2 h3 h4 h5=>extend_con (usL fl ts limit) (by omega) husk b nd nms os h2 h3 h4 h5);generalize extI need (((usL fl ts limit).drop 0).map fun a=>(a.1,a.2.1)) [] []=out at htr hti hxl hnil;generalize usL fl ts limit=us at hnil husl husk⊢;refine zn [3,13] ⟨?_⟩;refine yRc [13,16] (cloneInt_con need (by have:=hn.1;omega)) ⟨?_⟩;refine yR [13,16,17] ⟨?_⟩;refine yR [13,16,17,18] ⟨?_⟩;refine v_seq ?_;intro Q22 n22 e22 r22;refine yV ⟨?_⟩;apply n22
   ·apply weak_trans (weak_keep [17,18] _);simp only [keep_mk,keepE_nil,keepE_cons,look_cons,look_nil,Nat.reduceEqDiff,reduceIte];refine weak_trans (u:=⟨[(17,.ptr 1 0 0),(18,.ptr 3 0 0)],[.box (slN (need.map (V.int .i64))) .deep,.box (slN (([]:List (List ByteArray)).map (fun l:List ByteArray=>V.sl (l.map V.str)))) .deep,.box (.sl (us.map (fun t:TA=>V.agg [V.str t.1,V.int .i64 t.2.1,V.int .i64 t.2.2.1,V.int .i64 t.2.2.2.1,V.int .i64 t.2.2.2.2]))) .shal,.box (.fn 57 [.ptr 0 0 0,.ptr 1 0 0,.ptr 2 0 0,.ptr 3 0 0]) .mix],false,53,0⟩) (weak_giveV 1 2 (us.map (fun t:TA=>V.agg [V.str t.1,V.int .i64 t.2.1,V.int .i64 t.2.2.1,V.int .i64 t.2.2.2.1,V.int .i64 t.2.2.2.2])) .flat rfl rfl (.inl rfl) (by decide)) ?_;refine weak_trans (weak_inB 5 3 (need.map (V.int .i64)) .mix .flat rfl (.inr rfl) rfl (by decide) (.inl rfl)) ?_;refine weak_trans (weak_inB 7 6 [] .mix .flat rfl (.inr rfl) rfl (by decide) (.inl rfl)) ?_;try simp only [List.set_cons_zero,List.set_cons_succ]
    exact weak_same [17,18] [5,7,1,8]
   try simp only [atSlot_cons,atSlot_nil,Nat.reduceEqDiff,reduceIte,List.set_cons_zero,List.set_cons_succ]
   refine v_seq ?_;intro Q24 n24 e24 r24;refine v_region ?_;intro K25 k25;refine zLoad ⟨?_⟩;refine v_op ?_;intro K k;simp only [zE,zM,aStepM,optable,set_some,Nat.reduceEqDiff,reduceIte,Nat.reduceLT,implies_true,forall_const,reduceCtorEq,V.ofValue,V.ofScalar,V.un,V.gd,aExec,lentIds,lendOf,argIds,List.flatMap_cons,List.getD_cons_zero,List.getD_cons_succ,Nat.beq_refl,‹Tys _›.h,‹Fc _›.h];repeat (refine andC ?_)
   refine aCall_self 4 (hnil) rfl rfl rfl (by decide) (by decide) (by simp [Blk.okS,V.onlyL,V.only,Nat.blt,fillK_mix]) rfl (by simp [Blk.okS,V.onlyL,V.only,Nat.blt,fillK_mix]) (qlt.1 rfl) ?_;refine k _ ?_;clear k K;simp only [zW,set_some,Nat.reduceEqDiff,reduceIte,setBlks,List.set_cons_zero,List.set_cons_succ];refine k25 _ ?_;apply n24
   ·apply weak_trans (weak_keep [17] _);simp only [keep_mk,keepE_nil,keepE_cons,look_cons,look_nil,Nat.reduceEqDiff,reduceIte];exact weak_outB 1 (out.map (fun l:List ByteArray=>V.sl (l.map V.str))) (fillK out.length) rfl kO0 kO1 rfl
   try simp only [atSlot_cons,atSlot_nil,Nat.reduceEqDiff,reduceIte,List.set_cons_zero,List.set_cons_succ]
   refine v_seq ?_;intros;refine yR [17,51] ⟨?_⟩;refine v_condS _ rfl ?_ ?_
   ·intro hc2;have hq:20 < (othAll n ss fl node need limit).length:=hti.1.1 (by omega);refine yR [10,11] ⟨?_⟩;refine zr ⟨?_⟩;rw [decide_eq_true hq,if_pos hq];exact ret_ref_tup rfl rfl rfl (.inl rfl)
   ·intro hc2;have hq:¬20 < (othAll n ss fl node need limit).length:=fun q=>absurd (hti.1.2 q) (by omega)
    have hoq:=hti.2 (by omega);refine zn [17] ⟨?_⟩;refine yR [10,11] ⟨?_⟩;refine zr ⟨?_⟩;rw [decide_eq_false hq,if_neg hq,←hoq];exact rta
set_option maxRecDepth 8000 in
theorem implOther_con (n:Int) (ss:List TS) (fl:List TA) (node:Int) (need:List Int) (limit:Int) (hs:ss.length≤1048576) (hl:fl.length≤1048576) (hls:∀t∈fl,t.1.size≤9223372036854775807) (hne:need.length≤1048576):Con Try.prog 10 [.agg [.int .i64 n,.sl (ss.map (fun t:TS=>V.agg [V.int .i64 t.1,V.int .i64 t.2.1,V.int .i64 t.2.2]))],.sl (fl.map (fun t:TA=>V.agg [V.str t.1,V.int .i64 t.2.1,V.int .i64 t.2.2.1,V.int .i64 t.2.2.2.1,V.int .i64 t.2.2.2.2])),.int .i64 node,.sl (need.map (V.int .i64)),.int .i64 limit] [] (.tup [.ref 0,.bool (othB n ss fl node need limit)]) [.arr ((othR n ss fl node need limit).map (fun l:List ByteArray=>V.sl (l.map V.str))) (fillK (othR n ss fl node need limit).length)]:=by
 refine v_con [.tmp 10,.tmp 11] [] Try.func10 rfl rfl rfl (by simp [Try.ntmps10]) ?_;intro Q0 n0 r0;simp only [Try.ntmps10,envFrom,Nat.reduceAdd];have T:=Tys.mk (ai Ty.t3 (ai Ty.t4 (ai Ty.t9 (ai Ty.t26 (ai Ty.t32 (ai Ty.t34 (ai Ty.t36 (ai Ty.t60 (ai Ty.t63 Ty.t79)))))))));have F:=Fc.mk True.intro;refine yR [1,2,3,4,5] ⟨?_⟩;refine v_seq ?_;intros;refine v_seqR [1,2,3,4,5,29] ?_;intro K3 k3;refine zMove ⟨?_⟩;refine zc (dispatchFits_con n ss fl hs hl hls) ⟨?_⟩;refine zUnOp ⟨?_⟩;refine zMove ⟨?_⟩;refine zgMove ⟨?_⟩;refine zgc (tHas_con n ss node) ⟨?_⟩;refine zgUnOp ⟨?_⟩;refine zq3 ⟨?_⟩;refine zgMove ⟨?_⟩;refine zgc (isNeed_con need hne) ⟨?_⟩;refine zgUnOp ⟨?_⟩;refine zq3 ⟨?_⟩;refine zgMove ⟨?_⟩;refine zgc (isLimit_con limit) ⟨?_⟩;refine zgUnOp ⟨?_⟩;refine zPick ⟨?_⟩;refine k3 _ ?_;refine zk ⟨?_⟩;refine v_condS _ rfl ?_ ?_
 ·intro hc0;have hh:(askD n ss fl node && (need4 need && inR limit 0 36000))=false:=by cases hq:(askD n ss fl node && (need4 need && inR limit 0 36000)) with | false=>rfl | true=>(exfalso;simp [askD,inR] at hq hc0;first | (simp_all;done) | (simp_all [askD];done) | (simp_all;omega))
  have hB:othB n ss fl node need limit=false:=by rw [othB,hh];rfl
  have hR0:othR n ss fl node need limit=[]:=by rw [othR,hB];rfl
  refine yR [10,11] ⟨?_⟩;refine zr ⟨?_⟩;rw [hB,hR0];exact ret_ref_tup rfl rfl rfl (.inl rfl)
 ·intro hc0;have hH:askD n ss fl node=true∧need4 need=true∧inR limit 0 36000=true:=by first | exact hc0 | (simp [askD,inR] at hc0⊢;first | exact hc0 | (simp_all;done) | (simp_all;omega))
  obtain ⟨hask,hnd,hlm⟩:=hH;have hK:(askD n ss fl node && (need4 need && inR limit 0 36000))=true:=by rw [hask,hnd,hlm];rfl
  have hn:=need4_facts hnd;obtain ⟨hd,hu⟩:=ask_facts hask;have hfl:=hd.hfl;have hB:othB n ss fl node need limit= !decide (20 < (othAll n ss fl node need limit).length):=by rw [othB,hK];rfl
  have hR1:othR n ss fl node need limit=(if 20 < (othAll n ss fl node need limit).length then [] else (othAll n ss fl node need limit)):=by
   rw [othR,hB]
   by_cases q:20 < (othAll n ss fl node need limit).length
   ·rw [decide_eq_true q,if_pos q];rfl
   ·rw [decide_eq_false q,if_neg q];rfl
  refine zn [1,2,3,4,5] ⟨?_⟩;refine yRc [10,11] (implOth_con n ss fl node hd hu need limit hn) ⟨?_⟩;refine zr ⟨?_⟩;rw [hB,hR1];exact ret_ref_tup rfl rfl rfl (fillK_or _)
theorem totTS_le {m:Nat}:∀{ll:List (List ByteArray)},(∀l∈ll,l.length≤m)→totTS ll≤(m * ll.length:Nat)
  | [],_=>Int.le_refl _
  | l::ll,h=>by
    have h1:=h l (qld ..);have h2:=totTS_le fun x hx=>h x (qlk _ hx)
    rw [totTS,ql7,Nat.mul_succ];omega
theorem oth_facts (n:Int) (ss:List TS) (fl:List TA) (node:Int) (need:List Int) (limit:Int):(othR n ss fl node need limit).length≤1048576∧(∀l∈othR n ss fl node need limit,l.length≤1048576)∧0≤totTS (othR n ss fl node need limit)∧totTS (othR n ss fl node need limit)≤240:=by
  rw [othR];split
  · rename_i h
    rw [othB,qly] at h;obtain ⟨h1,h2⟩:=h;have h20:¬20 < (othAll n ss fl node need limit).length:=by simpa using h2
    rw [qly] at h1;have hd:=(ask_facts h1.1).1;have hl:=@oth_len n ss fl node need limit hd.hfl;have ht:=totTS_le hl;exact ⟨by omega,fun l hl'=>ql9 (hl l hl') (by decide),totTS_pos _,by omega⟩
  · exact ⟨by simp,(fun l hl=>nomatch hl),Int.le_refl _,by decide⟩
end Go.Proofs.Ytmhaafinhpopmaa
