/- What functions compute. No condition. -/
import Derived.Test.YtcdpeopiajgljaaUz
import Derived.Test.YtcdpeopiajgljaaUty
import Derived.Test.YtcdpeopiajgljaaUmG
import Derived.Test.YtcdpeopiajgljaaX7
import Derived.Test.YtcdpeopiajgljaaX2
import Derived.Test.YtcdpeopiajgljaaX6
import Derived.Test.YtcdpeopiajgljaaX5
set_option linter.unusedSimpArgs false
set_option linter.unusedVariables false
set_option linter.defProp false
namespace Go.Proofs.Ytcdpeopiajgljaa
open Go Go.Vm
set_option maxHeartbeats 8000000
set_option maxRecDepth 100000 in
theorem lawFnCallGroups_con (c1 c2:List Int) (hc1:∀x∈c1,0≤x∧x≤255) (hc2:∀x∈c2,0≤x∧x≤255) (hn1:c1.length≤9223372036854775807) (hn2:c2.length≤9223372036854775807):Con Try.prog 4 [.sl (c1.map (V.int .u8)),.sl (c2.map (V.int .u8))] [] (.bool true) []:=by
 refine v_con [.tmp 4] [] Try.func4 rfl rfl rfl (by simp [Try.ntmps4]) ?_
 intro Q0 n0 r0
 simp only [Try.ntmps4,envFrom,Nat.reduceAdd]
 have T:=Tys.mk (ai Ty.t3 (ai Ty.t4 (ai Ty.t5 (ai Ty.t26 (ai Ty.t48 (ai Ty.t50 (ai Ty.t53 Ty.t65)))))))
 have F:=Fc.mk True.intro
 refine yR [0,1] ⟨?_⟩;refine v_seq ?_;intro Q2 n2 e2 r2;refine yRc [0,1,58] (big_con c1 c2 hn1 hn2) ⟨?_⟩;refine v_condS _ rfl ?_ ?_
 ·intro hc0
  refine yR [4] ⟨?_⟩;refine zr ⟨?_⟩
  exact ret_pure rfl rfl (.inl rfl)
 ·intro hc0
  refine zn [0,1] ⟨?_⟩;refine v_seqR [1,5,6,7] ?_;intro K6 k6;refine zMove ⟨?_⟩;refine v_op ?_;intro K k
  simp only [zE,zM,aStepM,optable,set_some,Nat.reduceEqDiff,reduceIte,Nat.reduceLT,implies_true,forall_const,reduceCtorEq,V.ofValue,V.ofScalar,V.un,V.gd,aExec,lentIds,lendOf,‹Tys _›.h,‹Fc _›.h]
  repeat (refine andC ?_)
  refine aCall_newXA (drawGroupCalls_con c1 hc1 hn1) ?_
  rintro _ _ ⟨l,wn,rd,hll,rfl,rfl⟩
  refine ⟨by first | exact .inl ⟨rfl,by simp [Blk.kindIs,fillK_fd,thK_fd]⟩ | exact .inr (by simp [V.coldIn,V.cold,idx]),?_⟩;refine k _ ?_;clear k K
  simp only [zY,zW,set_some,Nat.reduceEqDiff,reduceIte,rho_one,rho_s,V.ren,V.renL,List.set_cons_zero,List.set_cons_succ,rho,Nat.reduceAdd,Nat.add_zero]
  have hgcf:=gcR_facts l wn rd hll
  refine zMove ⟨?_⟩;refine zExtract ⟨?_⟩;refine zExtract ⟨?_⟩;refine zExtract ⟨?_⟩;refine zq9 ⟨?_⟩;refine zAssign ⟨?_⟩;refine k6 _ ?_;refine zk ⟨?_⟩;refine yRc [1,5,6,7,8,9] (implGroupCalls_con l (by omega) wn rd) ⟨?_⟩;refine yRc [1,5,6,7,8,9,10,11] (specGroupCalls_con l (by omega) wn rd) ⟨?_⟩;refine v_seq ?_;intros;refine yRgg [1,5,6,7,9,10,95] (sameLists_con (gcR l wn rd) hgcf.1 hgcf.2) (implAreCalls_con l (by omega)) ⟨?_⟩;refine v_cond _ rfl ?_ ?_
  ·intro hc1
   exfalso;revert hc1
   rw [gcB]
   cases csB l<;>simp
  ·intro hc1
   try simp only [zC,reduceCtorEq] at hc1
   skip
   refine zn [1,5,6,7,9,10] ⟨?_⟩;refine v_join (A:=Unit) (fun u0=>⟨[(1,.sl (c2.map (V.int .u8)))],[],true,388,0⟩) (fun u0=>True) ?_ ?_
   ·intro Q12 n12 e12 r12
    refine v_seq ?_;intro Q13 n13 e13 r13;refine yV ⟨?_⟩
    apply n13
    ·apply weak_trans (weak_keep [1,5,6,7,10,96] _)
     simp only [keep_mk,keepE_nil,keepE_cons,look_cons,look_nil,Nat.reduceEqDiff,reduceIte]
     exact weak_view
    try simp only [atSlot_cons,atSlot_nil,Nat.reduceEqDiff,reduceIte,List.set_cons_zero,List.set_cons_succ]
    refine v_condS _ rfl ?_ ?_
    ·intro hc2
     have hB:gcB l wn rd=true:=hc2
     have hq:=hB
     rw [gcB,Bool.and_eq_true] at hq
     have hcs:=hq.1
     have hwin:=hq.2
     have hl20:=cs_len hcs
     have hea:=cs_each hcs
     have hGR:=gcR_yes hB
     obtain ⟨G,hG⟩:∃G,G=groupsC l wn rd:=⟨_,rfl⟩
     rw [←hG] at hGR
     rw [hGR]
     have hGl:G.length≤l.length:=by rw [hG];exact outTo_len _ _ _
     have htot:G.flatten.length=l.length:=by rw [hG];exact cg_total
     refine yR [1,5,6,7,10,12] ⟨?_⟩;refine yR [1,5,6,7,10,12,13] ⟨?_⟩;refine v_seq ?_;intros;refine yR [1,5,6,7,12,13,100,101,102] ⟨?_⟩;refine v_block ?_;intros;refine v_loop (fun p=>⟨[(1,.sl (c2.map (V.int .u8))),(5,.ref 0),(6,.int .i64 wn),(7,.int .i64 rd),(12,.ref 2),(13,.int .i64 (Nat.cast p.2.2)),(100,.ref 1),(101,.int .i64 G.length),(102,.int .i64 (Nat.cast p.1))],[.arr (l.map (fun t:Int×Int×Int×Int×Int=>V.agg [V.int .i64 t.1,V.int .i64 t.2.1,V.int .i64 t.2.2.1,V.int .i64 t.2.2.2.1,V.int .i64 t.2.2.2.2])) .flat,.arr (G.map (fun l:List Int=>V.sl (l.map (V.int .i64)))) (fillK G.length),.arr (p.2.1.map (V.int .i64)) .flat],true,388,0⟩) (fun p=>p.1≤G.length∧PlInv (mkC l wn rd) l.length (G.take p.1).flatten p.2.1∧p.2.2=(G.take p.1).flatten.length) (fun p=>G.length - p.1) ((0,List.replicate l.length 0,0):Nat×List Int×Nat) ?_ ?_ ?_
     ·refine weak_bothS [1,5,6,7,12,13,100,101,102] [0,2,3] ⟨?_⟩
      rw [List.map_replicate];rfl
     ·exact ⟨Nat.zero_le _,plInv_zero _ _,rfl⟩
     ·rintro ⟨gi,P,cm⟩ hok21 Q21 n21 e21 r21
      obtain ⟨hi1,hP,hcm⟩:=hok21
      simp only [] at hi1 hP hcm⊢
      refine yR [1,5,6,7,12,13,100,101,102,103] ⟨?_⟩;refine v_seq ?_;intros;refine v_condS _ rfl ?_ ?_
      ·intro hc3
       have hltg:gi < G.length:=by omega
       obtain ⟨g,hg⟩:∃x,G[gi]? =some x:=⟨G[gi],List.getElem?_eq_getElem hltg⟩
       have hgm:g∈groupsC l wn rd:=by rw [←hG];exact List.mem_of_getElem? hg
       have hgi:=groups_in hgm
       have hgl:=groups_len hgm
       have hgG:=cg_isG hgm
       have hmg:mgB l g=true:=by rw [mgB,hcs,hgG];rfl
       have hcb:=cg_bounds hmg
       have hfl:=take_flat hg
       refine zn [1,5,6,7,12,13,100,101,102] ⟨?_⟩;refine v_seq ?_;intros;refine v_block ?_;intros
       have F:=Fc.mk (gdm hg)
       refine yR [1,5,6,7,12,13,14,15,100,101,102] ⟨?_⟩;refine v_seq ?_;intros;refine yR [1,5,6,7,12,13,14,15,100,101,102,107,108,109] ⟨?_⟩;refine v_block ?_;intros;refine v_loop (fun q=>⟨[(1,.sl (c2.map (V.int .u8))),(5,.ref 0),(6,.int .i64 wn),(7,.int .i64 rd),(12,.ref 2),(13,.int .i64 (Nat.cast q.2.2)),(14,.int .i64 (Nat.cast gi)),(15,.sl (g.map (V.int .i64))),(100,.ref 1),(101,.int .i64 G.length),(102,.int .i64 (Nat.cast gi)),(107,.sl (g.map (V.int .i64))),(108,.int .i64 g.length),(109,.int .i64 (Nat.cast q.1))],[.arr (l.map (fun t:Int×Int×Int×Int×Int=>V.agg [V.int .i64 t.1,V.int .i64 t.2.1,V.int .i64 t.2.2.1,V.int .i64 t.2.2.2.1,V.int .i64 t.2.2.2.2])) .flat,.arr (G.map (fun l:List Int=>V.sl (l.map (V.int .i64)))) (fillK G.length),.arr (q.2.1.map (V.int .i64)) .flat],true,388,0⟩) (fun q=>q.1≤g.length∧PlInv (mkC l wn rd) l.length ((G.take gi).flatten++g.take q.1) q.2.1∧q.2.2=((G.take gi).flatten++g.take q.1).length) (fun q=>g.length - q.1) ((0,P,cm):Nat×List Int×Nat) ?_ ?_ ?_
       ·refine weak_bothS [1,5,6,7,12,13,14,15,100,101,102,107,108,109] [0,1,2] ⟨?_⟩
        rfl
       ·exact ⟨Nat.zero_le _,by rw [List.take_zero,List.append_nil];exact hP,by rw [List.take_zero,List.append_nil];exact hcm⟩
       ·rintro ⟨jj,P2,cn⟩ hok31 Q31 n31 e31 r31
        obtain ⟨hj1,hP2,hcn⟩:=hok31
        simp only [] at hj1 hP2 hcn⊢
        refine yR [1,5,6,7,12,13,14,15,100,101,102,107,108,109,110] ⟨?_⟩;refine v_seq ?_;intros;refine v_condS _ rfl ?_ ?_
        ·intro hc4
         have hltj:jj < g.length:=by omega
         obtain ⟨xg,hxg⟩:∃x,g[jj]? =some x:=⟨g[jj],List.getElem?_eq_getElem hltj⟩
         obtain ⟨xn,rfl,hxn⟩:=hgi _ (List.mem_of_getElem? hxg)
         have hxl:(xn:Int) < (l.length:Int):=by omega
         have hpt:plI (mkC l wn rd) l.length xn=gi:=out_place (show (outTo (mkC l wn rd) l.length l.length)[gi]? =some g from by have q:=hg;rw [hG] at q;exact q) xn (List.mem_of_getElem? hxg)
         have hP3:=plInv_step hP2 hxn hpt
         rw [List.append_assoc,←take_snoc hxg] at hP3
         have hP2l:=hP2.1
         have hcn1:cn+1=((G.take gi).flatten++g.take (jj+1)).length:=by
          rw [take_snoc hxg,←List.append_assoc,List.length_append,←hcn];rfl
         obtain ⟨pv,hpv⟩:∃z,P2[xn]? =some z:=⟨_,List.getElem?_eq_getElem (by omega)⟩
         have hcl0:cn≤1000:=by
          have e1:((G.take gi).flatten++g.take jj).length=(G.take gi).flatten.length+(g.take jj).length:=List.length_append
          have e2:=List.length_take_le jj g
          have e3:(G.take gi).flatten.length+(G.drop gi).flatten.length=l.length:=by rw [←htot,←List.length_append,←List.flatten_append,List.take_append_drop]
          omega
         refine zn [1,5,6,7,12,13,14,15,100,101,102,107,108,109] ⟨?_⟩;refine v_seq ?_;intros;refine v_block ?_;intros
         have F:=Fc.mk (ai (gdm hg) (ai (gdm hxg) (ai @Int.toNat_natCast (ai (gdm hpv) (ai @set_map hP2l)))))
         refine yR [1,5,6,7,12,13,14,15,17,100,101,102,107,108,109] ⟨?_⟩;refine v_seq ?_;intros;refine yR [1,5,6,7,12,13,14,15,17,100,101,102,107,108,109,120] ⟨?_⟩;refine v_cond _ rfl ?_ ?_
         ·intro hc5
          exfalso;first | (simp at hc5;omega) | (simp at hc5;done)
         ·intro hc5
          try simp only [zC,reduceCtorEq] at hc5
          refine zn [1,5,6,7,12,13,14,15,17,100,101,102,107,108,109] ⟨?_⟩;refine yR [1,5,6,7,12,13,14,15,100,101,102,107,108,109] ⟨?_⟩;refine yQ [1,5,6,7,12,13,14,15,100,101,102,107,108,109] ⟨?_⟩;refine yV ⟨?_⟩;refine n31 _ (jj+1,P2.set xn (gi:Int),cn+1) ?_ ?_ ?_
          ·refine weak_bothS [1,5,6,7,12,13,14,15,100,101,102,107,108,109] [0,1,2] ⟨?_⟩
           rfl
          ·exact ⟨hltj,hP3,hcn1⟩
          ·show _ < _;show g.length - (jj+1) < g.length - jj;omega
        ·intro hc4
         have hje:jj=g.length:=by omega
         subst hje
         rw [List.take_length,←hfl] at hP2 hcn
         have cc1:=callers_con l (by omega) g (by omega)
         have cc2:=specCallers_con l (by omega) g (by omega)
         have cc3:=implMiddle_con l (by omega) g (by omega)
         have cc4:=specMiddle_con l (by omega) g (by omega)
         rw [hmg] at cc1 cc2 cc3 cc4
         generalize cgN l g=cv at cc1 cc2 hcb
         generalize mgX l g=mx at cc3 cc4
         generalize mgY l g=my at cc3 cc4
         refine zn [1,5,6,7,12,13,15,100,101,102] ⟨?_⟩;refine yRc [1,5,6,7,12,13,15,18,19,100,101,102] (cc1) ⟨?_⟩;refine yRc [1,5,6,7,12,13,15,18,19,20,21,100,101,102] (cc2) ⟨?_⟩;refine yRc [1,5,6,7,12,13,15,18,19,20,21,22,23,24,100,101,102] (cc3) ⟨?_⟩;refine yRc [1,5,6,7,12,13,15,18,19,20,21,22,23,24,25,26,27,100,101,102] (cc4) ⟨?_⟩;refine yR [1,5,6,7,12,13,100,101,102,192] ⟨?_⟩;refine v_cond _ rfl ?_ ?_
         ·intro hc6
          exfalso;first | (simp at hc6;omega) | (simp [hmg] at hc6;omega)
         ·intro hc6
          try simp only [zC,reduceCtorEq] at hc6
          refine zn [1,5,6,7,12,13,100,101,102] ⟨?_⟩;refine yV ⟨?_⟩;refine n21 _ (gi+1,P2,cn) ?_ ?_ ?_
          ·refine weak_bothS [1,5,6,7,12,13,100,101,102] [0,1,2] ⟨?_⟩
           rfl
          ·exact ⟨hltg,hP2,hcn⟩
          ·show _ < _;show G.length - (gi+1) < G.length - gi;omega
      ·intro hc3
       have hge:gi=G.length:=by omega
       subst hge
       rw [List.take_length] at hP
       rw [List.take_length,htot] at hcm
       rw [hG] at hP
       have hPa:=fun x hx=>place_all hP (x:=x) hx
       have hPl:=hP.1
       refine zn [1,5,6,7,12,13] ⟨?_⟩;refine v_seq ?_;intros;refine yR [1,5,6,7,12,197] ⟨?_⟩;refine v_cond _ rfl ?_ ?_
       ·intro hc7
        exfalso;simp at hc7;omega
       ·intro hc7
        try simp only [zC,reduceCtorEq] at hc7
        refine zn [1,5,6,7,12] ⟨?_⟩;refine yR [1,5,6,7,12,199,200] ⟨?_⟩;refine v_block ?_;intros;refine v_loop (fun i=>⟨[(1,.sl (c2.map (V.int .u8))),(5,.ref 0),(6,.int .i64 wn),(7,.int .i64 rd),(12,.ref 1),(199,.int .i64 l.length),(200,.int .i64 (Nat.cast i))],[.arr (l.map (fun t:Int×Int×Int×Int×Int=>V.agg [V.int .i64 t.1,V.int .i64 t.2.1,V.int .i64 t.2.2.1,V.int .i64 t.2.2.2.1,V.int .i64 t.2.2.2.2])) .flat,.arr (P.map (V.int .i64)) .flat],true,388,0⟩) (fun i=>i≤l.length) (fun i=>l.length - i) (0:Nat) ?_ ?_ ?_
        ·refine weak_bothS [1,5,6,7,12,199,200] [0,2] ⟨?_⟩
         rfl
        ·exact Nat.zero_le _
        ·rintro i hok56 Q56 n56 e56 r56
         have hi2:i≤l.length:=hok56
         refine yR [1,5,6,7,12,199,200,201] ⟨?_⟩;refine v_seq ?_;intros;refine v_condS _ rfl ?_ ?_
         ·intro hc8
          have hlti:i < l.length:=by omega
          obtain ⟨⟨x0,x1,x2,x3,x4⟩,hx⟩:∃x:Int×Int×Int×Int×Int,l[i]? =some x:=⟨l[i]'(by omega),List.getElem?_eq_getElem (by omega)⟩
          have hxo:=hea _ (List.mem_of_getElem? hx)
          have hpi:=hPa i hlti
          have hgf:=cg_for hB hx
          have hgb:=hgf.1
          have htk:(l.take i).length=i:=by rw [List.length_take];omega
          refine zn [1,5,6,7,12,199,200] ⟨?_⟩;refine v_seq ?_;intros;refine v_block ?_;intros
          have F:=Fc.mk (ai (gdm hx) (ai (gdm hpi) (ai hPl (ai htk hgb))))
          refine yR [1,5,6,7,12,28,199,200] ⟨?_⟩;refine v_seq ?_;intros;refine yR [1,5,6,7,12,28,199,200,206,207] ⟨?_⟩;refine v_block ?_;intros;refine v_loop (fun kk=>⟨[(1,.sl (c2.map (V.int .u8))),(5,.ref 0),(6,.int .i64 wn),(7,.int .i64 rd),(12,.ref 1),(28,.int .i64 (Nat.cast i)),(199,.int .i64 l.length),(200,.int .i64 (Nat.cast i)),(206,.int .i64 (Nat.cast i)),(207,.int .i64 (Nat.cast kk))],[.arr (l.map (fun t:Int×Int×Int×Int×Int=>V.agg [V.int .i64 t.1,V.int .i64 t.2.1,V.int .i64 t.2.2.1,V.int .i64 t.2.2.2.1,V.int .i64 t.2.2.2.2])) .flat,.arr (P.map (V.int .i64)) .flat],true,388,0⟩) (fun kk=>kk≤i) (fun kk=>i - kk) (0:Nat) ?_ ?_ ?_
          ·refine weak_bothS [1,5,6,7,12,28,199,200,206,207] [0,1] ⟨?_⟩
           rfl
          ·exact Nat.zero_le _
          ·rintro kk hok66 Q66 n66 e66 r66
           have hk3:kk≤i:=hok66
           refine yR [1,5,6,7,12,28,199,200,206,207,208] ⟨?_⟩;refine v_seq ?_;intros;refine v_condS _ rfl ?_ ?_
           ·intro hc9
            have hltk:kk < i:=by omega
            obtain ⟨⟨y0,y1,y2,y3,y4⟩,hy⟩:∃x:Int×Int×Int×Int×Int,l[kk]? =some x:=⟨l[kk]'(by omega),List.getElem?_eq_getElem (by omega)⟩
            have hyo:=hea _ (List.mem_of_getElem? hy)
            have hpk:=hPa kk (by omega)
            have hoe:oeB (x0,x1,x2,x3,x4) (y0,y1,y2,y3,y4) wn rd=true:=by rw [oeB,hxo,hyo,hwin];rfl
            refine zn [1,5,6,7,12,28,199,200,206,207] ⟨?_⟩;refine v_seq ?_;intros;refine v_block ?_;intros
            have F:=Fc.mk (ai (gdm hx) (ai (gdm hpi) (ai hPl (ai htk (ai hgb (ai hoe (ai (gdm hy) (gdm hpk))))))))
            refine yR [1,5,6,7,12,28,29,199,200,206,207] ⟨?_⟩;refine v_seq ?_;intro Q73 n73 e73 r73;refine v_draw (by kernel_rfl) ?_;intro K74 q74 k74
            show aAny _ _ _ _ 16 (Array.replicate 16 false) _
            refine zdMove q74 true 0 211 ?_;refine zdMove q74 true 1 212 ?_;refine zdIndexAddr q74 true 2 213 ?_;refine zdLoadX q74 true 3 214 ?_;refine zdMove q74 true 4 215 ?_;refine zdMove q74 true 5 216 ?_;refine zdIndexAddr q74 true 6 217 ?_;refine zdLoadX q74 true 7 218 ?_;refine zdMove q74 true 8 219 ?_;refine zdMove q74 true 9 220 ?_;refine zoc 10 (implAreOneEvent_con x0 x1 x2 x3 x4 y0 y1 y2 y3 y4 wn rd) ⟨?_⟩;refine zdMove q74 true 11 210 ?_;refine zdExtract q74 true 12 222 ?_;refine zdExtract q74 true 13 223 ?_;refine zoAssign 14 ⟨?_⟩;refine zoAssign 15 ⟨?_⟩;refine aAny_done (by kernel_rfl) ?_;refine k74 _ ?_;refine n73 _ _ (weak_keep [1,5,6,7,12,28,29,30,31,199,200,206,207] _) ?_;refine zk ⟨?_⟩;refine v_seq ?_;intro Q75 n75 e75 r75;refine v_draw (by kernel_rfl) ?_;intro K76 q76 k76
            show aAny _ _ _ _ 16 (Array.replicate 16 false) _
            refine zdMove q76 true 0 225 ?_;refine zdMove q76 true 1 226 ?_;refine zdIndexAddr q76 true 2 227 ?_;refine zdLoadX q76 true 3 228 ?_;refine zdMove q76 true 4 229 ?_;refine zdMove q76 true 5 230 ?_;refine zdIndexAddr q76 true 6 231 ?_;refine zdLoadX q76 true 7 232 ?_;refine zdMove q76 true 8 233 ?_;refine zdMove q76 true 9 234 ?_;refine zoc 10 (specAreOneEvent_con x0 x1 x2 x3 x4 y0 y1 y2 y3 y4 wn rd) ⟨?_⟩;refine zdMove q76 true 11 224 ?_;refine zdExtract q76 true 12 236 ?_;refine zdExtract q76 true 13 237 ?_;refine zoAssign 14 ⟨?_⟩;refine zoAssign 15 ⟨?_⟩;refine aAny_done (by kernel_rfl) ?_;refine k76 _ ?_;refine n75 _ _ (weak_keep [1,5,6,7,12,28,29,30,31,32,33,199,200,206,207] _) ?_;refine zk ⟨?_⟩;refine v_seq ?_;intro Q77 n77 e77 r77;refine v_draw (by kernel_rfl) ?_;intro K78 q78 k78
            show aAny _ _ _ _ 25 (Array.replicate 25 false) _
            refine zdMove q78 true 0 238 ?_;refine zdUnOp q78 true 1 239 ?_;refine zdMove q78 true 2 240 ?_;refine zdgMove q78 true 3 241 ?_;refine zdgUnOp q78 true 4 242 ?_;refine zdPick q78 true 5 243 ?_;refine zdMove q78 true 6 244 ?_;refine zdgMove q78 true 7 245 ?_;refine zdgMove q78 true 8 246 ?_;refine zdgBinOp q78 true 9 247 ?_;refine zdPick q78 true 10 248 ?_;refine zdMove q78 true 11 249 ?_;refine zdgMove q78 true 12 250 ?_;refine zdgMove q78 true 13 251 ?_;refine zdgMove q78 true 14 252 ?_;refine zdgMove q78 true 15 253 ?_;refine zdgIndexAddr q78 true 16 254 ?_;refine zdgLoadX q78 true 17 255 ?_;refine zdgMove q78 true 18 256 ?_;refine zdgMove q78 true 19 257 ?_;refine zdgIndexAddr q78 true 20 258 ?_;refine zdgLoadX q78 true 21 259 ?_;refine zdgBinOp q78 true 22 260 ?_;refine zdgPick q78 true 23 261 ?_;refine zdPick q78 true 24 262 ?_;refine aAny_done (by kernel_rfl) ?_;refine k78 _ ?_;refine n77 _ _ (weak_keep [1,5,6,7,12,28,199,200,206,207,262] _) ?_;refine zk ⟨?_⟩;refine v_cond _ rfl ?_ ?_
            ·intro hc10
             exfalso;rcases Bool.eq_false_or_eq_true (nearB wn rd (x0,x1,x2,x3,x4) (y0,y1,y2,y3,y4)) with hn | hn
             ·have hpp:=cg_pair hx hy hn
              simp [hn,hpp] at hc10
             ·simp [hn] at hc10
            ·intro hc10
             try simp only [zC,reduceCtorEq] at hc10
             refine zn [1,5,6,7,12,28,199,200,206,207] ⟨?_⟩;refine yV ⟨?_⟩;refine n66 _ (kk+1) ?_ ?_ ?_
             ·refine weak_bothS [1,5,6,7,12,28,199,200,206,207] [0,1] ⟨?_⟩
              rfl
             ·exact hltk
             ·show _ < _;omega
           ·intro hc9
            refine zn [1,5,6,7,12,28,199,200] ⟨?_⟩;refine yRc [1,5,6,7,12,28,34,35,199,200] (implGroupFor_con l (by omega) wn rd x0 x1 x2 x3 x4) ⟨?_⟩;refine yRc [1,5,6,7,12,28,34,35,36,37,199,200] (specGroupFor_con l (by omega) wn rd x0 x1 x2 x3 x4) ⟨?_⟩;refine yR [1,5,6,7,12,199,200,304] ⟨?_⟩;refine v_cond _ rfl ?_ ?_
            ·intro hc11
             exfalso;first | (simp at hc11;omega) | (simp [hgf.1] at hc11;omega) | omega
            ·intro hc11
             try simp only [zC,reduceCtorEq] at hc11
             refine zn [1,5,6,7,12,199,200] ⟨?_⟩;refine yV ⟨?_⟩;refine n56 _ (i+1) ?_ ?_ ?_
             ·refine weak_bothS [1,5,6,7,12,199,200] [0,1] ⟨?_⟩
              rfl
             ·exact hlti
             ·show _ < _;omega
         ·intro hc8
          refine zx ⟨?_⟩;refine n12 () _ ?_ ?_
          ·trivial
          ·refine weak_both [1] [] (by decide) (by simp) ?_ ?_ ?_
           ·simp [keep_mk,keepE_nil,keepE_cons,look_cons,V.only,V.onlyL,idx]<;>(first | rfl | decide)
           ·simp [Blk.kindIs,fillK_mix,thK_mix]
           simp only [keep_mk,keepE_nil,keepE_cons,look_cons,look_nil,Nat.reduceEqDiff,reduceIte,St.comp,List.map_cons,List.map_nil,V.ren,V.renL,idx,List.getD_cons_zero,List.getD_cons_succ,Nat.reduceBEq,cond_true,cond_false,Option.map_some,Option.getD_some,Nat.reduceAdd,Nat.beq_eq_true_eq]
           all_goals rfl
    ·intro hc2
     refine v_skip ?_;refine n12 () _ ?_ ?_
     ·trivial
     ·refine weak_both [1] [] (by decide) (by simp) ?_ ?_ ?_
      ·simp [keep_mk,keepE_nil,keepE_cons,look_cons,V.only,V.onlyL,idx]<;>(first | rfl | decide)
      ·simp [Blk.kindIs,fillK_mix,thK_mix]
      simp only [keep_mk,keepE_nil,keepE_cons,look_cons,look_nil,Nat.reduceEqDiff,reduceIte,St.comp,List.map_cons,List.map_nil,V.ren,V.renL,idx,List.getD_cons_zero,List.getD_cons_succ,Nat.reduceBEq,cond_true,cond_false,Option.map_some,Option.getD_some,Nat.reduceAdd,Nat.beq_eq_true_eq]
      all_goals rfl
   ·rintro u0 hok12
    have _hu:True:=hok12
    refine v_seqR [1,38,39,40,41] ?_;intro K86 k86
    have F:=Fc.mk True.intro
    refine zMove ⟨?_⟩;refine v_op ?_;intro K k
    simp only [zE,zM,aStepM,optable,set_some,Nat.reduceEqDiff,reduceIte,Nat.reduceLT,implies_true,forall_const,reduceCtorEq,V.ofValue,V.ofScalar,V.un,V.gd,aExec,lentIds,lendOf,‹Tys _›.h,‹Fc _›.h]
    repeat (refine andC ?_)
    refine aCall_newXA (drawGroupFor_con c2 hc2 hn2) ?_
    rintro _ _ ⟨u,wm,rm,z0,z1,z2,z3,z4,hul,rfl,rfl⟩
    refine ⟨by first | exact .inl ⟨rfl,by simp [Blk.kindIs,fillK_fd,thK_fd]⟩ | exact .inr (by simp [V.coldIn,V.cold,idx]),?_⟩;refine k _ ?_;clear k K
    simp only [zY,zW,set_some,Nat.reduceEqDiff,reduceIte,rho_one,rho_s,V.ren,V.renL,List.set_cons_zero,List.set_cons_succ,rho,Nat.reduceAdd,Nat.add_zero]
    refine zMove ⟨?_⟩;refine zExtract ⟨?_⟩;refine zExtract ⟨?_⟩;refine zExtract ⟨?_⟩;refine zExtract ⟨?_⟩;refine zAlloc ⟨?_⟩;refine zq9 ⟨?_⟩;refine zAssign ⟨?_⟩;refine zStore ⟨?_⟩;refine k86 _ ?_;refine zk ⟨?_⟩;refine yRc [1,38,39,40,41,42,43] (implGroupFor_con u (by omega) wm rm z0 z1 z2 z3 z4) ⟨?_⟩;refine yRc [1,42,43,44,45] (specGroupFor_con u (by omega) wm rm z0 z1 z2 z3 z4) ⟨?_⟩;refine v_seqR [42,43,44,45,46,47,48,49] ?_;intro K89 k89;refine zMove ⟨?_⟩;refine v_op ?_;intro K k
    simp only [zE,zM,aStepM,optable,set_some,Nat.reduceEqDiff,reduceIte,Nat.reduceLT,implies_true,forall_const,reduceCtorEq,V.ofValue,V.ofScalar,V.un,V.gd,aExec,lentIds,lendOf,‹Tys _›.h,‹Fc _›.h]
    repeat (refine andC ?_)
    refine aCall_newXA (drawAreOneEvent_con c2 hc2 hn2) ?_
    rintro _ _ ⟨p0,p1,p2,p3,p4,q0,q1,q2,q3,q4,wq,rq,hwq,rfl,rfl⟩
    refine ⟨by first | exact .inl ⟨rfl,by simp [Blk.kindIs,fillK_fd,thK_fd]⟩ | exact .inr (by simp [V.coldIn,V.cold,idx]),?_⟩;refine k _ ?_;clear k K
    simp only [zY,zW,set_some,Nat.reduceEqDiff,reduceIte,rho_one,rho_s,V.ren,V.renL,List.set_cons_zero,List.set_cons_succ,rho,Nat.reduceAdd,Nat.add_zero]
    refine zMove ⟨?_⟩;refine zExtract ⟨?_⟩;refine zExtract ⟨?_⟩;refine zExtract ⟨?_⟩;refine zExtract ⟨?_⟩;refine zAlloc ⟨?_⟩;refine zAlloc ⟨?_⟩;refine zStore ⟨?_⟩;refine zStore ⟨?_⟩;refine zq9 ⟨?_⟩;refine k89 _ ?_;refine zk ⟨?_⟩;refine yRc [42,43,44,45,46,47,48,49,50,51] (implAreOneEvent_con p0 p1 p2 p3 p4 q0 q1 q2 q3 q4 wq rq) ⟨?_⟩;refine yRc [42,43,44,45,46,47,48,49,50,51,52,53] (specAreOneEvent_con p0 p1 p2 p3 p4 q0 q1 q2 q3 q4 wq rq) ⟨?_⟩;refine yRc [42,43,44,45,50,51,52,53,54,55] (implAreOneEvent_con q0 q1 q2 q3 q4 p0 p1 p2 p3 p4 wq rq) ⟨?_⟩;refine yR [4] ⟨?_⟩;refine zr ⟨?_⟩
    exact ret_pure rfl (by simp [near_comm,oe_comm]) (.inr rfl)
end Go.Proofs.Ytcdpeopiajgljaa
