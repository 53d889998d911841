/- What functions compute. No condition. -/
import Derived.Test.YtaefoaghpehbpaaGreatUz
import Derived.Test.YtaefoaghpehbpaaGreatUty
import Derived.Test.YtaefoaghpehbpaaGreatUmG
import Derived.Test.YtaefoaghpehbpaaGreatX15
import Derived.Test.YtaefoaghpehbpaaGreatX12
import Derived.Test.YtaefoaghpehbpaaGreatX13
import Derived.Test.YtaefoaghpehbpaaGreatX5
import Derived.Test.YtaefoaghpehbpaaGreatX7
import Derived.Test.YtaefoaghpehbpaaGreatX16
import Derived.Test.YtaefoaghpehbpaaGreatX4
import Derived.Test.YtaefoaghpehbpaaGreatX10
import Derived.Test.YtaefoaghpehbpaaGreatX8
import Derived.Test.YtaefoaghpehbpaaGreatX1
import Derived.Test.YtaefoaghpehbpaaGreatX9
set_option linter.unusedSimpArgs false
set_option linter.unusedVariables false
set_option linter.defProp false
namespace Go.Proofs.YtaefoaghpehbpaaGreat
open Go Go.Vm
set_option maxHeartbeats 8000000
theorem con_cells {P:Program} {f:FuncId} {xs ys rest:List V} {O O2:List Blk} {r:V} (hc:Con P f (.sl ys::rest) O r O2) (hw:WkL (xs.flatMap V.cells) (ys.flatMap V.cells)) (hlen:ys.length=xs.length) (hsz:∀n,(∀x∈xs,x.cells.length=n)→∀y∈ys,y.cells.length=n):Con P f (.sl xs::rest) O r O2:=by
  refine ⟨hc.1,fun w vals μ ow vis hi=>hc.2 w vals μ ow vis ⟨hi.sz,fun i v e=> ?_,hi.blk,hi.dom,hi.owl,hi.tab⟩⟩
  cases i with
  | succ i=>exact hi.arg (i+1) v e
  | zero=>
    obtain ⟨bl,h1,h2⟩:=hi.arg 0 _ rfl
    simp only [List.getElem?_cons_zero,Option.some.injEq] at e
    subst e
    generalize vals.getD 0 undef=x at h1
    cases h1 with
    | sl0 a c=>
      have:ys=[]:=List.length_eq_zero_iff.1 hlen
      subst this
      exact ⟨[],.sl0 a c,by simp⟩
    | sl _ b off c sz vs bl h0 hc' hs hz hl h1 hr=>
      obtain ⟨bl',g1,g2⟩:=RepL.wk hw hl
      have hne:ys≠[]:=fun e=>h0 (List.length_eq_zero_iff.1 (by rw [←hlen,e];rfl))
      rw [←hlen] at hc'⊢
      exact ⟨b::bl',.sl ys b off c sz vs bl' hne hc' hs (hsz _ hz) g1 h1 hr,fun q hq=>h2 q ((g2.cons_cons b).subset hq)⟩
theorem icn_wk (l:List TI):WkL ((l.map (fun t:TI=>V.agg [V.int .i64 t.1,V.int .i64 t.2.1,V.bool t.2.2.1,slN (t.2.2.2.map V.str)])).flatMap V.cells) ((l.map (fun t:TI=>V.agg [V.int .i64 t.1,V.int .i64 t.2.1,V.bool t.2.2.1,V.sl (t.2.2.2.map V.str)])).flatMap V.cells):=by
  induction l with
  | nil=>exact trivial
  | cons x l ih=>
    rw [List.map_cons,List.map_cons,List.flatMap_cons,List.flatMap_cons]
    refine WkL.append ?_ ih;refine ⟨.inl rfl,.inl rfl,.inl rfl,?_,trivial⟩
    cases x.2.2.2 with
    | nil=>exact .inr (.inl ⟨rfl,rfl⟩)
    | cons y l=>exact .inl rfl
theorem icn_con {P:Program} {f:FuncId} {l:List TI} {rest:List V} {O O2:List Blk} {r:V} (hc:Con P f (.sl (l.map (fun t:TI=>V.agg [V.int .i64 t.1,V.int .i64 t.2.1,V.bool t.2.2.1,V.sl (t.2.2.2.map V.str)]))::rest) O r O2):Con P f (.sl (l.map (fun t:TI=>V.agg [V.int .i64 t.1,V.int .i64 t.2.1,V.bool t.2.2.1,slN (t.2.2.2.map V.str)]))::rest) O r O2:=
  con_cells hc (icn_wk l) (by simp) fun n hn y hy=>by
    obtain ⟨x,hx,rfl⟩:=List.mem_map.1 hy
    rw [←hn _ (List.mem_map.2 ⟨x,hx,rfl⟩)];rfl
theorem cloneStr0_con (l:List ByteArray) (hl:l=[]):Con Tryz.prog 201 [.sl (l.map V.str)] [] (.nsl) []:=by
 have hns:(l.map V.str).all V.noSl=true:=by rw [List.all_map,List.all_eq_true];intro a _;rfl
 refine v_con [.tmp 2] [] Tryz.func201 rfl rfl rfl (by simp [Tryz.ntmps201]) ?_
 intro Q0 n0 r0
 simp only [Tryz.ntmps201,envFrom,Nat.reduceAdd]
 have T:=Tys.mk (ai Ty.t9 Ty.t51)
 have F:=Fc.mk True.intro
 have F:=Fc.mk hns
 refine yR [0] ⟨?_⟩;refine v_seq ?_;intros;refine v_seqR [0,4] ?_;intro K3 k3;refine zMove ⟨?_⟩;refine zNil ⟨?_⟩
 intro nb4 hnb4
 refine k3 _ ?_;refine zk ⟨?_⟩;refine v_condS _ rfl ?_ ?_
 ·intro hc0
  refine v_seq ?_;intro Q5 n5 e5 r5;refine yV ⟨?_⟩
  apply n5
  ·apply weak_trans (weak_keep [2] _)
   simp only [keep_mk,keepE_nil,keepE_cons,look_cons,look_nil,Nat.reduceEqDiff,reduceIte]
   exact weak_nsl 1 2 .flat rfl (by simp) rfl
  try simp only [atSlot_cons,atSlot_nil,Nat.reduceEqDiff,reduceIte,List.set_cons_zero,List.set_cons_succ]
  refine zr ⟨?_⟩
  exact ret_pure rfl rfl (.inl rfl)
 ·intro hc0
  refine zn [0] ⟨?_⟩;refine v_seq ?_;intro Q7 n7 e7 r7;refine yV ⟨?_⟩
  apply n7
  ·apply weak_trans (weak_keep [2] _)
   simp only [keep_mk,keepE_nil,keepE_cons,look_cons,look_nil,Nat.reduceEqDiff,reduceIte]
   exact weak_nsl 2 2 .flat (by subst hl;rfl) (by simp) rfl
  try simp only [atSlot_cons,atSlot_nil,Nat.reduceEqDiff,reduceIte,List.set_cons_zero,List.set_cons_succ]
  refine zr ⟨?_⟩
  exact ret_pure rfl rfl (.inl rfl)
theorem copyIncidentsN_con (l:List TI) (hl:l.length≤1048576) (hls:∀t∈l,t.2.2.2.length≤1048576):Con Tryz.prog 140 [.sl (l.map (fun t:TI=>V.agg [V.int .i64 t.1,V.int .i64 t.2.1,V.bool t.2.2.1,V.sl (t.2.2.2.map V.str)]))] [] (.ref 0) [.arr (l.map (fun t:TI=>V.agg [V.int .i64 t.1,V.int .i64 t.2.1,V.bool t.2.2.1,slN (t.2.2.2.map V.str)])) (fillK l.length)]:=by
 refine v_con [.tmp 2] [] Tryz.func140 rfl rfl rfl (by simp [Tryz.ntmps140]) ?_
 intro Q0 n0 r0
 simp only [Tryz.ntmps140,envFrom,Nat.reduceAdd]
 have T:=Tys.mk (ai Ty.t3 (ai Ty.t4 (ai Ty.t9 (ai Ty.t33 (ai Ty.t51 Ty.t99)))))
 have F:=Fc.mk True.intro
 refine yR [0] ⟨?_⟩;refine yR [0,3] ⟨?_⟩;refine v_seq ?_;intros;refine yR [3,6,7,8] ⟨?_⟩;refine v_block ?_;intros;refine v_loop (fun i=>⟨[(3,.ref 0),(6,.sl (l.map (fun t:TI=>V.agg [V.int .i64 t.1,V.int .i64 t.2.1,V.bool t.2.2.1,V.sl (t.2.2.2.map V.str)]))),(7,.int .i64 l.length),(8,.int .i64 (Nat.cast i))],[.arr ((l.take i).map (fun t:TI=>V.agg [V.int .i64 t.1,V.int .i64 t.2.1,V.bool t.2.2.1,slN (t.2.2.2.map V.str)])) (fillK i)],false,22,0⟩) (fun i=>i≤l.length) (fun i=>l.length - i) 0 ?_ ?_ ?_
 ·refine weak_bothS [3,6,7,8] [1] ⟨?_⟩
  rfl
 ·exact Nat.zero_le _
 ·rintro i hok6 Q6 n6 e6 r6
  have hi1:i≤l.length:=hok6
  refine yR [3,6,7,8,9] ⟨?_⟩;refine v_seq ?_;intros;refine v_condS _ rfl ?_ ?_
  ·intro hc0
   have hlt:i < l.length:=by omega
   obtain ⟨⟨x0,x1,x2,x3⟩,hx⟩:∃x:TI,l[i]? =some x:=⟨l[i]'(by omega),List.getElem?_eq_getElem (by omega)⟩
   have hlx:=hls _ (List.mem_of_getElem? hx)
   simp only [] at hlx
   have hsn:(l.take i).map (fun t:TI=>V.agg [V.int .i64 t.1,V.int .i64 t.2.1,V.bool t.2.2.1,slN (t.2.2.2.map V.str)])++[V.agg [V.int .i64 x0,V.int .i64 x1,V.bool x2,slN (x3.map V.str)]]=(l.take (i+1)).map (fun t:TI=>V.agg [V.int .i64 t.1,V.int .i64 t.2.1,V.bool t.2.2.1,slN (t.2.2.2.map V.str)]):=(take_map_step (f:=(fun t:TI=>V.agg [V.int .i64 t.1,V.int .i64 t.2.1,V.bool t.2.2.1,slN (t.2.2.2.map V.str)])) hx).symm
   have hti:(l.take i).length=i:=by rw [List.length_take];omega
   have hg:=getD_map (f:=(fun t:TI=>V.agg [V.int .i64 t.1,V.int .i64 t.2.1,V.bool t.2.2.1,V.sl (t.2.2.2.map V.str)])) hx
   rcases Nat.eq_zero_or_pos x3.length with h3 | h3
   ·skip
    obtain rfl:x3=[]:=List.length_eq_zero_iff.1 h3
    have hcl:=cloneStr0_con [] rfl
    have hsl:slN (([]:List ByteArray).map V.str)=.nsl:=rfl
    rw [hsl] at hsn
    simp only [List.map_nil] at hg
    refine zn [3,6,7,8] ⟨?_⟩;refine v_seq ?_;intro Q10 n10 e10 r10;refine v_block ?_;intros
    have F:=Fc.mk (ai hg hti)
    refine yR [3,5,6,7,8] ⟨?_⟩;refine v_seq ?_;intro Q13 n13 e13 r13;refine yVc (hcl) ⟨?_⟩
    apply n13
    ·apply weak_trans (weak_keep [3,5,6,7,8] _)
     simp only [keep_mk,keepE_nil,keepE_cons,look_cons,look_nil,Nat.reduceEqDiff,reduceIte]
     exact weak_boxN 2 3 [V.int .i64 x0,V.int .i64 x1,V.bool x2] rfl rfl (by decide) rfl rfl rfl
    try simp only [atSlot_cons,atSlot_nil,Nat.reduceEqDiff,reduceIte,List.set_cons_zero,List.set_cons_succ]
    refine yV ⟨?_⟩
    apply n10
    ·apply weak_trans (weak_keep [3,6,7,8] _)
     simp only [keep_mk,keepE_nil,keepE_cons,look_cons,look_nil,Nat.reduceEqDiff,reduceIte]
     first | exact weak_fk 5 i _ rfl | exact weak_refl _ _
    try simp only [atSlot_cons,atSlot_nil,Nat.reduceEqDiff,reduceIte,List.set_cons_zero,List.set_cons_succ]
    refine yV ⟨?_⟩;refine n6 _ (i+1) ?_ ?_ ?_
    ·refine weak_bothS [3,6,7,8] [5] ⟨?_⟩
     rw [←hsn];rfl
    ·exact hlt
    ·show _ < _;omega
   ·skip
    have hcl:=cloneStr_con x3 hlx
    have hx3:x3≠[]:=fun e=>by rw [e] at h3;exact absurd h3 (by decide)
    rw [slN_ne hx3] at hsn
    refine zn [3,6,7,8] ⟨?_⟩;refine v_seq ?_;intros;refine v_block ?_;intros
    have F:=Fc.mk (ai hg hti)
    refine yR [3,5,6,7,8] ⟨?_⟩;refine yRc [3,5,6,7,8] (hcl) ⟨?_⟩;refine yQ [3,6,7,8] ⟨?_⟩;refine yV ⟨?_⟩;refine n6 _ (i+1) ?_ ?_ ?_
    ·refine weak_bothS [3,6,7,8] [5] ⟨?_⟩
     rw [←hsn];rfl
    ·exact hlt
    ·show _ < _;omega
  ·intro hc0
   have hend:i=l.length:=by omega
   subst hend
   refine zn [3] ⟨?_⟩;refine yR [2] ⟨?_⟩;refine zr ⟨?_⟩
   rw [List.take_length]
   exact ret_refK rfl (by unfold fillK;split<;>rfl) rfl
set_option maxRecDepth 8000 in
theorem copyControlN_con (fl:List TA) (ins:List TI) (ws:List TW) (hl:fl.length≤1048576) (hil:ins.length≤1048576) (hin:∀x∈ins,x.2.2.2.length≤1048576) (hwl:ws.length≤1048576) (hwn:∀x∈ws,x.2.length≤1048576):Con Tryz.prog 67 [.pv [.agg [.sl (fl.map (fun t:TA=>V.agg [V.str t.1,V.int .i64 t.2.1,V.int .i64 t.2.2.1,V.int .i64 t.2.2.2.1,V.int .i64 t.2.2.2.2])),.sl (ins.map (fun t:TI=>V.agg [V.int .i64 t.1,V.int .i64 t.2.1,V.bool t.2.2.1,V.sl (t.2.2.2.map V.str)])),.sl (ws.map (fun t:TW=>V.agg [V.int .i64 t.1,V.sl (t.2.map (V.int .i64))]))]] 0 0] [] (.agg [.ref 0,.ref 1,.ref 2]) [.arr (fl.map (fun t:TA=>V.agg [V.str t.1,V.int .i64 t.2.1,V.int .i64 t.2.2.1,V.int .i64 t.2.2.2.1,V.int .i64 t.2.2.2.2])) .flat,.arr (ins.map (fun t:TI=>V.agg [V.int .i64 t.1,V.int .i64 t.2.1,V.bool t.2.2.1,slN (t.2.2.2.map V.str)])) (fillK ins.length),.arr (ws.map (fun t:TW=>V.agg [V.int .i64 t.1,V.sl (t.2.map (V.int .i64))])) (fillK ws.length)]:=by
 refine v_con [.cell 2 36] [] Tryz.func67 rfl rfl rfl (by simp [Tryz.ntmps67]) ?_
 intro Q0 n0 r0
 simp only [Tryz.ntmps67,envFrom,Nat.reduceAdd]
 have T:=Tys.mk (ai Ty.t3 (ai Ty.t4 (ai Ty.t9 (ai Ty.t32 (ai Ty.t33 (ai Ty.t34 (ai Ty.t36 (ai Ty.t51 (ai Ty.t75 (ai Ty.t96 (ai Ty.t99 Ty.t102)))))))))))
 have F:=Fc.mk True.intro
 refine yR [0,2] ⟨?_⟩;refine v_seq ?_;intro Q2 n2 e2 r2;refine v_draw (by kernel_rfl) ?_;intro K3 q3 k3
 show aAny _ _ _ _ 13 (Array.replicate 13 false) _
 refine zdMove q3 true 0 6 ?_;refine zdNilCheck q3 true 1 7 ?_;refine zdFieldAddr q3 true 2 8 ?_;refine zdLoadX q3 true 3 9 ?_;refine zdMove q3 true 5 11 ?_;refine zdNilCheck q3 true 6 12 ?_;refine zdFieldAddr q3 true 7 13 ?_;refine zdLoadX q3 true 8 14 ?_;refine aAny_two 4 11 rfl rfl (by kernel_rfl) ?_ ?_
 ·refine zsc (cloneAppliance_con fl hl) ⟨?_⟩
  refine aAny_two 9 11 rfl rfl (by kernel_rfl) ?_ ?_
  ·refine zsc (copyIncidentsN_con ins hil hin) ⟨?_⟩
   refine zdBuild q3 true 10 16 ?_;refine zoAlloc 11 ⟨?_⟩;refine zoStore 12 ⟨?_⟩;refine aAny_done (by kernel_rfl) ?_;refine k3 _ ?_;refine n2 _ _ (weak_keep [0,2,3] _) ?_;refine zk ⟨?_⟩;refine v_seq ?_;intros;refine yR [2,3,20,21,22] ⟨?_⟩;refine v_block ?_;intros;refine v_loop (fun i=>⟨[(2,.ptr 3 0 0),(3,.ptr 7 0 0),(20,.sl (ws.map (fun t:TW=>V.agg [V.int .i64 t.1,V.sl (t.2.map (V.int .i64))]))),(21,.int .i64 ws.length),(22,.int .i64 (Nat.cast i))],[.arr [] .flat,.arr [] .flat,.arr [] .flat,.box (.agg [.ref 0,.ref 1,.ref 2]) .mix,.arr (fl.map (fun t:TA=>V.agg [V.str t.1,V.int .i64 t.2.1,V.int .i64 t.2.2.1,V.int .i64 t.2.2.2.1,V.int .i64 t.2.2.2.2])) .flat,.arr (ins.map (fun t:TI=>V.agg [V.int .i64 t.1,V.int .i64 t.2.1,V.bool t.2.2.1,slN (t.2.2.2.map V.str)])) (fillK ins.length),.arr ((ws.take i).map (fun t:TW=>V.agg [V.int .i64 t.1,V.sl (t.2.map (V.int .i64))])) (fillK i),.box (.agg [.ref 4,.ref 5,.ref 6]) .mix],false,39,0⟩) (fun i=>i≤ws.length) (fun i=>ws.length - i) 0 ?_ ?_ ?_
   ·refine weak_bothN [2,3,20,21,22] [0,1,2,3,4,5,10,9] ⟨?_⟩
    rfl
   ·exact Nat.zero_le _
   ·rintro i hok7 Q7 n7 e7 r7
    have hi1:i≤ws.length:=hok7
    refine yR [2,3,20,21,22,23] ⟨?_⟩;refine v_seq ?_;intros;refine v_condS _ rfl ?_ ?_
    ·intro hc0
     have hlt:i < ws.length:=by omega
     obtain ⟨⟨x0,x1⟩,hx⟩:∃x:TW,ws[i]? =some x:=⟨ws[i]'(by omega),List.getElem?_eq_getElem (by omega)⟩
     have hlx:=hwn _ (List.mem_of_getElem? hx)
     simp only [] at hlx
     have hsn:(ws.take i).map (fun t:TW=>V.agg [V.int .i64 t.1,V.sl (t.2.map (V.int .i64))])++[V.agg [V.int .i64 x0,V.sl (x1.map (V.int .i64))]]=(ws.take (i+1)).map (fun t:TW=>V.agg [V.int .i64 t.1,V.sl (t.2.map (V.int .i64))]):=(take_map_step (f:=(fun t:TW=>V.agg [V.int .i64 t.1,V.sl (t.2.map (V.int .i64))])) hx).symm
     have hti:(ws.take i).length=i:=by rw [List.length_take];omega
     refine zn [2,3,20,21,22] ⟨?_⟩;refine v_seq ?_;intro Q11 n11 e11 r11;refine v_block ?_;intro Q12 n12 x12 e12 r12
     have F:=Fc.mk (ai (gdm hx) hti)
     refine yR [2,3,5,20,21,22] ⟨?_⟩;refine v_draw (by kernel_rfl) ?_;intro K14 q14 k14
     show aAny _ _ _ _ 12 (Array.replicate 12 false) _
     refine zdFieldAddr q14 true 0 26 ?_;refine zdLoadX q14 true 1 27 ?_;refine zdFieldAddr q14 true 2 28 ?_;refine zdLoadX q14 true 3 29 ?_;refine zdFieldAddr q14 true 4 30 ?_;refine zdLoadX q14 true 5 31 ?_;refine zoc 6 (cloneInt_con x1 hlx) ⟨?_⟩;refine zdBuild q14 true 7 33 ?_;refine zoBuildSlice 8 ⟨?_⟩;refine zoAppend 9 ⟨?_⟩;refine zdFieldAddr q14 true 10 36 ?_;refine zoStore 11 ⟨?_⟩;refine aAny_done (by kernel_rfl) ?_;refine k14 _ ?_;refine n12 _ ?_;refine n11 _ _ (weak_keep [2,3,20,21,22] _) ?_;refine zk ⟨?_⟩;refine yV ⟨?_⟩;refine n7 _ (i+1) ?_ ?_ ?_
     ·refine weak_bothN [2,3,20,21,22] [0,1,2,3,4,5,12,7] ⟨?_⟩
      rw [←hsn];rfl
     ·exact hlt
     ·show _ < _;omega
    ·intro hc0
     have hend:i=ws.length:=by omega
     subst hend
     refine zn [2,3] ⟨?_⟩;refine yR [2] ⟨?_⟩;refine zq3 ⟨?_⟩
     rw [List.take_length]
     exact rta
  ·refine zsAlloc ⟨?_⟩
   refine zoc 9 (copyIncidentsN_con ins hil hin) ⟨?_⟩;refine zdBuild q3 true 10 16 ?_;refine zoStore 12 ⟨?_⟩;refine aAny_done (by kernel_rfl) ?_;refine k3 _ ?_;refine n2 _ _ (weak_keep [0,2,3] _) ?_;refine zk ⟨?_⟩;refine v_seq ?_;intros;refine yR [2,3,20,21,22] ⟨?_⟩;refine v_block ?_;intros;refine v_loop (fun i=>⟨[(2,.ptr 3 0 0),(3,.ptr 7 0 0),(20,.sl (ws.map (fun t:TW=>V.agg [V.int .i64 t.1,V.sl (t.2.map (V.int .i64))]))),(21,.int .i64 ws.length),(22,.int .i64 (Nat.cast i))],[.arr [] .flat,.arr [] .flat,.arr [] .flat,.box (.agg [.ref 0,.ref 1,.ref 2]) .mix,.arr (fl.map (fun t:TA=>V.agg [V.str t.1,V.int .i64 t.2.1,V.int .i64 t.2.2.1,V.int .i64 t.2.2.2.1,V.int .i64 t.2.2.2.2])) .flat,.arr (ins.map (fun t:TI=>V.agg [V.int .i64 t.1,V.int .i64 t.2.1,V.bool t.2.2.1,slN (t.2.2.2.map V.str)])) (fillK ins.length),.arr ((ws.take i).map (fun t:TW=>V.agg [V.int .i64 t.1,V.sl (t.2.map (V.int .i64))])) (fillK i),.box (.agg [.ref 4,.ref 5,.ref 6]) .mix],false,39,0⟩) (fun i=>i≤ws.length) (fun i=>ws.length - i) 0 ?_ ?_ ?_
   ·refine weak_bothN [2,3,20,21,22] [0,1,2,3,4,9,10,8] ⟨?_⟩
    rfl
   ·exact Nat.zero_le _
   ·rintro i hok20 Q20 n20 e20 r20
    have hi1:i≤ws.length:=hok20
    refine yR [2,3,20,21,22,23] ⟨?_⟩;refine v_seq ?_;intros;refine v_condS _ rfl ?_ ?_
    ·intro hc0
     have hlt:i < ws.length:=by omega
     obtain ⟨⟨x0,x1⟩,hx⟩:∃x:TW,ws[i]? =some x:=⟨ws[i]'(by omega),List.getElem?_eq_getElem (by omega)⟩
     have hlx:=hwn _ (List.mem_of_getElem? hx)
     simp only [] at hlx
     have hsn:(ws.take i).map (fun t:TW=>V.agg [V.int .i64 t.1,V.sl (t.2.map (V.int .i64))])++[V.agg [V.int .i64 x0,V.sl (x1.map (V.int .i64))]]=(ws.take (i+1)).map (fun t:TW=>V.agg [V.int .i64 t.1,V.sl (t.2.map (V.int .i64))]):=(take_map_step (f:=(fun t:TW=>V.agg [V.int .i64 t.1,V.sl (t.2.map (V.int .i64))])) hx).symm
     have hti:(ws.take i).length=i:=by rw [List.length_take];omega
     refine zn [2,3,20,21,22] ⟨?_⟩;refine v_seq ?_;intro Q24 n24 e24 r24;refine v_block ?_;intro Q25 n25 x25 e25 r25
     have F:=Fc.mk (ai (gdm hx) hti)
     refine yR [2,3,5,20,21,22] ⟨?_⟩;refine v_draw (by kernel_rfl) ?_;intro K27 q27 k27
     show aAny _ _ _ _ 12 (Array.replicate 12 false) _
     refine zdFieldAddr q27 true 0 26 ?_;refine zdLoadX q27 true 1 27 ?_;refine zdFieldAddr q27 true 2 28 ?_;refine zdLoadX q27 true 3 29 ?_;refine zdFieldAddr q27 true 4 30 ?_;refine zdLoadX q27 true 5 31 ?_;refine zoc 6 (cloneInt_con x1 hlx) ⟨?_⟩;refine zdBuild q27 true 7 33 ?_;refine zoBuildSlice 8 ⟨?_⟩;refine zoAppend 9 ⟨?_⟩;refine zdFieldAddr q27 true 10 36 ?_;refine zoStore 11 ⟨?_⟩;refine aAny_done (by kernel_rfl) ?_;refine k27 _ ?_;refine n25 _ ?_;refine n24 _ _ (weak_keep [2,3,20,21,22] _) ?_;refine zk ⟨?_⟩;refine yV ⟨?_⟩;refine n20 _ (i+1) ?_ ?_ ?_
     ·refine weak_bothN [2,3,20,21,22] [0,1,2,3,4,5,12,7] ⟨?_⟩
      rw [←hsn];rfl
     ·exact hlt
     ·show _ < _;omega
    ·intro hc0
     have hend:i=ws.length:=by omega
     subst hend
     refine zn [2,3] ⟨?_⟩;refine yR [2] ⟨?_⟩;refine zq3 ⟨?_⟩
     rw [List.take_length]
     exact rta
 ·refine zsAlloc ⟨?_⟩
  refine zoc 4 (cloneAppliance_con fl hl) ⟨?_⟩;refine zoc 9 (copyIncidentsN_con ins hil hin) ⟨?_⟩;refine zdBuild q3 true 10 16 ?_;refine zoStore 12 ⟨?_⟩;refine aAny_done (by kernel_rfl) ?_;refine k3 _ ?_;refine n2 _ _ (weak_keep [0,2,3] _) ?_;refine zk ⟨?_⟩;refine v_seq ?_;intros;refine yR [2,3,20,21,22] ⟨?_⟩;refine v_block ?_;intros;refine v_loop (fun i=>⟨[(2,.ptr 3 0 0),(3,.ptr 7 0 0),(20,.sl (ws.map (fun t:TW=>V.agg [V.int .i64 t.1,V.sl (t.2.map (V.int .i64))]))),(21,.int .i64 ws.length),(22,.int .i64 (Nat.cast i))],[.arr [] .flat,.arr [] .flat,.arr [] .flat,.box (.agg [.ref 0,.ref 1,.ref 2]) .mix,.arr (fl.map (fun t:TA=>V.agg [V.str t.1,V.int .i64 t.2.1,V.int .i64 t.2.2.1,V.int .i64 t.2.2.2.1,V.int .i64 t.2.2.2.2])) .flat,.arr (ins.map (fun t:TI=>V.agg [V.int .i64 t.1,V.int .i64 t.2.1,V.bool t.2.2.1,slN (t.2.2.2.map V.str)])) (fillK ins.length),.arr ((ws.take i).map (fun t:TW=>V.agg [V.int .i64 t.1,V.sl (t.2.map (V.int .i64))])) (fillK i),.box (.agg [.ref 4,.ref 5,.ref 6]) .mix],false,39,0⟩) (fun i=>i≤ws.length) (fun i=>ws.length - i) 0 ?_ ?_ ?_
  ·refine weak_bothN [2,3,20,21,22] [0,1,2,3,8,9,10,7] ⟨?_⟩
   rfl
  ·exact Nat.zero_le _
  ·rintro i hok33 Q33 n33 e33 r33
   have hi1:i≤ws.length:=hok33
   refine yR [2,3,20,21,22,23] ⟨?_⟩;refine v_seq ?_;intros;refine v_condS _ rfl ?_ ?_
   ·intro hc0
    have hlt:i < ws.length:=by omega
    obtain ⟨⟨x0,x1⟩,hx⟩:∃x:TW,ws[i]? =some x:=⟨ws[i]'(by omega),List.getElem?_eq_getElem (by omega)⟩
    have hlx:=hwn _ (List.mem_of_getElem? hx)
    simp only [] at hlx
    have hsn:(ws.take i).map (fun t:TW=>V.agg [V.int .i64 t.1,V.sl (t.2.map (V.int .i64))])++[V.agg [V.int .i64 x0,V.sl (x1.map (V.int .i64))]]=(ws.take (i+1)).map (fun t:TW=>V.agg [V.int .i64 t.1,V.sl (t.2.map (V.int .i64))]):=(take_map_step (f:=(fun t:TW=>V.agg [V.int .i64 t.1,V.sl (t.2.map (V.int .i64))])) hx).symm
    have hti:(ws.take i).length=i:=by rw [List.length_take];omega
    refine zn [2,3,20,21,22] ⟨?_⟩;refine v_seq ?_;intro Q37 n37 e37 r37;refine v_block ?_;intro Q38 n38 x38 e38 r38
    have F:=Fc.mk (ai (gdm hx) hti)
    refine yR [2,3,5,20,21,22] ⟨?_⟩;refine v_draw (by kernel_rfl) ?_;intro K40 q40 k40
    show aAny _ _ _ _ 12 (Array.replicate 12 false) _
    refine zdFieldAddr q40 true 0 26 ?_;refine zdLoadX q40 true 1 27 ?_;refine zdFieldAddr q40 true 2 28 ?_;refine zdLoadX q40 true 3 29 ?_;refine zdFieldAddr q40 true 4 30 ?_;refine zdLoadX q40 true 5 31 ?_;refine zoc 6 (cloneInt_con x1 hlx) ⟨?_⟩;refine zdBuild q40 true 7 33 ?_;refine zoBuildSlice 8 ⟨?_⟩;refine zoAppend 9 ⟨?_⟩;refine zdFieldAddr q40 true 10 36 ?_;refine zoStore 11 ⟨?_⟩;refine aAny_done (by kernel_rfl) ?_;refine k40 _ ?_;refine n38 _ ?_;refine n37 _ _ (weak_keep [2,3,20,21,22] _) ?_;refine zk ⟨?_⟩;refine yV ⟨?_⟩;refine n33 _ (i+1) ?_ ?_ ?_
    ·refine weak_bothN [2,3,20,21,22] [0,1,2,3,4,5,12,7] ⟨?_⟩
     rw [←hsn];rfl
    ·exact hlt
    ·show _ < _;omega
   ·intro hc0
    have hend:i=ws.length:=by omega
    subst hend
    refine zn [2,3] ⟨?_⟩;refine yR [2] ⟨?_⟩;refine zq3 ⟨?_⟩
    rw [List.take_length]
    exact rta
theorem callP_all (fl:List TA) (order:List Int):callP fl (idxTo order fl.length)=calledTo fl order fl.length:=by
  rw [callP_idx fl order _ (Nat.le_refl _),List.drop_length,List.append_nil]
theorem call_next {n:Int} {ss:List TS} {fl:List TA} {ins:List TI} {k:Nat} {x:TI} {need:List Int} (h:SendOK n ss fl ins k x need) {j:Nat} {i:Int} (hj:(sortL (chO n ss fl x.2.1 need))[j]? =some i) :
    ∃(m:Nat) (a:TA),i=(m:Int)∧m < fl.length∧(callP fl ((sortL (chO n ss fl x.2.1 need)).take j))[m]? =some a∧callP fl ((sortL (chO n ss fl x.2.1 need)).take (j+1))=(callP fl ((sortL (chO n ss fl x.2.1 need)).take j)).set m (calledA a)∧(chN n ss fl x.2.1 need)[j]? =some a.1:=by
  have hso:=ch_sort (node:=x.2.1) h.ds h.nd4
  have hj0:=hj
  rw [hso] at hj⊢
  obtain ⟨m,h1,h2,_,h4⟩:=idxTo_get hj
  have ha:fl[m]? =some fl[m]:=List.getElem?_eq_getElem h2
  have hg:(callP fl ((idxTo (chO n ss fl x.2.1 need) fl.length).take j))[m]? =some fl[m]:=by
    rw [h4,callP_idx fl _ m (by omega)]
    exact called_get ha
  refine ⟨m,fl[m],h1,h2,hg,?_,?_⟩
  · rw [List.take_add_one,hj,h1]
    exact callP_snoc _ _ hg
  · rw [chN_idx,List.getElem?_map,hj,h1]
    show some (nameAt fl (m:Int))=_
    rw [nameAt,Int.toNat_natCast,ha]
theorem call_len {n:Int} {ss:List TS} {fl:List TA} {ins:List TI} {k:Nat} {x:TI} {need:List Int} (h:SendOK n ss fl ins k x need):(sortL (chO n ss fl x.2.1 need)).length=(chN n ss fl x.2.1 need).length:=by
  rw [ch_sort (node:=x.2.1) h.ds h.nd4,chN_idx,List.length_map]
theorem call_end {n:Int} {ss:List TS} {fl:List TA} {ins:List TI} {k:Nat} {x:TI} {need:List Int} (h:SendOK n ss fl ins k x need):callP fl (sortL (chO n ss fl x.2.1 need))=chF n ss fl x.2.1 need:=by
  rw [ch_sort (node:=x.2.1) h.ds h.nd4]
  exact callP_all fl _
set_option maxRecDepth 100000 in
theorem call_con (n:Int) (ss:List TS) (fl:List TA) (ins:List TI) (q:Nat) (x0:Int) (x1:Int) (x2:Bool) (x3:List ByteArray) (need:List Int) (hS:SendOK n ss fl ins q (x0,x1,x2,x3) need):Con Tryz.prog 86 [.ptr 0 0 0,.pv [.agg [.int .i64 n,.sl (ss.map (fun t:TS=>V.agg [V.int .i64 t.1,V.int .i64 t.2.1,V.int .i64 t.2.2]))]] 0 0,.int .i64 (Nat.cast q),.sl (need.map (V.int .i64))] [.box (.agg [slN (fl.map (fun t:TA=>V.agg [V.str t.1,V.int .i64 t.2.1,V.int .i64 t.2.2.1,V.int .i64 t.2.2.2.1,V.int .i64 t.2.2.2.2])),slN (ins.map (fun t:TI=>V.agg [V.int .i64 t.1,V.int .i64 t.2.1,V.bool t.2.2.1,slN (t.2.2.2.map V.str)])),.any]) .deep] (.tup [.ref 1,.ref 2]) [.box (.agg [slN ((chF n ss fl x1 need).map (fun t:TA=>V.agg [V.str t.1,V.int .i64 t.2.1,V.int .i64 t.2.2.1,V.int .i64 t.2.2.2.1,V.int .i64 t.2.2.2.2])),slN ((addIs q ins (chN n ss fl x1 need)).map (fun t:TI=>V.agg [V.int .i64 t.1,V.int .i64 t.2.1,V.bool t.2.2.1,slN (t.2.2.2.map V.str)])),.any]) .deep,.arr ((chN n ss fl x1 need).map V.str) .flat,.arr ((chL n ss fl x1 need).map (V.int .i64)) .flat]:=by
 have hil:=hS.il
 have hfl12:=hS.ds.hfl
 have hkl:=(List.getElem?_eq_some_iff.1 hS.at_).1
 have hin:∀x∈ins,x.2.2.2.length≤1048576:=fun x hx=>Nat.le_trans (hS.nl x hx) (by decide)
 have hnd2:=hS.node
 have hne2:=hS.nd4
 simp only [] at hnd2
 have hcl:=chN_len (node:=x1) (need:=need) hS.ds
 have hco:=ch_len (node:=x1) hS.ds hne2
 have hfk:fillK ins.length=.deep:=by unfold fillK;rw [if_neg (by omega)]
 have hnsf:(fl.map (fun t:TA=>V.agg [V.str t.1,V.int .i64 t.2.1,V.int .i64 t.2.2.1,V.int .i64 t.2.2.2.1,V.int .i64 t.2.2.2.2])).all V.noSl=true:=by rw [List.all_map,List.all_eq_true];intro a _;rfl
 have hine:ins.map (fun t:TI=>V.agg [V.int .i64 t.1,V.int .i64 t.2.1,V.bool t.2.2.1,slN (t.2.2.2.map V.str)])≠[]:=fun e=>by
  have e2:=congrArg List.length e
  rw [List.length_map,List.length_nil] at e2
  omega
 have hms:(chO n ss fl x1 need).foldl (decK fl) need=(chL n ss fl x1 need):=miss_pick fl need _
 have hok:∀i∈(chO n ss fl x1 need),∃(k:Nat) (a:TA),i=(k:Int)∧fl[k]? =some a∧0≤a.2.1∧a.2.1≤3:=fun i hi=>by
  obtain ⟨q,a,q1,q2,_,_,q5,q6⟩:=ch_mem hS.ds hne2 hi
  exact ⟨q,a,q1,q2,q5,q6⟩
 have hcn:=call_len hS
 have hce:=call_end hS
 simp only [] at hcn hce
 have hso12:(sortL (chO n ss fl x1 need)).length≤12:=by rw [hcn];exact hcl
 refine v_conW [.tmp 8,.tmp 9] [(160,[0]),(161,[0])] Tryz.func86 rfl rfl rfl (by simp [Tryz.ntmps86]) _ (weak_ctl 0 (fl.map (fun t:TA=>V.agg [V.str t.1,V.int .i64 t.2.1,V.int .i64 t.2.2.1,V.int .i64 t.2.2.2.1,V.int .i64 t.2.2.2.2])) (ins.map (fun t:TI=>V.agg [V.int .i64 t.1,V.int .i64 t.2.1,V.bool t.2.2.1,slN (t.2.2.2.map V.str)])) .deep rfl hnsf (fun e=>absurd e hine) (fun _=>rfl) rfl) ?_
 intro Q0 n0 r0
 simp only [Tryz.ntmps86,envFrom,Nat.reduceAdd,List.set_cons_zero,List.set_cons_succ,List.cons_append,List.nil_append,List.length_cons,List.length_nil]
 have T:=Tys.mk (ai Ty.t3 (ai Ty.t4 (ai Ty.t9 (ai Ty.t32 (ai Ty.t33 (ai Ty.t34 (ai Ty.t36 (ai Ty.t39 (ai Ty.t41 (ai Ty.t51 (ai Ty.t75 (ai Ty.t96 (ai Ty.t99 (ai Ty.t102 (ai Ty.t108 Ty.t169)))))))))))))))
 have F:=Fc.mk True.intro
 have F:=Fc.mk (ai @Int.toNat_natCast (gdm hS.at_))
 refine yR [0,1,2,3] ⟨?_⟩;refine v_seq ?_;intro Q2 n2 e2 r2;refine v_draw (by kernel_rfl) ?_;intro K3 q3 k3
 show aAny _ _ _ _ 16 (Array.replicate 16 false) _
 refine zdMove q3 true 0 15 ?_;refine zdMove q3 true 1 16 ?_;refine zdNilCheck q3 true 2 17 ?_;refine zdFieldAddr q3 true 3 18 ?_;refine zdLoadX q3 true 4 19 ?_;refine zdMove q3 true 5 20 ?_;refine zdNilCheck q3 true 6 21 ?_;refine zdFieldAddr q3 true 7 22 ?_;refine zdLoadX q3 true 8 23 ?_;refine zdMove q3 true 9 24 ?_;refine zdIndexAddr q3 true 10 25 ?_;refine zdFieldAddr q3 true 11 26 ?_;refine zdLoadX q3 true 12 27 ?_;refine zdMove q3 true 13 28 ?_;refine zoc 14 (choose_con n ss fl x1 need hS.ds hnd2 hne2) ⟨?_⟩;refine zoAssign 15 ⟨?_⟩;refine aAny_done (by kernel_rfl) ?_;refine k3 _ ?_;refine n2 _ _ (weak_keep [0,2,3,10] _) ?_;refine zk ⟨?_⟩;refine yRc [0,2,10,11] (missing_con fl (chO n ss fl x1 need) need (by omega) hco hok hne2) ⟨?_⟩;refine yRl [0,2,10,11] (sortAny_con (chO n ss fl x1 need) (by omega)) ⟨?_⟩;refine yR [0,2,10,11,12] ⟨?_⟩;refine v_seq ?_;intros;refine yR [0,2,11,12,39,40,41] ⟨?_⟩;refine v_block ?_;intros;refine v_loop (fun j=>⟨[(0,.ptr 0 0 0),(2,.int .i64 (Nat.cast q)),(11,.ref 3),(12,.ref 4),(39,.ref 5),(40,.int .i64 (sortL (chO n ss fl x1 need)).length),(41,.int .i64 (Nat.cast j))],[.box (.agg [.ref 1,.ref 2,.any]) .mix,.arr ((callP fl ((sortL (chO n ss fl x1 need)).take j)).map (fun t:TA=>V.agg [V.str t.1,V.int .i64 t.2.1,V.int .i64 t.2.2.1,V.int .i64 t.2.2.2.1,V.int .i64 t.2.2.2.2])) .flat,.arr ((addIs q ins ((chN n ss fl x1 need).take j)).map (fun t:TI=>V.agg [V.int .i64 t.1,V.int .i64 t.2.1,V.bool t.2.2.1,slN (t.2.2.2.map V.str)])) .deep,.arr ((chL n ss fl x1 need).map (V.int .i64)) .flat,.arr (((chN n ss fl x1 need).take j).map V.str) .flat,.arr ((sortL (chO n ss fl x1 need)).map (V.int .i64)) .flat],false,81,0⟩) (fun j=>j≤(sortL (chO n ss fl x1 need)).length) (fun j=>(sortL (chO n ss fl x1 need)).length - j) 0 ?_ ?_ ?_
 ·refine weak_bothN [0,2,11,12,39,40,41] [0,1,2,6,7,5] ⟨?_⟩
  rw [List.take_zero,List.take_zero,addIs_nil hS.at_,hms];rfl
 ·exact Nat.zero_le _
 ·rintro j hok10 Q10 n10 e10 r10
  have hj1:j≤(sortL (chO n ss fl x1 need)).length:=hok10
  refine yR [0,2,11,12,39,40,41,42] ⟨?_⟩;refine v_seq ?_;intros;refine v_condS _ rfl ?_ ?_
  ·intro hc0
   have hlt:j < (sortL (chO n ss fl x1 need)).length:=by omega
   obtain ⟨i,hi⟩:∃i,(sortL (chO n ss fl x1 need))[j]? =some i:=⟨_,List.getElem?_eq_getElem hlt⟩
   obtain ⟨m,⟨a0,a1,a2,a3,a4⟩,rfl,hm,ha,hst,hs⟩:=call_next hS hi
   simp only [] at hs hst ha
   obtain ⟨h1,h2,h3,h4,h5,h6,h7⟩:=send_next hS hs
   have hal:(addIs q ins ((chN n ss fl x1 need).take j)).length=ins.length:=addIs_len ..
   have hcp:(callP fl ((sortL (chO n ss fl x1 need)).take j)).length=fl.length:=callP_len ..
   have hcp2:(callP fl ((sortL (chO n ss fl x1 need)).take (j+1))).length=fl.length:=callP_len ..
   have hsm:((callP fl ((sortL (chO n ss fl x1 need)).take j)).map (fun t:TA=>V.agg [V.str t.1,V.int .i64 t.2.1,V.int .i64 t.2.2.1,V.int .i64 t.2.2.2.1,V.int .i64 t.2.2.2.2])).set m (V.agg [V.str a0,V.int .i64 a1,V.int .i64 a2,V.int .i64 a3,V.int .i64 1])=(callP fl ((sortL (chO n ss fl x1 need)).take (j+1))).map (fun t:TA=>V.agg [V.str t.1,V.int .i64 t.2.1,V.int .i64 t.2.2.1,V.int .i64 t.2.2.2.1,V.int .i64 t.2.2.2.2]):=by rw [hst,List.map_set];rfl
   have hgN:(callP fl ((sortL (chO n ss fl x1 need)).take (j+1)))[m]? =some (a0,a1,a2,a3,1):=by rw [hst];exact List.getElem?_set_self (by omega)
   have htn:((chN n ss fl x1 need).take j).map V.str++[V.str a0]=((chN n ss fl x1 need).take (j+1)).map V.str:=(take_map_step (f:=V.str) hs).symm
   refine zn [0,2,11,12,39,40,41] ⟨?_⟩;refine v_seq ?_;intros;refine v_block ?_;intros
   have F:=Fc.mk (ai @Int.toNat_natCast (ai (gdm hS.at_) (ai (gdm hi) (ai hcp (ai (gdm ha) (ai hsm (ai hcp2 (ai (gdm hgN) hal))))))))
   refine yR [0,2,11,12,14,39,40,41] ⟨?_⟩;refine yR [0,2,11,12,14,39,40,41] ⟨?_⟩;refine v_seq ?_;intro Q18 n18 e18 r18;refine v_draw (by kernel_rfl) ?_;intro K19 q19 k19
   show aAny _ _ _ _ 15 (Array.replicate 15 false) _
   refine zdMove q19 true 0 52 ?_;refine zdNilCheck q19 true 1 53 ?_;refine zdFieldAddr q19 true 2 54 ?_;refine zdLoadX q19 true 3 55 ?_;refine zdMove q19 true 4 56 ?_;refine zdIndexAddr q19 true 5 57 ?_;refine zdMove q19 true 6 58 ?_;refine zdNilCheck q19 true 7 59 ?_;refine zdFieldAddr q19 true 8 60 ?_;refine zdLoadX q19 true 9 61 ?_;refine zdMove q19 true 10 62 ?_;refine zdIndexAddr q19 true 11 63 ?_;refine zdFieldAddr q19 true 12 64 ?_;refine zdLoadX q19 true 13 65 ?_;refine aAny_only 14 rfl (by kernel_rfl) ?_;intro K k
   simp only [zE,zM,aStepM,optable,set_some,Nat.reduceEqDiff,reduceIte,Nat.reduceLT,implies_true,forall_const,reduceCtorEq,V.ofValue,V.ofScalar,V.un,V.gd,aExec,lentIds,lendOf,Tryz.underlying3,Ty.c3,Ty.a3,Ty.b3,Ty.s3,Tryz.underlying4,Ty.c4,Ty.a4,Ty.b4,Ty.s4,Tryz.underlying9,Ty.c9,Ty.a9,Ty.b9,Ty.s9,Tryz.underlying51,Ty.c51,Ty.a51,Ty.b51,Ty.s51,Tryz.underlying99,Ty.c99,Ty.a99,Ty.b99,Ty.s99]
   repeat (refine ai (by first | rfl | (intros;simp_all;done)) ?_)
   refine aCall_lent _ (add_con (addIs q ins ((chN n ss fl x1 need).take j)) q a0 x0 x1 x2 (putAll x3 ((chN n ss fl x1 need).take j)) h4 h2 h1 (by omega)) (toArgs_ptrl rfl rfl) rfl ⟨by simp [Blk.kindIs,fillK_mix,thK_mix],by simp⟩ (by first | exact .inl rfl | exact .inr (by simp [Blk.kindIs])) ⟨rfl,by simp [Blk.kindIs,fillK_fd,thK_fd]⟩ ?_;refine k _ ?_;clear k K
   simp only [zY,zW,set_some,Nat.reduceEqDiff,reduceIte,rho_one,rho_s,V.ren,V.renL,List.set_cons_zero,List.set_cons_succ,Nat.reduceAdd]
   refine aAny_done (by kernel_rfl) ?_;refine k19 _ ?_;refine n18 _ _ (weak_keep [0,2,11,12,14,39,40,41] _) ?_;refine zk ⟨?_⟩;refine yQ [0,2,11,12,39,40,41] ⟨?_⟩;refine yV ⟨?_⟩;refine n10 _ (j+1) ?_ ?_ ?_
   ·refine weak_bothN [0,2,11,12,39,40,41] [0,1,2,3,7,5] ⟨?_⟩
    rw [h7,htn];rfl
   ·exact hlt
   ·show _ < _;omega
  ·intro hc0
   have hje:(chN n ss fl x1 need).take j=(chN n ss fl x1 need):=List.take_of_length_le (by omega)
   have hjs:(sortL (chO n ss fl x1 need)).take j=(sortL (chO n ss fl x1 need)):=List.take_of_length_le (by omega)
   refine zn [11,12] ⟨?_⟩;refine yR [8,9] ⟨?_⟩;refine v_ret ?_;refine r0 _ _ (weak_packs (packs_ctl 0 1 2 _ _ .deep .any rfl rfl rfl (.inr rfl) rfl (by decide) (by decide) (by decide))) ?_
   try simp only [List.set_cons_zero,List.set_cons_succ,List.cons_append,List.nil_append,List.length_cons,List.length_nil,Nat.reduceAdd]
   refine zf ⟨?_⟩
   rw [hje,hjs,hce]
   exact rta
theorem opN_con {P:Program} {f:FuncId} {l:List TI} {rest:List V} {O O2:List Blk} {n:Int} {q:Nat} (hc:Con P f (.sl (l.map (fun t:TI=>V.agg [V.int .i64 t.1,V.int .i64 t.2.1,V.bool t.2.2.1,V.sl (t.2.2.2.map V.str)]))::rest) O (.int .i64 n) O2) (e:n=(q:Int)):Con P f (.sl (l.map (fun t:TI=>V.agg [V.int .i64 t.1,V.int .i64 t.2.1,V.bool t.2.2.1,slN (t.2.2.2.map V.str)]))::rest) O (.int .i64 (Nat.cast q)) O2:=by
  rw [e] at hc;exact icn_con hc
theorem max_con {P:Program} {f:FuncId} {L:List Int} {z:Int} {zl:List Int} {O O2:List Blk} {r:V} (e:L=z::zl) (hc:Con P f [.sl ((z::zl).map (V.int .i64))] O r O2):Con P f [.sl (L.map (V.int .i64))] O r O2:=by rw [e];exact hc
theorem fillK_e {α:Type} {f:α→V} {l:List α} (e:l.map f=[]):fillK l.length=.flat:=by
  have:l=[]:=List.map_eq_nil_iff.1 e
  subst this;rfl
theorem fillK_n {α:Type} {f:α→V} {l:List α} (e:l.map f≠[]):fillK l.length=.deep:=by
  have:l.length≠0:=fun h=>e (by rw [List.length_eq_zero_iff.1 h];rfl)
  unfold fillK;rw [if_neg this]
theorem all_noSl {l:List TA}:(l.map (fun t:TA=>V.agg [V.str t.1,V.int .i64 t.2.1,V.int .i64 t.2.2.1,V.int .i64 t.2.2.2.1,V.int .i64 t.2.2.2.2])).all V.noSl=true:=by rw [List.all_map,List.all_eq_true];intro a _;rfl
set_option maxRecDepth 100000 in
theorem implFill2_con (n:Int) (ss:List TS) (fl:List TA) (ins:List TI) (ws:List TW) (hs:ss.length≤1048576) (hl:fl.length≤1048576) (hls:∀t∈fl,t.1.size≤9223372036854775807) (hil:ins.length≤1048576) (hin:∀x∈ins,x.2.2.2.length≤1048576) (his:∀x∈ins,∀s∈x.2.2.2,s.size≤9223372036854775807) (hwl:ws.length≤1048576) (hwn:∀x∈ws,x.2.length≤1048576):Con Tryz.prog 22 [.agg [.int .i64 n,.sl (ss.map (fun t:TS=>V.agg [V.int .i64 t.1,V.int .i64 t.2.1,V.int .i64 t.2.2]))],.agg [.sl (fl.map (fun t:TA=>V.agg [V.str t.1,V.int .i64 t.2.1,V.int .i64 t.2.2.1,V.int .i64 t.2.2.2.1,V.int .i64 t.2.2.2.2])),.sl (ins.map (fun t:TI=>V.agg [V.int .i64 t.1,V.int .i64 t.2.1,V.bool t.2.2.1,V.sl (t.2.2.2.map V.str)])),.sl (ws.map (fun t:TW=>V.agg [V.int .i64 t.1,V.sl (t.2.map (V.int .i64))]))]] [] (.tup [.agg [.ref 0,.ref 1,.ref 2],.ref 3,.bool (ctlB n ss fl ins ws)]) [.arr ((orNil (ctlB n ss fl ins ws) (fillTo n ss fl ins ws ws.length).1).map (fun t:TA=>V.agg [V.str t.1,V.int .i64 t.2.1,V.int .i64 t.2.2.1,V.int .i64 t.2.2.2.1,V.int .i64 t.2.2.2.2])) .flat,.arr ((orNil (ctlB n ss fl ins ws) (fillTo n ss fl ins ws ws.length).2.1).map (fun t:TI=>V.agg [V.int .i64 t.1,V.int .i64 t.2.1,V.bool t.2.2.1,V.sl (t.2.2.2.map V.str)])) (fillK (orNil (ctlB n ss fl ins ws) (fillTo n ss fl ins ws ws.length).2.1).length),.arr ((orNil (ctlB n ss fl ins ws) (fillTo n ss fl ins ws ws.length).2.2.1).map (fun t:TW=>V.agg [V.int .i64 t.1,V.sl (t.2.map (V.int .i64))])) (fillK (orNil (ctlB n ss fl ins ws) (fillTo n ss fl ins ws ws.length).2.2.1).length),.arr ((orNil (ctlB n ss fl ins ws) (fillTo n ss fl ins ws ws.length).2.2.2).map V.str) .flat]:=by
 refine v_con [.cell 4 36,.tmp 5,.tmp 6] [(86,[0])] Tryz.func22 rfl rfl rfl (by simp [Tryz.ntmps22]) ?_
 intro Q0 n0 r0
 simp only [Tryz.ntmps22,envFrom,Nat.reduceAdd]
 have T:=Tys.mk (ai Ty.t3 (ai Ty.t4 (ai Ty.t9 (ai Ty.t32 (ai Ty.t33 (ai Ty.t34 (ai Ty.t36 (ai Ty.t39 (ai Ty.t41 (ai Ty.t51 (ai Ty.t75 (ai Ty.t96 (ai Ty.t99 (ai Ty.t102 (ai Ty.t108 (ai Ty.t110 Ty.t169))))))))))))))))
 have F:=Fc.mk True.intro
 refine yR [2,3,4] ⟨?_⟩;refine v_seq ?_;intros;refine yRcg [2,3,4,19] (isTown_con n ss hs) (isControl_con n ss fl ins ws hs hl hls hil hin his hwl hwn) ⟨?_⟩;refine v_condS _ rfl ?_ ?_
 ·intro hc0
  have hB:(ctlB n ss fl ins ws)=false:=by
   cases hq:(ctlB n ss fl ins ws) with
   |false=>rfl
   |true=>(have ht:=ctl_town hq;simp [hq,ht] at hc0)
  refine v_seq ?_;intro Q5 n5 e5 r5;refine yV ⟨?_⟩
  apply n5
  ·apply weak_trans (weak_keep [4,5,6] _)
   simp only [keep_mk,keepE_nil,keepE_cons,look_cons,look_nil,Nat.reduceEqDiff,reduceIte]
   exact weak_refl _ _
  try simp only [atSlot_cons,atSlot_nil,Nat.reduceEqDiff,reduceIte,List.set_cons_zero,List.set_cons_succ]
  refine zq3 ⟨?_⟩
  simp only [hB,orNil_f,List.map_nil,List.length_nil,fillK_0]
  exact rta
 ·intro hc0
  have hB:(ctlB n ss fl ins ws)=true:=by
   cases hq:(ctlB n ss fl ins ws) with
   |true=>rfl
   |false=>simp [hq] at hc0
  have hc:=ctl_facts hB
  have hp:=(ctl_iff n ss fl ins ws).1 hB
  refine zn [2,3,4] ⟨?_⟩;refine yRc [2,4,7] (copyControlN_con fl ins ws hl hil hin hwl hwn) ⟨?_⟩;refine yR [2,4,7,8] ⟨?_⟩;refine yR [2,4,7,8,9] ⟨?_⟩;refine v_seq ?_;intros;refine v_seq ?_;intro Q11 n11 e11 r11;refine yV ⟨?_⟩
  apply n11
  ·apply weak_trans (weak_keep [2,4,7,8,9,23,24,25] _)
   simp only [keep_mk,keepE_nil,keepE_cons,look_cons,look_nil,Nat.reduceEqDiff,reduceIte]
   exact weak_trans (weak_giveup 23 9 (ws.map (fun t:TW=>V.agg [V.int .i64 t.1,V.sl (t.2.map (V.int .i64))])) (fillK ws.length) rfl rfl ((fillK_or _).imp id .inl)) (weak_cells 13 _ (.box (.agg [.ref 7,.ref 8,.any]) .mix) [.agg [.ref 7,.ref 8,.ref 9]] [.agg [.ref 7,.ref 8,.any]] .mix rfl (.inr ⟨_,_,rfl,rfl,rfl,rfl⟩) ⟨.inl rfl,.inl rfl,.inr (.inr rfl),trivial⟩ rfl (by simp [V.cells]))
  try simp only [atSlot_cons,atSlot_nil,Nat.reduceEqDiff,reduceIte,List.set_cons_zero,List.set_cons_succ]
  refine v_block ?_;intros;refine v_loop (fun i=>⟨[(2,.ptr 0 0 0),(4,.ptr 4 0 0),(7,.ptr 5 0 0),(8,.ref 8),(9,.ref 9),(23,.sl (ws.map (fun t:TW=>V.agg [V.int .i64 t.1,V.sl (t.2.map (V.int .i64))]))),(24,.int .i64 ws.length),(25,.int .i64 (Nat.cast i))],[.box (.agg [.int .i64 n,.sl (ss.map (fun t:TS=>V.agg [V.int .i64 t.1,V.int .i64 t.2.1,V.int .i64 t.2.2]))]) .shal,.arr [] .flat,.arr [] .flat,.arr [] .flat,.box (.agg [.ref 1,.ref 2,.ref 3]) .mix,.box (.agg [.ref 6,.ref 7,.any]) .mix,.arr ((fillTo n ss fl ins ws i).1.map (fun t:TA=>V.agg [V.str t.1,V.int .i64 t.2.1,V.int .i64 t.2.2.1,V.int .i64 t.2.2.2.1,V.int .i64 t.2.2.2.2])) .flat,.arr ((fillTo n ss fl ins ws i).2.1.map (fun t:TI=>V.agg [V.int .i64 t.1,V.int .i64 t.2.1,V.bool t.2.2.1,slN (t.2.2.2.map V.str)])) (fillK (fillTo n ss fl ins ws i).2.1.length),.arr ((fillTo n ss fl ins ws i).2.2.1.map (fun t:TW=>V.agg [V.int .i64 t.1,V.sl (t.2.map (V.int .i64))])) (fillK (fillTo n ss fl ins ws i).2.2.1.length),.arr ((fillTo n ss fl ins ws i).2.2.2.map V.str) .flat],false,58,0⟩) (fun i=>i≤ws.length∧FillInv n ss ins i (fillTo n ss fl ins ws i)) (fun i=>ws.length - i) 0 ?_ ?_ ?_
  ·refine weak_bothN [2,4,7,8,9,23,24,25] [0,2,3,4,5,13,7,8,14,15] ⟨?_⟩
   rfl
  ·exact ⟨Nat.zero_le _,fill_first hp⟩
  ·rintro i hok14 Q14 n14 e14 r14
   obtain ⟨hi1,hI⟩:=hok14
   refine yR [2,4,7,8,9,23,24,25,26] ⟨?_⟩;refine v_seq ?_;intros;refine v_condS _ rfl ?_ ?_
   ·intro hc1
    have hlt:i < ws.length:=by omega
    obtain ⟨⟨x0,x1⟩,hx⟩:∃x:TW,ws[i]? =some x:=⟨ws[i]'(by omega),List.getElem?_eq_getElem (by omega)⟩
    obtain ⟨q,⟨y0,y1,y2,y3⟩,hk0,hk1,hS,hn4,hfs,hnx⟩:=fill_next hp hx (st:=(fillTo n ss fl ins ws i)) rfl hI
    simp only [] at hk0 hk1 hn4 hfs
    obtain ⟨st,hst⟩:∃st,st=(fillTo n ss fl ins ws i):=⟨_,rfl⟩
    have hI2:=hI
    rw [←hst] at hI2 hS hk1 hfs
    have hcl4:=(chL_facts (n:=n) (ss:=ss) (fl:=st.1) (node:=y1) hn4).1
    have hcn:=chN_len (node:=y1) (need:=x1) hS.ds
    have hnl:=hI2.nl
    have hwl2:=hI2.wl
    have hln:=hI2.len
    have hws8:=hp.ws8
    have hf1:chF n ss st.1 y1 x1=(fillTo n ss fl ins ws (i+1)).1:=by rw [hfs]
    have hf2:addIs q st.2.1 (chN n ss st.1 y1 x1)=(fillTo n ss fl ins ws (i+1)).2.1:=by rw [hfs]
    have hf4:st.2.2.2.map V.str++(chN n ss st.1 y1 x1).map V.str=(fillTo n ss fl ins ws (i+1)).2.2.2.map V.str:=by rw [←List.map_append,hfs]
    have hli:st.2.1.length=(fillTo n ss fl ins ws (i+1)).2.1.length:=by rw [hln,hnx.len]
    have hclf:=chL_facts (n:=n) (ss:=ss) (fl:=st.1) (node:=y1) hn4
    have hn4c:=need4_is hclf
    obtain ⟨z,zl,hz⟩:∃z zl,(chL n ss st.1 y1 x1)=z::zl:=by
     cases hc:(chL n ss st.1 y1 x1) with
     |nil=>rw [hc] at hcl4;cases hcl4
     |cons z zl=>exact ⟨z,zl,rfl⟩
    have hmp:0 < mostL zl z↔(chL n ss st.1 y1 x1).all (fun x:Int=>inR x 0 0)=false:=by rw [hz] at hn4c⊢;exact max_pos hn4c
    have hzl:(z::zl).length≤1048576:=by rw [←hz];omega
    have hfl12:=hS.ds.hfl
    rw [←hst]
    refine zn [2,4,7,8,9,23,24,25] ⟨?_⟩;refine v_seq ?_;intros;refine v_block ?_;intros
    have F:=Fc.mk (gdm hx)
    refine yR [2,4,7,8,9,11,23,24,25] ⟨?_⟩;refine v_seq ?_;intro Q21 n21 e21 r21;refine v_draw (by kernel_rfl) ?_;intro K22 q22 k22
    show aAny _ _ _ _ 13 (Array.replicate 13 false) _
    refine zdFieldAddr q22 true 0 30 ?_;refine zdLoadX q22 true 1 31 ?_;refine zdFieldAddr q22 true 2 32 ?_;refine zdLoadX q22 true 3 33 ?_;refine zdFieldAddr q22 true 5 35 ?_;refine zdLoadX q22 true 6 36 ?_;refine zoc 4 (opN_con (openAt_con st.2.1 x0 (by omega)) hk1) ⟨?_⟩;refine aAny_only 7 rfl (by kernel_rfl) ?_;intro K k
    simp only [zE,zM,aStepM,optable,set_some,Nat.reduceEqDiff,reduceIte,Nat.reduceLT,implies_true,forall_const,reduceCtorEq,V.ofValue,V.ofScalar,V.un,V.gd,aExec,lentIds,lendOf,‹Tys _›.h,‹Fc _›.h]
    repeat (refine andC ?_)
    refine aCall_packed 5 (packs_ctl 5 6 7 _ _ (fillK _) .any rfl rfl rfl (fillK_or _) rfl (by decide) (by decide) (by decide)) (call_con n ss st.1 st.2.1 q y0 y1 y2 y3 x1 hS) rfl rfl ⟨rfl,by simp⟩ (.inl rfl) ⟨rfl,by simp [Blk.kindIs,fillK_fd]⟩ ?_;refine k _ ?_;clear k K
    simp only [zY,zW,set_some,Nat.reduceEqDiff,reduceIte,rho_one,rho_s,V.ren,V.renL,List.set_cons_zero,List.set_cons_succ,rho,List.length_set,Nat.reduceAdd,Nat.add_zero]
    refine zdMove q22 true 8 29 ?_;refine zdExtract q22 true 9 38 ?_;refine zdExtract q22 true 10 39 ?_;refine zoAssign 11 ⟨?_⟩;refine zoAssign 12 ⟨?_⟩;refine aAny_done (by kernel_rfl) ?_;refine k22 _ ?_
    apply n21
    ·apply weak_trans (weak_keep [2,4,7,8,9,11,12,13,23,24,25] _)
     simp only [keep_mk,keepE_nil,keepE_cons,look_cons,look_nil,Nat.reduceEqDiff,reduceIte]
     exact weak_ctl 5 ((chF n ss st.1 y1 x1).map (fun t:TA=>V.agg [V.str t.1,V.int .i64 t.2.1,V.int .i64 t.2.2.1,V.int .i64 t.2.2.2.1,V.int .i64 t.2.2.2.2])) ((addIs q st.2.1 (chN n ss st.1 y1 x1)).map (fun t:TI=>V.agg [V.int .i64 t.1,V.int .i64 t.2.1,V.bool t.2.2.1,slN (t.2.2.2.map V.str)])) (fillK (addIs q st.2.1 (chN n ss st.1 y1 x1)).length) rfl all_noSl fillK_e fillK_n rfl
    try simp only [atSlot_cons,atSlot_nil,Nat.reduceEqDiff,reduceIte,List.set_cons_zero,List.set_cons_succ]
    refine yR [2,4,7,8,9,11,13,23,24,25] ⟨?_⟩;refine yRc [2,4,7,8,9,11,13,23,24,25,45] (max_con hz (slMax_con z zl hzl)) ⟨?_⟩;refine v_condS _ rfl ?_ ?_
    ·intro hc2
     have hall:(chL n ss st.1 y1 x1).all (fun x:Int=>inR x 0 0)=false:=hmp.1 (by first | omega | (have hq:=of_decide_eq_true hc2;omega))
     have hf3:(fillTo n ss fl ins ws (i+1)).2.2.1=st.2.2.1++[(x0,chL n ss st.1 y1 x1)]:=by rw [hfs];simp [hall]
     have hsn:st.2.2.1.map (fun t:TW=>V.agg [V.int .i64 t.1,V.sl (t.2.map (V.int .i64))])++[V.agg [V.int .i64 x0,V.sl ((chL n ss st.1 y1 x1).map (V.int .i64))]]=(fillTo n ss fl ins ws (i+1)).2.2.1.map (fun t:TW=>V.agg [V.int .i64 t.1,V.sl (t.2.map (V.int .i64))]):=by rw [hf3,List.map_append];rfl
     have hkd:st.2.2.1.length+1=(fillTo n ss fl ins ws (i+1)).2.2.1.length:=by rw [hf3,List.length_append];rfl
     refine yQ [2,4,7,8,9,23,24,25] ⟨?_⟩;refine yV ⟨?_⟩;refine n14 _ (i+1) ?_ ?_ ?_
     ·refine weak_bothN [2,4,7,8,9,23,24,25] [0,1,2,3,4,5,14,15,18,16] ⟨?_⟩
      rw [hf1,hf2,hsn,hf4,hkd];rfl
     ·exact ⟨hlt,hnx⟩
     ·show _ < _;omega
    ·intro hc2
     have hall:(chL n ss st.1 y1 x1).all (fun x:Int=>inR x 0 0)=true:=by
      cases h:(chL n ss st.1 y1 x1).all (fun x:Int=>inR x 0 0) with
      |true=>rfl
      |false=>exact absurd (hmp.2 h) (by first | omega | (have hq:=of_decide_eq_false hc2;omega))
     have hf3:st.2.2.1=(fillTo n ss fl ins ws (i+1)).2.2.1:=by rw [hfs];simp [hall]
     refine zn [2,4,7,8,9,23,24,25] ⟨?_⟩;refine yV ⟨?_⟩;refine n14 _ (i+1) ?_ ?_ ?_
     ·refine weak_bothN [2,4,7,8,9,23,24,25] [0,1,2,3,4,5,14,15,8,16] ⟨?_⟩
      rw [hf1,hf2,hf3,hf4];rfl
     ·exact ⟨hlt,hnx⟩
     ·show _ < _;omega
   ·intro hc1
    have hie:i=ws.length:=by omega
    subst hie
    refine zn [4,7,8,9] ⟨?_⟩;refine yR [4,7,9] ⟨?_⟩;refine v_seq ?_;intro Q30 n30 e30 r30;refine yV ⟨?_⟩
    apply n30
    ·apply weak_trans (weak_keep [4,5,6] _)
     simp only [keep_mk,keepE_nil,keepE_cons,look_cons,look_nil,Nat.reduceEqDiff,reduceIte]
     exact weak_icn 7 _ _ rfl
    try simp only [atSlot_cons,atSlot_nil,Nat.reduceEqDiff,reduceIte,List.set_cons_zero,List.set_cons_succ]
    refine zq3 ⟨?_⟩
    simp only [hB,orNil_t]
    exact rta
theorem fill_all {n:Int} {ss:List TS} {fl:List TA} {ins:List TI} {ws:List TW} (h:CtlProp n ss fl ins ws):∀i,i≤ws.length→FillInv n ss ins i (fillTo n ss fl ins ws i)
  | 0,_=>fill_first h
  | i+1,hi=>by
    obtain ⟨_,_,_,_,_,_,_,q⟩:=fill_next h (List.getElem?_eq_getElem (show i < ws.length by omega)) rfl (fill_all h i (by omega))
    exact q
theorem fill_T (n:Int) (ss:List TS) (fl:List TA) (ins:List TI) (ws:List TW):(orNil (ctlB n ss fl ins ws) (fillTo n ss fl ins ws ws.length).1).length≤1048576∧(orNil (ctlB n ss fl ins ws) (fillTo n ss fl ins ws ws.length).2.1).length≤1048576∧(∀x∈orNil (ctlB n ss fl ins ws) (fillTo n ss fl ins ws ws.length).2.1,x.2.2.2.length≤1048576)∧
    (orNil (ctlB n ss fl ins ws) (fillTo n ss fl ins ws ws.length).2.2.1).length≤1048576∧(∀x∈orNil (ctlB n ss fl ins ws) (fillTo n ss fl ins ws ws.length).2.2.1,x.2.length≤1048576)∧(orNil (ctlB n ss fl ins ws) (fillTo n ss fl ins ws ws.length).2.2.2).length≤1048576:=by
  rcases Bool.eq_false_or_eq_true (ctlB n ss fl ins ws) with hB | hB
  · rw [hB]
    simp only [orNil_t]
    have hp:=(ctl_iff n ss fl ins ws).1 hB
    have hI:=fill_all hp ws.length (Nat.le_refl _)
    have h8:=hp.ws8
    have h1:=hI.ctl.fl12
    have h2:=hI.ctl.inc.len
    have h4:=hI.wl
    have h6:=hI.nl
    refine ⟨by omega,by omega,fun x hx=> ?_,by omega,fun x hx=> ?_,by omega⟩
    · have:=(hI.ctl.inc.each x hx).len;omega
    · rw [hI.w4 x hx];decide
  · rw [hB];simp [orNil_f]
end Go.Proofs.YtaefoaghpehbpaaGreat
