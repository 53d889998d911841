/- What functions compute. No condition. -/
import Derived.Test.YtaefoaghpehbpaaGreatUz
import Derived.Test.YtaefoaghpehbpaaGreatUty
import Derived.Test.YtaefoaghpehbpaaGreatUmG
import Derived.Test.YtaefoaghpehbpaaGreatX6
import Derived.Test.YtaefoaghpehbpaaGreatX5
import Derived.Test.YtaefoaghpehbpaaGreatX1
import Derived.Test.YtaefoaghpehbpaaGreatX3
import Derived.Test.YtaefoaghpehbpaaGreatX2
import Derived.Test.YtaefoaghpehbpaaGreatX4
set_option linter.unusedSimpArgs false
set_option linter.unusedVariables false
set_option linter.defProp false
namespace Go.Proofs.YtaefoaghpehbpaaGreat
open Go Go.Vm
set_option maxHeartbeats 8000000
theorem allT_step {fl:List TA} {ts:List Int} {i:Nat} {x:TA} (h:fl[i]? =some x):allT (fl.take (i+1)) ts=allT (fl.take i) ts++[Tm.at_ ts x.2.2.1.toNat]:=by
  rw [allT,List.take_add_one,h,Option.toList,List.map_append];rfl
theorem allT_len (fl:List TA) (ts:List Int):(allT fl ts).length=fl.length:=by rw [allT,List.length_map]
theorem insR_is {lt:Int→Int→Bool} {p:List Int} {x:Int} {j:Nat} (h:insPos lt x p p.length=j):insR lt p x=p.take j++x::p.drop j:=by rw [insR,h]
theorem l1Own_con (l:List Int) (hl:l.length≤1048576):Con Tryz.prog 110 [.sl (l.map (V.int .i64))] [] (.ref 0) [.arr (l.map (V.int .i64)) .flat]:=by
 have hns:(l.map (V.int .i64)).all V.noSl=true:=by rw [List.all_map,List.all_eq_true];intro a _;rfl
 refine v_con [.tmp 2] [] Tryz.func110 rfl rfl rfl (by simp [Tryz.ntmps110]) ?_
 intro Q0 n0 r0
 simp only [Tryz.ntmps110,envFrom,Nat.reduceAdd]
 have T:=Tys.mk (ai Ty.t3 Ty.t75)
 have F:=Fc.mk True.intro
 have F:=Fc.mk hns
 refine yR [0] ⟨?_⟩;refine yR [2] ⟨?_⟩;refine zr ⟨?_⟩
 exact ret_refK rfl rfl (by simp)
set_option maxRecDepth 8000 in
theorem dsReady_con (n:Int) (ss:List TS) (fl:List TA) (node:Int) (hd:DsFacts n ss fl) (hu:0≤node∧node < n):Con Tryz.prog 209 [.agg [.int .i64 n,.sl (ss.map (fun t:TS=>V.agg [V.int .i64 t.1,V.int .i64 t.2.1,V.int .i64 t.2.2]))],.sl (fl.map (fun t:TA=>V.agg [V.str t.1,V.int .i64 t.2.1,V.int .i64 t.2.2.1,V.int .i64 t.2.2.2.1,V.int .i64 t.2.2.2.2])),.int .i64 node] [] (.tup [.ref 0,.ref 1]) [.arr ((readyL fl (tmL n ss node)).map (V.int .i64)) .flat,.arr ((allT fl (tmL n ss node)).map (V.int .i64)) .flat]:=by
 have hfl:=hd.hfl
 obtain ⟨ts,hts⟩:∃ts,ts=tmL n ss node:=⟨_,rfl⟩
 have htl:ts.length=n.toNat:=by rw [hts,times_len]
 have htb:=tm_facts hd.hn hu hd.hss hd.hsl
 rw [←hts] at htb⊢
 have hn14:=hd.hn
 have hvalid:∀{a:Int},a∈readyTo fl ts fl.length→∃(k:Nat) (x:TA) (w:Nat),a=(k:Int)∧fl[k]? =some x∧x.2.2.1=(w:Int)∧w < ts.length:=by
  intro a ha
  obtain ⟨k,x,h1,h2,h3,_⟩:=ready_mem fl ts _ a ha
  have hap:=hd.hap _ (List.mem_of_getElem? h3)
  obtain ⟨w,hw⟩:=Int.eq_ofNat_of_zero_le hap.2.1
  exact ⟨k,x,w,h1,h3,hw,by rw [htl];omega⟩
 have hrl:=ready_len fl ts fl.length
 refine v_con [.tmp 6,.tmp 7] [] Tryz.func209 rfl rfl rfl (by simp [Tryz.ntmps209]) ?_
 intro Q0 n0 r0
 simp only [Tryz.ntmps209,envFrom,Nat.reduceAdd]
 have T:=Tys.mk (ai Ty.t3 (ai Ty.t4 (ai Ty.t9 (ai Ty.t32 (ai Ty.t39 (ai Ty.t41 (ai Ty.t75 (ai Ty.t96 Ty.t169))))))))
 have F:=Fc.mk True.intro
 refine yR [1,2,3] ⟨?_⟩;refine yRc [1,8] ((hts ▸ toTimes_con n ss node hd.hn hu hd.hss hd.hsl:Con _ _ _ _ _ [.arr (ts.map (V.int .i64)) .flat])) ⟨?_⟩;refine yR [1,8,9,10] ⟨?_⟩;refine v_seq ?_;intros;refine yR [1,8,9,10,17,18,19] ⟨?_⟩;refine v_block ?_;intros;refine v_loop (fun i=>⟨[(1,.sl (fl.map (fun t:TA=>V.agg [V.str t.1,V.int .i64 t.2.1,V.int .i64 t.2.2.1,V.int .i64 t.2.2.2.1,V.int .i64 t.2.2.2.2]))),(8,.ref 0),(9,.ref 1),(10,.ref 2),(17,.sl (fl.map (fun t:TA=>V.agg [V.str t.1,V.int .i64 t.2.1,V.int .i64 t.2.2.1,V.int .i64 t.2.2.2.1,V.int .i64 t.2.2.2.2]))),(18,.int .i64 fl.length),(19,.int .i64 (Nat.cast i))],[.arr (ts.map (V.int .i64)) .flat,.arr ((isort (byKey fl ts) (readyTo fl ts i)).map (V.int .i64)) .flat,.arr ((allT (fl.take i) ts).map (V.int .i64)) .flat],false,83,0⟩) (fun i=>i≤fl.length) (fun i=>fl.length - i) 0 ?_ ?_ ?_
 ·refine weak_bothS [1,8,9,10,17,18,19] [3,4,5] ⟨?_⟩
  rfl
 ·exact Nat.zero_le _
 ·rintro i hok7 Q7 n7 e7 r7
  have hi1:i≤fl.length:=hok7
  refine yR [1,8,9,10,17,18,19,20] ⟨?_⟩;refine v_seq ?_;intros;refine v_condS _ rfl ?_ ?_
  ·intro hc0
   have hlt:i < fl.length:=by omega
   obtain ⟨⟨x0,x1,x2,x3,x4⟩,hx⟩:∃x:TA,fl[i]? =some x:=⟨fl[i]'(by omega),List.getElem?_eq_getElem (by omega)⟩
   have hap:=hd.hap _ (List.mem_of_getElem? hx)
   simp only [] at hap
   obtain ⟨w,hw⟩:=Int.eq_ofNat_of_zero_le hap.2.1
   subst hw
   obtain ⟨p,hp⟩:∃p,ts[w]? =some p:=⟨_,List.getElem?_eq_getElem (by rw [htl];omega)⟩
   have hwl:w < ts.length:=by rw [htl];omega
   have hpb:=htb w
   rw [Tm.at_get hp] at hpb
   have hrp:=ready_is (fl:=fl) (x:=(x0,x1,(w:Int),x3,x4)) rfl hp
   have hst:=ready_step (ts:=ts) hx
   have hrl2:=ready_len fl ts i
   have hki:=key_is (ts:=ts) hx rfl hp
   have hal:=allT_step (ts:=ts) hx
   simp only [Int.toNat_natCast,Tm.at_get hp] at hal
   have hall:=allT_len (fl.take i) ts
   have hlti:(fl.take i).length=i:=by rw [List.length_take];omega
   have hpl:=isort_len (byKey fl ts) (readyTo fl ts i)
   refine zn [1,8,9,10,17,18,19] ⟨?_⟩;refine v_seq ?_;intro Q11 n11 e11 r11;refine v_block ?_;intro Q12 n12 x12 e12 r12
   have F:=Fc.mk (ai (gdm hx) (gdm hp))
   refine yR [1,8,9,10,11,12,17,18,19] ⟨?_⟩;refine yR [1,8,9,10,11,12,17,18,19] ⟨?_⟩;refine v_seq ?_;intros;refine yRc [1,8,9,10,11,12,17,18,19,42] (apReady_con x0 x1 (w:Int) x3 x4 hap.1) ⟨?_⟩;refine v_condS _ rfl ?_ ?_
   ·intro hc1
    have hr1:¬readyP fl ts (x0,x1,(w:Int),x3,x4)=true:=by
     rw [hrp]
     intro h
     simp only [Bool.and_eq_true,decide_eq_true_eq] at h
     first
     |(rcases hc1 with q | q;· (rw [h.1] at q;cases q);· omega)
     |(simp [h.1] at hc1;omega)
     |(have:=hc1 h.1;omega)
    refine zn [1,8,9,10,17,18,19] ⟨?_⟩;refine yV ⟨?_⟩;refine n7 _ (i+1) ?_ ?_ ?_
    ·refine weak_bothS [1,8,9,10,17,18,19] [0,1,5] ⟨?_⟩
     rw [hst,if_neg hr1,hal,List.map_append];rfl
    ·exact hlt
    ·show _ < _;omega
   ·intro hc1
    have hr1:readyP fl ts (x0,x1,(w:Int),x3,x4)=true:=by rw [hrp];simpa using hc1
    refine zn [1,8,9,10,11,12,17,18,19] ⟨?_⟩;refine yR [1,8,9,10,11,12,13,17,18,19] ⟨?_⟩;refine v_seq ?_;intros;refine v_block ?_;intros;refine v_loop (fun j=>⟨[(1,.sl (fl.map (fun t:TA=>V.agg [V.str t.1,V.int .i64 t.2.1,V.int .i64 t.2.2.1,V.int .i64 t.2.2.2.1,V.int .i64 t.2.2.2.2]))),(8,.ref 0),(9,.ref 1),(10,.ref 3),(11,.int .i64 (Nat.cast i)),(12,.ptr 2 0 0),(13,.int .i64 (Nat.cast j)),(17,.sl (fl.map (fun t:TA=>V.agg [V.str t.1,V.int .i64 t.2.1,V.int .i64 t.2.2.1,V.int .i64 t.2.2.2.1,V.int .i64 t.2.2.2.2]))),(18,.int .i64 fl.length),(19,.int .i64 (Nat.cast i))],[.arr (ts.map (V.int .i64)) .flat,.arr ((isort (byKey fl ts) (readyTo fl ts i)).map (V.int .i64)) .flat,.box (.agg [V.str x0,V.int .i64 x1,V.int .i64 (Nat.cast w),V.int .i64 x3,V.int .i64 x4]) .flat,.arr ((allT (fl.take (i+1)) ts).map (V.int .i64)) .flat],false,83,0⟩) (fun j=>j≤(isort (byKey fl ts) (readyTo fl ts i)).length∧insPos (byKey fl ts) (i:Int) (isort (byKey fl ts) (readyTo fl ts i)) j=insPos (byKey fl ts) (i:Int) (isort (byKey fl ts) (readyTo fl ts i)) (isort (byKey fl ts) (readyTo fl ts i)).length) (fun j=>j) (isort (byKey fl ts) (readyTo fl ts i)).length ?_ ?_ ?_
    ·refine weak_bothS [1,8,9,10,11,12,13,17,18,19] [0,1,3,5] ⟨?_⟩
     rw [hal,List.map_append];rfl
    ·exact ⟨Nat.le_refl _,rfl⟩
    ·rintro j hok22 Q22 n22 e22 r22
     obtain ⟨hj1,hR2⟩:=hok22
     rcases Nat.eq_zero_or_pos j with hj00 | hj00
     ·skip
      have hj0:¬((0:Int) < (j:Int)):=by omega
      refine v_seq ?_;intros;refine v_seq ?_;intro Q24 n24 e24 r24;refine v_draw (by kernel_rfl) ?_;intro K25 q25 k25
      show aAny _ _ _ _ 22 (Array.replicate 22 false) _
      have F:=Fc.mk (ai (gdm hx) (ai (gdm hp) (ai hj0 (ai @decide_false @Bool.and_false))))
      refine zdMove q25 true 0 45 ?_;refine zdBinOp q25 true 1 46 ?_;refine zdMove q25 true 2 47 ?_;refine zdgMove q25 true 3 48 ?_;refine zdgMove q25 true 4 49 ?_;refine zdgMove q25 true 5 50 ?_;refine zdgMove q25 true 6 51 ?_;refine zdgBinOpW q25 true 7 52 ?_;refine zdgIndexAddr q25 true 8 53 ?_;refine zdgLoad q25 true 9 54 ?_;refine zdgIndexAddr q25 true 10 55 ?_;refine zdgFieldAddr q25 true 11 56 ?_;refine zdgLoad q25 true 12 57 ?_;refine zdgIndexAddr q25 true 13 58 ?_;refine zdgLoad q25 true 14 59 ?_;refine zdgMove q25 true 15 60 ?_;refine zdgFieldAddr q25 true 16 61 ?_;refine zdgLoad q25 true 17 62 ?_;refine zdgIndexAddr q25 true 18 63 ?_;refine zdgLoad q25 true 19 64 ?_;refine zdgBinOp q25 true 20 65 ?_;refine zdPick q25 true 21 66 ?_;refine aAny_done (by kernel_rfl) ?_;refine k25 _ ?_;refine n24 _ _ (weak_keep [1,8,9,10,11,12,13,17,18,19,66] _) ?_;refine zk ⟨?_⟩;refine v_cond _ rfl ?_ ?_
      ·intro hc2
       exfalso;simp [hj0] at hc2
      ·intro hc2
       try simp only [zC,reduceCtorEq] at hc2
       first
       |(have hend:insR (byKey fl ts) (isort (byKey fl ts) (readyTo fl ts i)) (i:Int)=(isort (byKey fl ts) (readyTo fl ts i)).take j++(i:Int)::(isort (byKey fl ts) (readyTo fl ts i)).drop j:=insR_is (by rw [←hR2,hj00];rfl);have htk:((isort (byKey fl ts) (readyTo fl ts i)).take j).length=j:=(by rw [List.length_take];omega);have hcon:=l1Own_con ((isort (byKey fl ts) (readyTo fl ts i)).take j) (by omega);have hdt:List.take ((isort (byKey fl ts) (readyTo fl ts i)).length - j) (List.drop j (List.map (V.int .i64) (isort (byKey fl ts) (readyTo fl ts i))))=List.map (V.int .i64) ((isort (byKey fl ts) (readyTo fl ts i)).drop j):=(by rw [←List.map_drop,List.take_of_length_le (by simp)]);have hsn:List.map (V.int .i64) ((isort (byKey fl ts) (readyTo fl ts i)).take j)++[V.int .i64 (i:Int)]=List.map (V.int .i64) ((isort (byKey fl ts) (readyTo fl ts i)).take j++[(i:Int)]):=snocI)
       |(have hend:insR (byKey fl ts) (isort (byKey fl ts) (readyTo fl ts i)) (i:Int)=(isort (byKey fl ts) (readyTo fl ts i)).take (m+1)++(i:Int)::(isort (byKey fl ts) (readyTo fl ts i)).drop (m+1):=insR_is (by rw [←hR2,insPos_no hyp (by rw [byKey,hki,ek2];simpa [hj0] using hc2)]);have htk:((isort (byKey fl ts) (readyTo fl ts i)).take (m+1)).length=m+1:=(by rw [List.length_take];omega);have hcon:=l1Own_con ((isort (byKey fl ts) (readyTo fl ts i)).take (m+1)) (by omega);have hdt:List.take ((isort (byKey fl ts) (readyTo fl ts i)).length - (m+1)) (List.drop (m+1) (List.map (V.int .i64) (isort (byKey fl ts) (readyTo fl ts i))))=List.map (V.int .i64) ((isort (byKey fl ts) (readyTo fl ts i)).drop (m+1)):=(by rw [←List.map_drop,List.take_of_length_le (by simp)]);have hsn:List.map (V.int .i64) ((isort (byKey fl ts) (readyTo fl ts i)).take (m+1))++[V.int .i64 (i:Int)]=List.map (V.int .i64) ((isort (byKey fl ts) (readyTo fl ts i)).take (m+1)++[(i:Int)]):=snocI)
       refine zn [1,8,9,10,11,13,17,18,19] ⟨?_⟩;refine v_draw (by kernel_rfl) ?_;intro K27 q27 k27
       show aAny _ _ _ _ 12 (Array.replicate 12 false) _
       have F:=Fc.mk (ai (gdm hx) (ai (gdm hp) (ai hj0 (ai @decide_false (ai @Bool.and_false (ai hdt hsn))))))
       refine zdMove q27 true 0 69 ?_;refine zdMove q27 true 1 70 ?_;refine zdSlice q27 true 2 71 ?_;refine zdMove q27 true 4 73 ?_;refine zdMove q27 false 7 76 ?_;refine zdMove q27 false 8 77 ?_;refine aAny_three 3 5 9 rfl rfl rfl (by kernel_rfl) ?_ ?_ ?_
       ·refine zsc (hcon) ⟨?_⟩
        refine aAny_two 5 9 rfl rfl (by kernel_rfl) ?_ ?_
        ·refine zsBuildSlice ⟨?_⟩
         refine aAny_two 6 9 rfl rfl (by kernel_rfl) ?_ ?_
         ·refine zsAppend ⟨?_⟩
          refine zdSlice q27 true 9 78 ?_;refine zoAppend 10 ⟨?_⟩;refine zoAssign 11 ⟨?_⟩;refine aAny_done (by kernel_rfl) ?_;refine k27 _ ?_;refine n12 _ ?_;refine n11 _ _ (weak_keep [1,8,9,10,17,18,19] _) ?_;refine zk ⟨?_⟩;refine yV ⟨?_⟩;refine n7 _ (i+1) ?_ ?_ ?_
          ·refine weak_bothS [1,8,9,10,17,18,19] [0,7,3] ⟨?_⟩
           rw [hst,if_pos hr1,isort_snoc,hend,←List.map_append,List.append_assoc]
           try rfl
          ·exact hlt
          ·show _ < _;omega
         ·refine zsSlice ⟨?_⟩
          refine zoAppend 6 ⟨?_⟩;refine zoAppend 10 ⟨?_⟩;refine zoAssign 11 ⟨?_⟩;refine aAny_done (by kernel_rfl) ?_;refine k27 _ ?_;refine n12 _ ?_;refine n11 _ _ (weak_keep [1,8,9,10,17,18,19] _) ?_;refine zk ⟨?_⟩;refine yV ⟨?_⟩;refine n7 _ (i+1) ?_ ?_ ?_
          ·refine weak_bothS [1,8,9,10,17,18,19] [0,7,3] ⟨?_⟩
           rw [hst,if_pos hr1,isort_snoc,hend,←List.map_append,List.append_assoc]
           try rfl
          ·exact hlt
          ·show _ < _;omega
        ·refine zsSlice ⟨?_⟩
         refine zoBuildSlice 5 ⟨?_⟩;refine zoAppend 6 ⟨?_⟩;refine zoAppend 10 ⟨?_⟩;refine zoAssign 11 ⟨?_⟩;refine aAny_done (by kernel_rfl) ?_;refine k27 _ ?_;refine n12 _ ?_;refine n11 _ _ (weak_keep [1,8,9,10,17,18,19] _) ?_;refine zk ⟨?_⟩;refine yV ⟨?_⟩;refine n7 _ (i+1) ?_ ?_ ?_
         ·refine weak_bothS [1,8,9,10,17,18,19] [0,7,3] ⟨?_⟩
          rw [hst,if_pos hr1,isort_snoc,hend,←List.map_append,List.append_assoc]
          try rfl
         ·exact hlt
         ·show _ < _;omega
       ·refine zsBuildSlice ⟨?_⟩
        refine aAny_two 3 9 rfl rfl (by kernel_rfl) ?_ ?_
        ·refine zsc (hcon) ⟨?_⟩
         refine aAny_two 6 9 rfl rfl (by kernel_rfl) ?_ ?_
         ·refine zsAppend ⟨?_⟩
          refine zdSlice q27 true 9 78 ?_;refine zoAppend 10 ⟨?_⟩;refine zoAssign 11 ⟨?_⟩;refine aAny_done (by kernel_rfl) ?_;refine k27 _ ?_;refine n12 _ ?_;refine n11 _ _ (weak_keep [1,8,9,10,17,18,19] _) ?_;refine zk ⟨?_⟩;refine yV ⟨?_⟩;refine n7 _ (i+1) ?_ ?_ ?_
          ·refine weak_bothS [1,8,9,10,17,18,19] [0,7,3] ⟨?_⟩
           rw [hst,if_pos hr1,isort_snoc,hend,←List.map_append,List.append_assoc]
           try rfl
          ·exact hlt
          ·show _ < _;omega
         ·refine zsSlice ⟨?_⟩
          refine zoAppend 6 ⟨?_⟩;refine zoAppend 10 ⟨?_⟩;refine zoAssign 11 ⟨?_⟩;refine aAny_done (by kernel_rfl) ?_;refine k27 _ ?_;refine n12 _ ?_;refine n11 _ _ (weak_keep [1,8,9,10,17,18,19] _) ?_;refine zk ⟨?_⟩;refine yV ⟨?_⟩;refine n7 _ (i+1) ?_ ?_ ?_
          ·refine weak_bothS [1,8,9,10,17,18,19] [0,7,3] ⟨?_⟩
           rw [hst,if_pos hr1,isort_snoc,hend,←List.map_append,List.append_assoc]
           try rfl
          ·exact hlt
          ·show _ < _;omega
        ·refine zsSlice ⟨?_⟩
         refine zoc 3 (hcon) ⟨?_⟩;refine zoAppend 6 ⟨?_⟩;refine zoAppend 10 ⟨?_⟩;refine zoAssign 11 ⟨?_⟩;refine aAny_done (by kernel_rfl) ?_;refine k27 _ ?_;refine n12 _ ?_;refine n11 _ _ (weak_keep [1,8,9,10,17,18,19] _) ?_;refine zk ⟨?_⟩;refine yV ⟨?_⟩;refine n7 _ (i+1) ?_ ?_ ?_
         ·refine weak_bothS [1,8,9,10,17,18,19] [0,7,3] ⟨?_⟩
          rw [hst,if_pos hr1,isort_snoc,hend,←List.map_append,List.append_assoc]
          try rfl
         ·exact hlt
         ·show _ < _;omega
       ·refine zsSlice ⟨?_⟩
        refine aAny_two 3 5 rfl rfl (by kernel_rfl) ?_ ?_
        ·refine zsc (hcon) ⟨?_⟩
         refine zoBuildSlice 5 ⟨?_⟩;refine zoAppend 6 ⟨?_⟩;refine zoAppend 10 ⟨?_⟩;refine zoAssign 11 ⟨?_⟩;refine aAny_done (by kernel_rfl) ?_;refine k27 _ ?_;refine n12 _ ?_;refine n11 _ _ (weak_keep [1,8,9,10,17,18,19] _) ?_;refine zk ⟨?_⟩;refine yV ⟨?_⟩;refine n7 _ (i+1) ?_ ?_ ?_
         ·refine weak_bothS [1,8,9,10,17,18,19] [0,7,3] ⟨?_⟩
          rw [hst,if_pos hr1,isort_snoc,hend,←List.map_append,List.append_assoc]
          try rfl
         ·exact hlt
         ·show _ < _;omega
        ·refine zsBuildSlice ⟨?_⟩
         refine zoc 3 (hcon) ⟨?_⟩;refine zoAppend 6 ⟨?_⟩;refine zoAppend 10 ⟨?_⟩;refine zoAssign 11 ⟨?_⟩;refine aAny_done (by kernel_rfl) ?_;refine k27 _ ?_;refine n12 _ ?_;refine n11 _ _ (weak_keep [1,8,9,10,17,18,19] _) ?_;refine zk ⟨?_⟩;refine yV ⟨?_⟩;refine n7 _ (i+1) ?_ ?_ ?_
         ·refine weak_bothS [1,8,9,10,17,18,19] [0,7,3] ⟨?_⟩
          rw [hst,if_pos hr1,isort_snoc,hend,←List.map_append,List.append_assoc]
          try rfl
         ·exact hlt
         ·show _ < _;omega
     ·skip
      obtain ⟨m,rfl⟩:∃m,j=m+1:=⟨j - 1,by omega⟩
      have hj0:(0:Int) < ((m+1:Nat):Int):=by omega
      obtain ⟨b,hyp⟩:∃y,(isort (byKey fl ts) (readyTo fl ts i))[m]? =some y:=⟨_,List.getElem?_eq_getElem (by omega)⟩
      have hk:(((m+1:Nat):Int) - 1).toNat=m:=by omega
      obtain ⟨kb,xb,hb1,hb2,hb3,_⟩:=ready_mem fl ts i b (isort_mem.1 (List.mem_of_getElem? hyp))
      have hb:∃(k:Nat) (x:TA) (w:Nat),b=(k:Int)∧fl[k]? =some x∧x.2.2.1=(w:Int)∧w < ts.length:=by
       have hapb:=hd.hap _ (List.mem_of_getElem? hb3)
       obtain ⟨v,hv⟩:=Int.eq_ofNat_of_zero_le hapb.2.1
       exact ⟨kb,xb,v,hb1,hb3,hv,by rw [htl];omega⟩
      obtain ⟨k2,⟨y0,y1,y2,y3,y4⟩,v,rfl,hy,hbw,hbl⟩:=hb
      simp only [] at hbw
      subst hbw
      obtain ⟨q,hq⟩:∃p,ts[v]? =some p:=⟨_,List.getElem?_eq_getElem hbl⟩
      have hk2l:k2 < fl.length:=(List.getElem?_eq_some_iff.1 hy).1
      have ek2:=key_is (ts:=ts) hy rfl hq
      refine v_seq ?_;intros;refine v_seq ?_;intro Q37 n37 e37 r37;refine v_draw (by kernel_rfl) ?_;intro K38 q38 k38
      show aAny _ _ _ _ 22 (Array.replicate 22 false) _
      have F:=Fc.mk (ai (gdm hx) (ai (gdm hp) (ai hj0 (ai @decide_true (ai @Bool.and_true (ai hk (ai (gdm hyp) (ai (gdm hy) (gdm hq)))))))))
      refine zdMove q38 true 0 45 ?_;refine zdBinOp q38 true 1 46 ?_;refine zdMove q38 true 2 47 ?_;refine zdgMove q38 true 3 48 ?_;refine zdgMove q38 true 4 49 ?_;refine zdgMove q38 true 5 50 ?_;refine zdgMove q38 true 6 51 ?_;refine zdgBinOpW q38 true 7 52 ?_;refine zdgIndexAddr q38 true 8 53 ?_;refine zdgLoad q38 true 9 54 ?_;refine zdgIndexAddr q38 true 10 55 ?_;refine zdgFieldAddr q38 true 11 56 ?_;refine zdgLoad q38 true 12 57 ?_;refine zdgIndexAddr q38 true 13 58 ?_;refine zdgLoad q38 true 14 59 ?_;refine zdgMove q38 true 15 60 ?_;refine zdgFieldAddr q38 true 16 61 ?_;refine zdgLoad q38 true 17 62 ?_;refine zdgIndexAddr q38 true 18 63 ?_;refine zdgLoad q38 true 19 64 ?_;refine zdgBinOp q38 true 20 65 ?_;refine zdPick q38 true 21 66 ?_;refine aAny_done (by kernel_rfl) ?_;refine k38 _ ?_;refine n37 _ _ (weak_keep [1,8,9,10,11,12,13,17,18,19,66] _) ?_;refine zk ⟨?_⟩;refine v_condS _ rfl ?_ ?_
      ·intro hc2
       have hlc:byKey fl ts (i:Int) (k2:Int)=true:=by rw [byKey,hki,ek2];simpa [hj0] using hc2
       refine zn [1,8,9,10,11,12,13,17,18,19] ⟨?_⟩;refine v_block ?_;intros;refine yV ⟨?_⟩;refine n22 _ m ?_ ?_ ?_
       ·refine weak_bothS [1,8,9,10,11,12,13,17,18,19] [0,1,2,3] ⟨?_⟩
        rw [show ((m+1:Nat):Int) - 1=(m:Int) by omega]
       ·exact ⟨by omega,by rw [←hR2,insPos_yes hyp hlc]⟩
       ·show m < m+1;omega
      ·intro hc2
       first
       |(have hend:insR (byKey fl ts) (isort (byKey fl ts) (readyTo fl ts i)) (i:Int)=(isort (byKey fl ts) (readyTo fl ts i)).take j++(i:Int)::(isort (byKey fl ts) (readyTo fl ts i)).drop j:=insR_is (by rw [←hR2,hj00];rfl);have htk:((isort (byKey fl ts) (readyTo fl ts i)).take j).length=j:=(by rw [List.length_take];omega);have hcon:=l1Own_con ((isort (byKey fl ts) (readyTo fl ts i)).take j) (by omega);have hdt:List.take ((isort (byKey fl ts) (readyTo fl ts i)).length - j) (List.drop j (List.map (V.int .i64) (isort (byKey fl ts) (readyTo fl ts i))))=List.map (V.int .i64) ((isort (byKey fl ts) (readyTo fl ts i)).drop j):=(by rw [←List.map_drop,List.take_of_length_le (by simp)]);have hsn:List.map (V.int .i64) ((isort (byKey fl ts) (readyTo fl ts i)).take j)++[V.int .i64 (i:Int)]=List.map (V.int .i64) ((isort (byKey fl ts) (readyTo fl ts i)).take j++[(i:Int)]):=snocI)
       |(have hend:insR (byKey fl ts) (isort (byKey fl ts) (readyTo fl ts i)) (i:Int)=(isort (byKey fl ts) (readyTo fl ts i)).take (m+1)++(i:Int)::(isort (byKey fl ts) (readyTo fl ts i)).drop (m+1):=insR_is (by rw [←hR2,insPos_no hyp (by rw [byKey,hki,ek2];simpa [hj0] using hc2)]);have htk:((isort (byKey fl ts) (readyTo fl ts i)).take (m+1)).length=m+1:=(by rw [List.length_take];omega);have hcon:=l1Own_con ((isort (byKey fl ts) (readyTo fl ts i)).take (m+1)) (by omega);have hdt:List.take ((isort (byKey fl ts) (readyTo fl ts i)).length - (m+1)) (List.drop (m+1) (List.map (V.int .i64) (isort (byKey fl ts) (readyTo fl ts i))))=List.map (V.int .i64) ((isort (byKey fl ts) (readyTo fl ts i)).drop (m+1)):=(by rw [←List.map_drop,List.take_of_length_le (by simp)]);have hsn:List.map (V.int .i64) ((isort (byKey fl ts) (readyTo fl ts i)).take (m+1))++[V.int .i64 (i:Int)]=List.map (V.int .i64) ((isort (byKey fl ts) (readyTo fl ts i)).take (m+1)++[(i:Int)]):=snocI)
       refine zn [1,8,9,10,11,13,17,18,19] ⟨?_⟩;refine v_draw (by kernel_rfl) ?_;intro K42 q42 k42
       show aAny _ _ _ _ 12 (Array.replicate 12 false) _
       have F:=Fc.mk (ai (gdm hx) (ai (gdm hp) (ai hj0 (ai @decide_true (ai @Bool.and_true (ai hk (ai (gdm hyp) (ai (gdm hy) (ai (gdm hq) (ai hdt hsn))))))))))
       refine zdMove q42 true 0 69 ?_;refine zdMove q42 true 1 70 ?_;refine zdSlice q42 true 2 71 ?_;refine zdMove q42 true 4 73 ?_;refine zdMove q42 false 7 76 ?_;refine zdMove q42 false 8 77 ?_;refine aAny_three 3 5 9 rfl rfl rfl (by kernel_rfl) ?_ ?_ ?_
       ·refine zsc (hcon) ⟨?_⟩
        refine aAny_two 5 9 rfl rfl (by kernel_rfl) ?_ ?_
        ·refine zsBuildSlice ⟨?_⟩
         refine aAny_two 6 9 rfl rfl (by kernel_rfl) ?_ ?_
         ·refine zsAppend ⟨?_⟩
          refine zdSlice q42 true 9 78 ?_;refine zoAppend 10 ⟨?_⟩;refine zoAssign 11 ⟨?_⟩;refine aAny_done (by kernel_rfl) ?_;refine k42 _ ?_;refine n12 _ ?_;refine n11 _ _ (weak_keep [1,8,9,10,17,18,19] _) ?_;refine zk ⟨?_⟩;refine yV ⟨?_⟩;refine n7 _ (i+1) ?_ ?_ ?_
          ·refine weak_bothS [1,8,9,10,17,18,19] [0,7,3] ⟨?_⟩
           rw [hst,if_pos hr1,isort_snoc,hend,←List.map_append,List.append_assoc]
           try rfl
          ·exact hlt
          ·show _ < _;omega
         ·refine zsSlice ⟨?_⟩
          refine zoAppend 6 ⟨?_⟩;refine zoAppend 10 ⟨?_⟩;refine zoAssign 11 ⟨?_⟩;refine aAny_done (by kernel_rfl) ?_;refine k42 _ ?_;refine n12 _ ?_;refine n11 _ _ (weak_keep [1,8,9,10,17,18,19] _) ?_;refine zk ⟨?_⟩;refine yV ⟨?_⟩;refine n7 _ (i+1) ?_ ?_ ?_
          ·refine weak_bothS [1,8,9,10,17,18,19] [0,7,3] ⟨?_⟩
           rw [hst,if_pos hr1,isort_snoc,hend,←List.map_append,List.append_assoc]
           try rfl
          ·exact hlt
          ·show _ < _;omega
        ·refine zsSlice ⟨?_⟩
         refine zoBuildSlice 5 ⟨?_⟩;refine zoAppend 6 ⟨?_⟩;refine zoAppend 10 ⟨?_⟩;refine zoAssign 11 ⟨?_⟩;refine aAny_done (by kernel_rfl) ?_;refine k42 _ ?_;refine n12 _ ?_;refine n11 _ _ (weak_keep [1,8,9,10,17,18,19] _) ?_;refine zk ⟨?_⟩;refine yV ⟨?_⟩;refine n7 _ (i+1) ?_ ?_ ?_
         ·refine weak_bothS [1,8,9,10,17,18,19] [0,7,3] ⟨?_⟩
          rw [hst,if_pos hr1,isort_snoc,hend,←List.map_append,List.append_assoc]
          try rfl
         ·exact hlt
         ·show _ < _;omega
       ·refine zsBuildSlice ⟨?_⟩
        refine aAny_two 3 9 rfl rfl (by kernel_rfl) ?_ ?_
        ·refine zsc (hcon) ⟨?_⟩
         refine aAny_two 6 9 rfl rfl (by kernel_rfl) ?_ ?_
         ·refine zsAppend ⟨?_⟩
          refine zdSlice q42 true 9 78 ?_;refine zoAppend 10 ⟨?_⟩;refine zoAssign 11 ⟨?_⟩;refine aAny_done (by kernel_rfl) ?_;refine k42 _ ?_;refine n12 _ ?_;refine n11 _ _ (weak_keep [1,8,9,10,17,18,19] _) ?_;refine zk ⟨?_⟩;refine yV ⟨?_⟩;refine n7 _ (i+1) ?_ ?_ ?_
          ·refine weak_bothS [1,8,9,10,17,18,19] [0,7,3] ⟨?_⟩
           rw [hst,if_pos hr1,isort_snoc,hend,←List.map_append,List.append_assoc]
           try rfl
          ·exact hlt
          ·show _ < _;omega
         ·refine zsSlice ⟨?_⟩
          refine zoAppend 6 ⟨?_⟩;refine zoAppend 10 ⟨?_⟩;refine zoAssign 11 ⟨?_⟩;refine aAny_done (by kernel_rfl) ?_;refine k42 _ ?_;refine n12 _ ?_;refine n11 _ _ (weak_keep [1,8,9,10,17,18,19] _) ?_;refine zk ⟨?_⟩;refine yV ⟨?_⟩;refine n7 _ (i+1) ?_ ?_ ?_
          ·refine weak_bothS [1,8,9,10,17,18,19] [0,7,3] ⟨?_⟩
           rw [hst,if_pos hr1,isort_snoc,hend,←List.map_append,List.append_assoc]
           try rfl
          ·exact hlt
          ·show _ < _;omega
        ·refine zsSlice ⟨?_⟩
         refine zoc 3 (hcon) ⟨?_⟩;refine zoAppend 6 ⟨?_⟩;refine zoAppend 10 ⟨?_⟩;refine zoAssign 11 ⟨?_⟩;refine aAny_done (by kernel_rfl) ?_;refine k42 _ ?_;refine n12 _ ?_;refine n11 _ _ (weak_keep [1,8,9,10,17,18,19] _) ?_;refine zk ⟨?_⟩;refine yV ⟨?_⟩;refine n7 _ (i+1) ?_ ?_ ?_
         ·refine weak_bothS [1,8,9,10,17,18,19] [0,7,3] ⟨?_⟩
          rw [hst,if_pos hr1,isort_snoc,hend,←List.map_append,List.append_assoc]
          try rfl
         ·exact hlt
         ·show _ < _;omega
       ·refine zsSlice ⟨?_⟩
        refine aAny_two 3 5 rfl rfl (by kernel_rfl) ?_ ?_
        ·refine zsc (hcon) ⟨?_⟩
         refine zoBuildSlice 5 ⟨?_⟩;refine zoAppend 6 ⟨?_⟩;refine zoAppend 10 ⟨?_⟩;refine zoAssign 11 ⟨?_⟩;refine aAny_done (by kernel_rfl) ?_;refine k42 _ ?_;refine n12 _ ?_;refine n11 _ _ (weak_keep [1,8,9,10,17,18,19] _) ?_;refine zk ⟨?_⟩;refine yV ⟨?_⟩;refine n7 _ (i+1) ?_ ?_ ?_
         ·refine weak_bothS [1,8,9,10,17,18,19] [0,7,3] ⟨?_⟩
          rw [hst,if_pos hr1,isort_snoc,hend,←List.map_append,List.append_assoc]
          try rfl
         ·exact hlt
         ·show _ < _;omega
        ·refine zsBuildSlice ⟨?_⟩
         refine zoc 3 (hcon) ⟨?_⟩;refine zoAppend 6 ⟨?_⟩;refine zoAppend 10 ⟨?_⟩;refine zoAssign 11 ⟨?_⟩;refine aAny_done (by kernel_rfl) ?_;refine k42 _ ?_;refine n12 _ ?_;refine n11 _ _ (weak_keep [1,8,9,10,17,18,19] _) ?_;refine zk ⟨?_⟩;refine yV ⟨?_⟩;refine n7 _ (i+1) ?_ ?_ ?_
         ·refine weak_bothS [1,8,9,10,17,18,19] [0,7,3] ⟨?_⟩
          rw [hst,if_pos hr1,isort_snoc,hend,←List.map_append,List.append_assoc]
          try rfl
         ·exact hlt
         ·show _ < _;omega
  ·intro hc0
   have hend:i=fl.length:=by omega
   subst hend
   refine zn [9,10] ⟨?_⟩;refine yR [6,7] ⟨?_⟩;refine zr ⟨?_⟩
   exact ret_gen [1,2] rfl rfl (by decide) rfl (by simp [readyL]) (by simp [Blk.kindIs]) rfl
def idxFromS (x:ByteArray):Nat→List ByteArray→Int
  | _,[]=>-1
  | i,y::l=>if x=y then i else idxFromS x (i+1) l
theorem idxS_step {x y:ByteArray} {l:List ByteArray} {i:Nat} (h:l[i]? =some y):idxFromS x i (l.drop i)=if x=y then (i:Int) else idxFromS x (i+1) (l.drop (i+1)):=by
  rw [getElem_drop_cons h,idxFromS]
theorem idxS_end {x:ByteArray} {l:List ByteArray} {i k:Nat} (h:l.length≤i):idxFromS x k (l.drop i)=-1:=by
  rw [List.drop_of_length_le h,idxFromS]
def inS (x:ByteArray) (l:List ByteArray):Bool:=l.any fun y=>decide (x=y)
theorem idxS_mem (x:ByteArray):∀(l:List ByteArray) (i:Nat),decide (0≤idxFromS x i l)=inS x l
  | [],i=>by rw [idxFromS];rfl
  | y::l,i=>by
    rw [idxFromS,inS,List.any_cons]
    split
    · rename_i h;simp [h]
    · rename_i h;rw [idxS_mem x l (i+1)];simp [h,inS]
theorem inS_step {x y:ByteArray} {l:List ByteArray} {i:Nat} (h:l[i]? =some y):inS x (l.drop i)=(decide (x=y) || inS x (l.drop (i+1))):=by
  rw [getElem_drop_cons h,inS,List.any_cons];rfl
theorem inS_end {x:ByteArray} {l:List ByteArray} {i:Nat} (h:l.length≤i):inS x (l.drop i)=false:=by
  rw [List.drop_of_length_le h];rfl
theorem slIndexS_con (l:List ByteArray) (x:ByteArray) (hl:l.length≤1048576):Con Tryz.prog 234 [.sl (l.map V.str),.str x] [] (.int .i64 (idxFromS x 0 l)) []:=by
 refine v_con [.tmp 4] [] Tryz.func234 rfl rfl rfl (by simp [Tryz.ntmps234]) ?_
 intro Q0 n0 r0
 simp only [Tryz.ntmps234,envFrom,Nat.reduceAdd]
 have T:=Tys.mk (ai Ty.t3 (ai Ty.t9 Ty.t51))
 have F:=Fc.mk True.intro
 refine yR [0,1] ⟨?_⟩;refine v_seq ?_;intros;refine yR [0,1,7,8] ⟨?_⟩;refine v_block ?_;intros;refine v_loop (fun i=>⟨[(0,.sl (l.map V.str)),(1,.str x),(7,.int .i64 l.length),(8,.int .i64 (Nat.cast i))],[],false,19,0⟩) (fun i=>i≤l.length∧idxFromS x i (l.drop i)=idxFromS x 0 l) (fun i=>l.length - i) 0 ?_ ?_ ?_
 ·refine weak_of [0,1,7,8] ?_
  simp only [keep_mk,keepE_nil,keepE_cons,look_cons,look_nil,Nat.reduceEqDiff,reduceIte]
  rfl
 ·exact ⟨Nat.zero_le _,rfl⟩
 ·rintro i hok5 Q5 n5 e5 r5
  obtain ⟨hi1,hR⟩:=hok5
  refine yR [0,1,7,8,9] ⟨?_⟩;refine v_seq ?_;intros;refine v_condS _ rfl ?_ ?_
  ·intro hc0
   have hlt:i < l.length:=by omega
   obtain ⟨y,hy⟩:∃y,l[i]? =some y:=⟨l[i],List.getElem?_eq_getElem hlt⟩
   have hst:=idxS_step (x:=x) hy
   refine zn [0,1,7,8] ⟨?_⟩;refine v_seq ?_;intros;refine v_block ?_;intros
   have F:=Fc.mk (gdm hy)
   refine yR [0,1,5,7,8] ⟨?_⟩;refine yR [0,1,5,7,8,16] ⟨?_⟩;refine v_condS _ rfl ?_ ?_
   ·intro hc1
    refine yR [4] ⟨?_⟩;refine zr ⟨?_⟩
    exact ret_pure rfl (by rw [←hR,hst,if_pos hc1]) (.inl rfl)
   ·intro hc1
    refine zn [0,1,7,8] ⟨?_⟩;refine yV ⟨?_⟩;refine n5 _ (i+1) ?_ ?_ ?_
    ·refine weak_bothS [0,1,7,8] [] ⟨?_⟩
     rfl
    ·exact ⟨by omega,by rw [←hR,hst,if_neg hc1]⟩
    ·show _ < _;omega
  ·intro hc0
   refine zn [] ⟨?_⟩;refine yR [4] ⟨?_⟩;refine zr ⟨?_⟩
   exact ret_pure rfl (by rw [←hR,idxS_end (by omega)]) (.inl rfl)
theorem slContainsS_con (l:List ByteArray) (x:ByteArray) (hl:l.length≤1048576):Con Tryz.prog 200 [.sl (l.map V.str),.str x] [] (.bool (inS x l)) []:=by
 refine v_con [.tmp 4] [] Tryz.func200 rfl rfl rfl (by simp [Tryz.ntmps200]) ?_
 intro Q0 n0 r0
 simp only [Tryz.ntmps200,envFrom,Nat.reduceAdd]
 have T:=Tys.mk (ai Ty.t3 (ai Ty.t9 Ty.t51))
 have F:=Fc.mk True.intro
 refine yR [0,1] ⟨?_⟩;refine yRc [4] (slIndexS_con l x hl) ⟨?_⟩;refine zr ⟨?_⟩
 exact ret_pure rfl (by congr 1;exact idxS_mem x l 0) (.inl rfl)
theorem dsHas_con (l:List ByteArray) (x:ByteArray) (hl:l.length≤1048576):Con Tryz.prog 58 [.sl (l.map V.str),.str x] [] (.bool (inS x l)) []:=by
 refine v_con [.tmp 4] [] Tryz.func58 rfl rfl rfl (by simp [Tryz.ntmps58]) ?_
 intro Q0 n0 r0
 simp only [Tryz.ntmps58,envFrom,Nat.reduceAdd]
 have T:=Tys.mk (ai Ty.t3 (ai Ty.t9 Ty.t51))
 have F:=Fc.mk True.intro
 refine yR [0,1] ⟨?_⟩;refine v_seq ?_;intros;refine yR [1,7,8,9] ⟨?_⟩;refine v_block ?_;intros;refine v_loop (fun i=>⟨[(1,.str x),(7,.sl (l.map V.str)),(8,.int .i64 l.length),(9,.int .i64 (Nat.cast i))],[],false,17,0⟩) (fun i=>i≤l.length∧inS x (l.drop i)=inS x l) (fun i=>l.length - i) 0 ?_ ?_ ?_
 ·refine weak_of [1,7,8,9] ?_
  simp only [keep_mk,keepE_nil,keepE_cons,look_cons,look_nil,Nat.reduceEqDiff,reduceIte]
  rfl
 ·exact ⟨Nat.zero_le _,rfl⟩
 ·rintro i hok5 Q5 n5 e5 r5
  obtain ⟨hi1,hR⟩:=hok5
  refine yR [1,7,8,9,10] ⟨?_⟩;refine v_seq ?_;intros;refine v_condS _ rfl ?_ ?_
  ·intro hc0
   have hlt:i < l.length:=by omega
   obtain ⟨y,hy⟩:∃y,l[i]? =some y:=⟨l[i],List.getElem?_eq_getElem hlt⟩
   have hst:=inS_step (x:=x) hy
   refine zn [1,7,8,9] ⟨?_⟩;refine v_seq ?_;intros;refine v_block ?_;intros
   have F:=Fc.mk (gdm hy)
   refine yR [1,6,7,8,9] ⟨?_⟩;refine yR [1,7,8,9,15] ⟨?_⟩;refine v_condS _ rfl ?_ ?_
   ·intro hc1
    refine yR [4] ⟨?_⟩;refine zr ⟨?_⟩
    exact ret_pure rfl (by rw [←hR,hst,decide_eq_true hc1.symm];rfl) (.inl rfl)
   ·intro hc1
    refine zn [1,7,8,9] ⟨?_⟩;refine yV ⟨?_⟩;refine n5 _ (i+1) ?_ ?_ ?_
    ·refine weak_bothS [1,7,8,9] [] ⟨?_⟩
     rfl
    ·exact ⟨by omega,by rw [←hR,hst,decide_eq_false (fun q=>hc1 q.symm)];rfl⟩
    ·show _ < _;omega
  ·intro hc0
   refine zn [] ⟨?_⟩;refine yR [4] ⟨?_⟩;refine zr ⟨?_⟩
   exact ret_pure rfl (by rw [←hR,inS_end (by omega)]) (.inl rfl)
theorem dsNames_con (l:List ByteArray) (hl:l.length≤1048576):Con Tryz.prog 229 [.sl (l.map V.str)] [] (.bool (chainAt (fun _:ByteArray=>true) strLt l 0)) []:=by
 refine v_con [.tmp 2] [] Tryz.func229 rfl rfl rfl (by simp [Tryz.ntmps229]) ?_
 intro Q0 n0 r0
 simp only [Tryz.ntmps229,envFrom,Nat.reduceAdd]
 have T:=Tys.mk (ai Ty.t3 (ai Ty.t9 Ty.t51))
 have F:=Fc.mk True.intro
 refine yR [0] ⟨?_⟩;refine v_seq ?_;intros;refine yR [0,5,6,7] ⟨?_⟩;refine v_block ?_;intros;refine v_loop (fun i=>⟨[(0,.sl (l.map V.str)),(5,.sl (l.map V.str)),(6,.int .i64 l.length),(7,.int .i64 (Nat.cast i))],[],false,24,0⟩) (fun i=>i≤l.length∧chainAt (fun _:ByteArray=>true) strLt l i=chainAt (fun _:ByteArray=>true) strLt l 0) (fun i=>l.length - i) 0 ?_ ?_ ?_
 ·refine weak_of [0,5,6,7] ?_
  simp only [keep_mk,keepE_nil,keepE_cons,look_cons,look_nil,Nat.reduceEqDiff,reduceIte]
  rfl
 ·exact ⟨Nat.zero_le _,rfl⟩
 ·rintro i hok5 Q5 n5 e5 r5
  obtain ⟨hi1,hR⟩:=hok5
  refine yR [0,5,6,7,8] ⟨?_⟩;refine v_seq ?_;intros;refine v_condS _ rfl ?_ ?_
  ·intro hc0
   have hlt:i < l.length:=by omega
   obtain ⟨x,hx⟩:∃x,l[i]? =some x:=⟨l[i],List.getElem?_eq_getElem hlt⟩
   rcases Nat.eq_zero_or_pos i with h0 | h0
   ·skip
    have hi0:¬((0:Int) < (i:Int)):=by omega
    have hst:chainAt (fun _:ByteArray=>true) strLt l i=chainAt (fun _:ByteArray=>true) strLt l (i+1):=by have q:=chain_zero (ok:=(fun _:ByteArray=>true)) (bf:=strLt) (l:=l) (x:=x) (by subst h0;exact hx);subst h0;simpa using q
    refine zn [0,5,6,7] ⟨?_⟩;refine v_seq ?_;intros;refine v_block ?_;intros
    have F:=Fc.mk (ai (gdm hx) (ai hi0 (ai @decide_false @Bool.and_false)))
    refine yR [0,3,4,5,6,7] ⟨?_⟩;refine yR [0,5,6,7,22] ⟨?_⟩;refine v_cond _ rfl ?_ ?_
    ·intro hc1
     exfalso;simp at hc1
    ·intro hc1
     try simp only [zC,reduceCtorEq] at hc1
     refine zn [0,5,6,7] ⟨?_⟩;refine yV ⟨?_⟩;refine n5 _ (i+1) ?_ ?_ ?_
     ·refine weak_bothS [0,5,6,7] [] ⟨?_⟩
      rfl
     ·exact ⟨by omega,by first | (rw [←hR,hst];done) | (rw [←hR,hst];(try simp at hc1);first | (simp [hc1];done) | (simp;done) | rfl)⟩
     ·show _ < _;omega
   ·skip
    obtain ⟨y,hy⟩:∃y,l[i - 1]? =some y:=⟨_,List.getElem?_eq_getElem (by omega)⟩
    have hi0:(0:Int) < i:=by omega
    have hk:((i:Int) - 1).toNat=i - 1:=by omega
    have hst:=chain_succ (ok:=(fun _:ByteArray=>true)) (bf:=strLt) h0 hy hx
    refine zn [0,5,6,7] ⟨?_⟩;refine v_seq ?_;intros;refine v_block ?_;intros
    have F:=Fc.mk (ai (gdm hx) (ai hi0 (ai hk (ai (gdm hy) (ai @decide_true @Bool.and_true)))))
    refine yR [0,3,4,5,6,7] ⟨?_⟩;refine yR [0,5,6,7,22] ⟨?_⟩;refine v_condS _ rfl ?_ ?_
    ·intro hc1
     refine yR [2] ⟨?_⟩;refine zr ⟨?_⟩
     exact ret_pure rfl (by rw [←hR,hst];(try simp at hc1);simp [hc1]) (.inl rfl)
    ·intro hc1
     refine zn [0,5,6,7] ⟨?_⟩;refine yV ⟨?_⟩;refine n5 _ (i+1) ?_ ?_ ?_
     ·refine weak_bothS [0,5,6,7] [] ⟨?_⟩
      rfl
     ·exact ⟨by omega,by first | (rw [←hR,hst];done) | (rw [←hR,hst];(try simp at hc1);first | (simp [hc1];done) | (simp;done) | rfl)⟩
     ·show _ < _;omega
  ·intro hc0
   refine zn [] ⟨?_⟩;refine yR [2] ⟨?_⟩;refine zr ⟨?_⟩
   exact ret_pure rfl (by rw [←hR,chain_end (by omega)]) (.inl rfl)
theorem findA_cases (fl:List TA) (s:ByteArray):findA fl s=-1∨∃(k:Nat) (x:TA),findA fl s=(k:Int)∧fl[k]? =some x∧x.1=s:=by
  by_cases h:findA fl s=-1
  · exact .inl h
  · obtain ⟨k,h1,h2,_,x,h4,h5⟩:=first_some h
    exact .inr ⟨k,x,by rw [findA,h2,Nat.zero_add],h4,by simpa using h5⟩
def need4 (l:List Int):Bool:=decide ((l.length:Int)=4) && l.all (fun x:Int=>inR x 0 6)
theorem need4_facts {l:List Int} (h:need4 l=true):l.length=4∧∀x∈l,0≤x∧x≤6:=by
  simp only [need4,Bool.and_eq_true,decide_eq_true_eq,List.all_eq_true,inR] at h
  exact ⟨by omega,h.2⟩
theorem isNeed_con (l:List Int) (hl:l.length≤1048576):Con Tryz.prog 136 [.sl (l.map (V.int .i64))] [] (.bool (need4 l)) []:=by
 refine v_con [.tmp 2] [] Tryz.func136 rfl rfl rfl (by simp [Tryz.ntmps136]) ?_
 intro Q0 n0 r0
 simp only [Tryz.ntmps136,envFrom,Nat.reduceAdd]
 have T:=Tys.mk (ai Ty.t3 (ai Ty.t4 Ty.t75))
 have F:=Fc.mk True.intro
 refine yR [0] ⟨?_⟩;refine v_seq ?_;intros;refine yR [0,5,6,7] ⟨?_⟩;refine v_block ?_;intros;refine v_loop (fun i=>⟨[(0,.sl (l.map (V.int .i64))),(5,.sl (l.map (V.int .i64))),(6,.int .i64 l.length),(7,.int .i64 (Nat.cast i))],[],false,18,0⟩) (fun i=>i≤l.length∧(l.drop i).all (fun x:Int=>inR x 0 6)=l.all (fun x:Int=>inR x 0 6)) (fun i=>l.length - i) 0 ?_ ?_ ?_
 ·refine weak_of [0,5,6,7] ?_
  simp only [keep_mk,keepE_nil,keepE_cons,look_cons,look_nil,Nat.reduceEqDiff,reduceIte]
  rfl
 ·exact ⟨Nat.zero_le _,rfl⟩
 ·rintro i hok5 Q5 n5 e5 r5
  obtain ⟨hi1,hR⟩:=hok5
  refine yR [0,5,6,7,8] ⟨?_⟩;refine v_seq ?_;intros;refine v_condS _ rfl ?_ ?_
  ·intro hc0
   have hlt:i < l.length:=by omega
   obtain ⟨x,hx⟩:∃x,l[i]? =some x:=⟨_,List.getElem?_eq_getElem hlt⟩
   have hst:=all_step (p:=(fun x:Int=>inR x 0 6)) hx
   refine zn [0,5,6,7] ⟨?_⟩;refine v_seq ?_;intros;refine v_block ?_;intros
   have F:=Fc.mk (gdm hx)
   refine yR [0,4,5,6,7] ⟨?_⟩;refine yRc [0,5,6,7,13] (inside_con _ _ _) ⟨?_⟩;refine v_condS _ rfl ?_ ?_
   ·intro hc1
    refine yR [2] ⟨?_⟩;refine zr ⟨?_⟩
    exact ret_pure rfl (by rw [need4,←hR,hst];(try simp at hc1);simp [inR];intros;omega) (.inl rfl)
   ·intro hc1
    refine zn [0,5,6,7] ⟨?_⟩;refine yV ⟨?_⟩;refine n5 _ (i+1) ?_ ?_ ?_
    ·refine weak_bothS [0,5,6,7] [] ⟨?_⟩
     rfl
    ·exact ⟨by omega,by rw [←hR,hst];(try simp at hc1);simp [inR];intros;omega⟩
    ·show _ < _;omega
  ·intro hc0
   refine zn [0] ⟨?_⟩;refine yR [2] ⟨?_⟩;refine zr ⟨?_⟩
   exact ret_pure rfl (by rw [need4,←hR,all_end (by omega)];simp) (.inl rfl)
theorem tbNeed_con (l:List Int) (hl:l.length≤1048576):Con Tryz.prog 191 [.sl (l.map (V.int .i64))] [] (.bool (need4 l)) []:=by
 refine v_con [.tmp 2] [] Tryz.func191 rfl rfl rfl (by simp [Tryz.ntmps191]) ?_
 intro Q0 n0 r0
 simp only [Tryz.ntmps191,envFrom,Nat.reduceAdd]
 have T:=Tys.mk (ai Ty.t3 (ai Ty.t4 Ty.t75))
 have F:=Fc.mk True.intro
 refine yR [0] ⟨?_⟩;refine yRg [2] (l1All_con l 0 6 hl) ⟨?_⟩;refine zr ⟨?_⟩
 exact ret_pure rfl (by simp [need4,inR]) (.inl rfl)
theorem cloneInt_con (l:List Int) (hl:l.length≤1048576):Con Tryz.prog 141 [.sl (l.map (V.int .i64))] [] (.ref 0) [.arr (l.map (V.int .i64)) .flat]:=by
 have hns:(l.map (V.int .i64)).all V.noSl=true:=by rw [List.all_map,List.all_eq_true];intro a _;rfl
 refine v_con [.tmp 2] [] Tryz.func141 rfl rfl rfl (by simp [Tryz.ntmps141]) ?_
 intro Q0 n0 r0
 simp only [Tryz.ntmps141,envFrom,Nat.reduceAdd]
 have T:=Tys.mk (ai Ty.t3 Ty.t75)
 have F:=Fc.mk True.intro
 have F:=Fc.mk hns
 refine yR [0] ⟨?_⟩;refine v_seq ?_;intros;refine v_seqR [0,4] ?_;intro K3 k3;refine zMove ⟨?_⟩;refine zNil ⟨?_⟩
 intro nb4 hnb4
 refine k3 _ ?_;refine zk ⟨?_⟩;refine v_condS _ rfl ?_ ?_
 ·intro hc0
  have hnil:l=[]:=by cases l with | nil=>rfl | cons a b=>have:=hnb4 (by simp);rw [hc0] at this;cases this
  refine yR [2] ⟨?_⟩;refine zr ⟨?_⟩
  rw [hnil];exact ret_refK rfl rfl rfl
 ·intro hc0
  refine zn [0] ⟨?_⟩;refine yR [2] ⟨?_⟩;refine zr ⟨?_⟩
  exact ret_refK rfl rfl (by simp)
theorem pickF_is {fl:List TA} {s:List Int×List Int} {k kd:Nat} {x:TA} {v:Int} (hx:fl[k]? =some x) (hk:x.2.1=(kd:Int)) (hv:s.1[kd]? =some v):pickF fl s (k:Int)=if 0 < v then (s.1.set kd (v - 1),s.2++[(k:Int)]) else s:=by
  rw [pickF,Int.toNat_natCast,hx]
  simp only [hk,Int.toNat_natCast,List.getD_eq_getElem?_getD,hv,Option.getD_some]
def choiceL (n:Int) (ss:List TS) (fl:List TA) (node:Int) (need:List Int):List Int×List Int:=pickL fl (readyL fl (tmL n ss node)) need
set_option maxRecDepth 8000 in
theorem choose_con (n:Int) (ss:List TS) (fl:List TA) (node:Int) (need:List Int) (hd:DsFacts n ss fl) (hu:0≤node∧node < n) (hn:need.length=4∧∀x∈need,0≤x∧x≤6):Con Tryz.prog 158 [.pv [.agg [.int .i64 n,.sl (ss.map (fun t:TS=>V.agg [V.int .i64 t.1,V.int .i64 t.2.1,V.int .i64 t.2.2]))]] 0 0,.sl (fl.map (fun t:TA=>V.agg [V.str t.1,V.int .i64 t.2.1,V.int .i64 t.2.2.1,V.int .i64 t.2.2.2.1,V.int .i64 t.2.2.2.2])),.int .i64 node,.sl (need.map (V.int .i64))] [] (.ref 0) [.arr ((choiceL n ss fl node need).2.map (V.int .i64)) .flat]:=by
 have hfl:=hd.hfl
 obtain ⟨ts,hts⟩:∃ts,ts=tmL n ss node:=⟨_,rfl⟩
 have htl:ts.length=n.toNat:=by rw [hts,times_len]
 have htb:=tm_facts hd.hn hu hd.hss hd.hsl
 rw [←hts] at htb
 have hn14:=hd.hn
 obtain ⟨rl,hrl⟩:∃rl,rl=readyL fl ts:=⟨_,rfl⟩
 have hrn:rl.length≤fl.length:=by rw [hrl];exact readyL_len fl ts
 rw [choiceL,←hts,←hrl]
 have hval:∀{y:Int},y∈rl→∃(k:Nat) (x:TA) (w:Nat),y=(k:Int)∧fl[k]? =some x∧x.2.2.1=(w:Int)∧w < ts.length:=by
  intro y hy
  rw [hrl] at hy
  obtain ⟨k,x,h1,h2,h3,_⟩:=readyL_mem hy
  have hap:=hd.hap _ (List.mem_of_getElem? h3)
  obtain ⟨w,hw⟩:=Int.eq_ofNat_of_zero_le hap.2.1
  exact ⟨k,x,w,h1,h3,hw,by rw [htl];omega⟩
 refine v_con [.tmp 8] [] Tryz.func158 rfl rfl rfl (by simp [Tryz.ntmps158]) ?_
 intro Q0 n0 r0
 simp only [Tryz.ntmps158,envFrom,Nat.reduceAdd]
 have T:=Tys.mk (ai Ty.t3 (ai Ty.t9 (ai Ty.t32 (ai Ty.t39 (ai Ty.t41 (ai Ty.t75 (ai Ty.t96 (ai Ty.t108 Ty.t169))))))))
 have F:=Fc.mk True.intro
 refine yR [0,1,2,3] ⟨?_⟩;refine yRc [0,1,2,9] (cloneInt_con need (by omega)) ⟨?_⟩;refine yR [0,1,2,9,10] ⟨?_⟩;refine v_seq ?_;intros;refine yRc [1,9,10,18,19,20] ((hrl ▸ hts ▸ readyOrder_con n ss fl node hd hu:Con _ _ _ _ _ [.arr (rl.map (V.int .i64)) .flat])) ⟨?_⟩;refine v_block ?_;intros;refine v_loop (fun i=>⟨[(1,.sl (fl.map (fun t:TA=>V.agg [V.str t.1,V.int .i64 t.2.1,V.int .i64 t.2.2.1,V.int .i64 t.2.2.2.1,V.int .i64 t.2.2.2.2]))),(9,.ref 0),(10,.ref 1),(18,.ref 2),(19,.int .i64 rl.length),(20,.int .i64 (Nat.cast i))],[.arr ((pickL fl (rl.take i) need).1.map (V.int .i64)) .flat,.arr ((pickL fl (rl.take i) need).2.map (V.int .i64)) .flat,.arr (rl.map (V.int .i64)) .flat],false,49,0⟩) (fun i=>i≤rl.length) (fun i=>rl.length - i) 0 ?_ ?_ ?_
 ·refine weak_bothS [1,9,10,18,19,20] [1,2,3] ⟨?_⟩
  rfl
 ·exact Nat.zero_le _
 ·rintro i hok7 Q7 n7 e7 r7
  have hi1:i≤rl.length:=hok7
  refine yR [1,9,10,18,19,20,21] ⟨?_⟩;refine v_seq ?_;intros;refine v_condS _ rfl ?_ ?_
  ·intro hc0
   have hlt:i < rl.length:=by omega
   obtain ⟨y,hy⟩:∃y,rl[i]? =some y:=⟨_,List.getElem?_eq_getElem hlt⟩
   have hv:=hval (List.mem_of_getElem? hy)
   have hst:=pick_step (fl:=fl) (need:=need) hy
   obtain ⟨k,⟨x0,x1,x2,x3,x4⟩,w,rfl,hx,hvw,hvl⟩:=hv
   simp only [] at hvw
   subst hvw
   obtain ⟨p,hp⟩:∃p,ts[w]? =some p:=⟨_,List.getElem?_eq_getElem hvl⟩
   have hkl:k < fl.length:=(List.getElem?_eq_some_iff.1 hx).1
   have ek:=key_is (ts:=ts) hx rfl hp
   have hap:=hd.hap _ (List.mem_of_getElem? hx)
   simp only [] at hap
   obtain ⟨kd,hkd⟩:=Int.eq_ofNat_of_zero_le hap.1.1
   subst hkd
   have hpk:=pick_facts (fl:=fl) hn (rl.take i)
   have hll:=hpk.1
   have hol:=hpk.2.2.1
   have hlt2:(rl.take i).length≤i:=List.length_take_le ..
   obtain ⟨v,hv⟩:∃v,(pickL fl (rl.take i) need).1[kd]? =some v:=⟨_,List.getElem?_eq_getElem (by omega)⟩
   have hvb:=hpk.2.1 v (List.mem_of_getElem? hv)
   have hpf:=pickF_is (s:=(pickL fl (rl.take i) need)) hx rfl hv
   refine zn [1,9,10,18,19,20] ⟨?_⟩;refine v_seq ?_;intros;refine v_block ?_;intros
   have F:=Fc.mk (ai (gdm hx) (ai (gdm hy) (ai (gdm hv) (ai hll @set_map))))
   refine yR [1,9,10,12,18,19,20] ⟨?_⟩;refine yR [1,9,10,12,18,19,20,32] ⟨?_⟩;refine v_condS _ rfl ?_ ?_
   ·intro hc1
    refine yR [1,9,10,12,18,19,20] ⟨?_⟩;refine yQ [1,9,10,18,19,20] ⟨?_⟩;refine yV ⟨?_⟩;refine n7 _ (i+1) ?_ ?_ ?_
    ·refine weak_bothS [1,9,10,18,19,20] [0,4,2] ⟨?_⟩
     rw [hst,hpf,if_pos hc1,List.map_append];rfl
    ·exact hlt
    ·show _ < _;omega
   ·intro hc1
    refine zn [1,9,10,18,19,20] ⟨?_⟩;refine yV ⟨?_⟩;refine n7 _ (i+1) ?_ ?_ ?_
    ·refine weak_bothS [1,9,10,18,19,20] [0,1,2] ⟨?_⟩
     rw [hst,hpf,if_neg (by omega)];rfl
    ·exact hlt
    ·show _ < _;omega
  ·intro hc0
   have hend:i=rl.length:=by omega
   subst hend
   refine zn [10] ⟨?_⟩;refine yR [8] ⟨?_⟩;refine zr ⟨?_⟩
   exact ret_refK rfl rfl (by rw [List.take_length])
set_option maxRecDepth 8000 in
theorem dsPick_con (n:Int) (ss:List TS) (fl:List TA) (node:Int) (need:List Int) (hd:DsFacts n ss fl) (hu:0≤node∧node < n) (hn:need.length=4∧∀x∈need,0≤x∧x≤6):Con Tryz.prog 154 [.agg [.int .i64 n,.sl (ss.map (fun t:TS=>V.agg [V.int .i64 t.1,V.int .i64 t.2.1,V.int .i64 t.2.2]))],.sl (fl.map (fun t:TA=>V.agg [V.str t.1,V.int .i64 t.2.1,V.int .i64 t.2.2.1,V.int .i64 t.2.2.2.1,V.int .i64 t.2.2.2.2])),.int .i64 node,.sl (need.map (V.int .i64))] [] (.tup [.ref 0,.ref 1,.ref 2]) [.arr ((choiceL n ss fl node need).2.map (V.int .i64)) .flat,.arr ((choiceL n ss fl node need).1.map (V.int .i64)) .flat,.arr ((allT fl (tmL n ss node)).map (V.int .i64)) .flat]:=by
 have hfl:=hd.hfl
 obtain ⟨ts,hts⟩:∃ts,ts=tmL n ss node:=⟨_,rfl⟩
 have htl:ts.length=n.toNat:=by rw [hts,times_len]
 have htb:=tm_facts hd.hn hu hd.hss hd.hsl
 rw [←hts] at htb
 have hn14:=hd.hn
 obtain ⟨rl,hrl⟩:∃rl,rl=readyL fl ts:=⟨_,rfl⟩
 have hrn:rl.length≤fl.length:=by rw [hrl];exact readyL_len fl ts
 rw [choiceL,←hts,←hrl]
 have hval:∀{y:Int},y∈rl→∃(k:Nat) (x:TA) (w:Nat),y=(k:Int)∧fl[k]? =some x∧x.2.2.1=(w:Int)∧w < ts.length:=by
  intro y hy
  rw [hrl] at hy
  obtain ⟨k,x,h1,h2,h3,_⟩:=readyL_mem hy
  have hap:=hd.hap _ (List.mem_of_getElem? h3)
  obtain ⟨w,hw⟩:=Int.eq_ofNat_of_zero_le hap.2.1
  exact ⟨k,x,w,h1,h3,hw,by rw [htl];omega⟩
 refine v_con [.tmp 8,.tmp 9,.tmp 10] [] Tryz.func154 rfl rfl rfl (by simp [Tryz.ntmps154]) ?_
 intro Q0 n0 r0
 simp only [Tryz.ntmps154,envFrom,Nat.reduceAdd]
 have T:=Tys.mk (ai Ty.t3 (ai Ty.t9 (ai Ty.t32 (ai Ty.t39 (ai Ty.t41 (ai Ty.t75 (ai Ty.t96 Ty.t169)))))))
 have F:=Fc.mk True.intro
 refine yR [1,2,3,4] ⟨?_⟩;refine yRc [1,3,11,12] ((hrl ▸ hts ▸ dsReady_con n ss fl node hd hu:Con _ _ _ _ _ [.arr (rl.map (V.int .i64)) .flat,.arr ((allT fl ts).map (V.int .i64)) .flat])) ⟨?_⟩;refine yRc [1,11,12,13] (l1Own_con need (by omega)) ⟨?_⟩;refine yR [1,11,12,13,14] ⟨?_⟩;refine v_seq ?_;intros;refine yR [1,12,13,14,26,27,28] ⟨?_⟩;refine v_block ?_;intros;refine v_loop (fun i=>⟨[(1,.sl (fl.map (fun t:TA=>V.agg [V.str t.1,V.int .i64 t.2.1,V.int .i64 t.2.2.1,V.int .i64 t.2.2.2.1,V.int .i64 t.2.2.2.2]))),(12,.ref 1),(13,.ref 2),(14,.ref 3),(26,.ref 0),(27,.int .i64 rl.length),(28,.int .i64 (Nat.cast i))],[.arr (rl.map (V.int .i64)) .flat,.arr ((allT fl ts).map (V.int .i64)) .flat,.arr ((pickL fl (rl.take i) need).1.map (V.int .i64)) .flat,.arr ((pickL fl (rl.take i) need).2.map (V.int .i64)) .flat],false,59,0⟩) (fun i=>i≤rl.length) (fun i=>rl.length - i) 0 ?_ ?_ ?_
 ·refine weak_bothS [1,12,13,14,26,27,28] [4,5,6,7] ⟨?_⟩
  rfl
 ·exact Nat.zero_le _
 ·rintro i hok8 Q8 n8 e8 r8
  have hi1:i≤rl.length:=hok8
  refine yR [1,12,13,14,26,27,28,29] ⟨?_⟩;refine v_seq ?_;intros;refine v_condS _ rfl ?_ ?_
  ·intro hc0
   have hlt:i < rl.length:=by omega
   obtain ⟨y,hy⟩:∃y,rl[i]? =some y:=⟨_,List.getElem?_eq_getElem hlt⟩
   have hv:=hval (List.mem_of_getElem? hy)
   have hst:=pick_step (fl:=fl) (need:=need) hy
   obtain ⟨k,⟨x0,x1,x2,x3,x4⟩,w,rfl,hx,hvw,hvl⟩:=hv
   simp only [] at hvw
   subst hvw
   obtain ⟨p,hp⟩:∃p,ts[w]? =some p:=⟨_,List.getElem?_eq_getElem hvl⟩
   have hkl:k < fl.length:=(List.getElem?_eq_some_iff.1 hx).1
   have ek:=key_is (ts:=ts) hx rfl hp
   have hap:=hd.hap _ (List.mem_of_getElem? hx)
   simp only [] at hap
   obtain ⟨kd,hkd⟩:=Int.eq_ofNat_of_zero_le hap.1.1
   subst hkd
   have hpk:=pick_facts (fl:=fl) hn (rl.take i)
   have hll:=hpk.1
   have hol:=hpk.2.2.1
   have hlt2:(rl.take i).length≤i:=List.length_take_le ..
   obtain ⟨v,hv⟩:∃v,(pickL fl (rl.take i) need).1[kd]? =some v:=⟨_,List.getElem?_eq_getElem (by omega)⟩
   have hvb:=hpk.2.1 v (List.mem_of_getElem? hv)
   have hpf:=pickF_is (s:=(pickL fl (rl.take i) need)) hx rfl hv
   refine zn [1,12,13,14,26,27,28] ⟨?_⟩;refine v_seq ?_;intros;refine v_block ?_;intros
   have F:=Fc.mk (ai (gdm hx) (ai (gdm hy) (ai (gdm hv) (ai hll @set_map))))
   refine yR [1,12,13,14,16,26,27,28] ⟨?_⟩;refine yR [1,12,13,14,16,26,27,28,40] ⟨?_⟩;refine v_condS _ rfl ?_ ?_
   ·intro hc1
    refine yR [1,12,13,14,16,26,27,28] ⟨?_⟩;refine yQ [1,12,13,14,26,27,28] ⟨?_⟩;refine yV ⟨?_⟩;refine n8 _ (i+1) ?_ ?_ ?_
    ·refine weak_bothS [1,12,13,14,26,27,28] [0,1,2,5] ⟨?_⟩
     rw [hst,hpf,if_pos hc1,List.map_append];rfl
    ·exact hlt
    ·show _ < _;omega
   ·intro hc1
    refine zn [1,12,13,14,26,27,28] ⟨?_⟩;refine yV ⟨?_⟩;refine n8 _ (i+1) ?_ ?_ ?_
    ·refine weak_bothS [1,12,13,14,26,27,28] [0,1,2,3] ⟨?_⟩
     rw [hst,hpf,if_neg (by omega)];rfl
    ·exact hlt
    ·show _ < _;omega
  ·intro hc0
   have hend:i=rl.length:=by omega
   subst hend
   refine zn [12,13,14] ⟨?_⟩;refine yR [8,9,10] ⟨?_⟩;refine zr ⟨?_⟩
   exact ret_gen [3,2,1] rfl rfl (by decide) rfl (by simp) (by simp [Blk.kindIs]) rfl
def calledA (a:TA):TA:=(a.1,a.2.1,a.2.2.1,a.2.2.2.1,1)
def calledTo (fl:List TA) (order:List Int):Nat→List TA
  | 0=>[]
  | m+1=>calledTo fl order m++(match fl[m]? with | some a=>[if (m:Int)∈order then calledA a else a] | none=>[])
theorem called_len (fl:List TA) (order:List Int):∀m,m≤fl.length→(calledTo fl order m).length=m
  | 0,_=>rfl
  | m+1,h=>by
    have:=called_len fl order m (by omega)
    rw [calledTo,List.getElem?_eq_getElem (by omega:m < fl.length)]
    simp [this]
theorem called_yes {fl:List TA} {order:List Int} {i:Nat} {x:TA} (h:fl[i]? =some x) (ho:(i:Int)∈order):(calledTo fl order i++fl.drop i).set i (calledA x)=calledTo fl order (i+1)++fl.drop (i+1):=by
  have hi:i < fl.length:=(List.getElem?_eq_some_iff.1 h).1
  have hl:=called_len fl order i (by omega)
  rw [getElem_drop_cons h,List.set_append_right _ _ (by omega),hl,Nat.sub_self,List.set_cons_zero,calledTo,h]
  simp [ho]
theorem called_no {fl:List TA} {order:List Int} {i:Nat} {x:TA} (h:fl[i]? =some x) (ho:¬(i:Int)∈order):calledTo fl order i++fl.drop i=calledTo fl order (i+1)++fl.drop (i+1):=by
  rw [getElem_drop_cons h,calledTo,h]
  simp [ho]
theorem called_get {fl:List TA} {order:List Int} {i:Nat} {x:TA} (h:fl[i]? =some x):(calledTo fl order i++fl.drop i)[i]? =some x:=by
  have hi:i < fl.length:=(List.getElem?_eq_some_iff.1 h).1
  have hl:=called_len fl order i (by omega)
  rw [List.getElem?_append_right (by omega),hl,Nat.sub_self,getElem_drop_cons h];rfl
theorem called_all {fl:List TA} {order:List Int} {i:Nat} (h:i≤fl.length):(calledTo fl order i++fl.drop i).length=fl.length:=by
  rw [List.length_append,called_len fl order i h,List.length_drop];omega
theorem sent_len (fl:List TA) (order:List Int):∀m,(sentTo fl order m).length≤m
  | 0=>Nat.le_refl _
  | m+1=>by
    have:=sent_len fl order m
    rw [sentTo,List.length_append]
    split
    · split<;>simp<;>omega
    · simp;omega
set_option maxRecDepth 8000 in
theorem dsSend_con (fl:List TA) (order:List Int) (hl:fl.length≤1048576) (ho:order.length≤1048576):Con Tryz.prog 155 [.sl (fl.map (fun t:TA=>V.agg [V.str t.1,V.int .i64 t.2.1,V.int .i64 t.2.2.1,V.int .i64 t.2.2.2.1,V.int .i64 t.2.2.2.2])),.sl (order.map (V.int .i64))] [] (.tup [.ref 0,.ref 1]) [.arr ((calledTo fl order fl.length).map (fun t:TA=>V.agg [V.str t.1,V.int .i64 t.2.1,V.int .i64 t.2.2.1,V.int .i64 t.2.2.2.1,V.int .i64 t.2.2.2.2])) .flat,.arr ((sentTo fl order fl.length).map V.str) .flat]:=by
 have hns:(fl.map (fun t:TA=>V.agg [V.str t.1,V.int .i64 t.2.1,V.int .i64 t.2.2.1,V.int .i64 t.2.2.2.1,V.int .i64 t.2.2.2.2])).all V.noSl=true:=by rw [List.all_map,List.all_eq_true];intro a _;rfl
 refine v_con [.tmp 4,.tmp 5] [] Tryz.func155 rfl rfl rfl (by simp [Tryz.ntmps155]) ?_
 intro Q0 n0 r0
 simp only [Tryz.ntmps155,envFrom,Nat.reduceAdd]
 have T:=Tys.mk (ai Ty.t3 (ai Ty.t4 (ai Ty.t9 (ai Ty.t32 (ai Ty.t51 (ai Ty.t75 Ty.t96))))))
 have F:=Fc.mk True.intro
 have F:=Fc.mk hns
 refine yR [0,1] ⟨?_⟩;refine yR [0,1,6] ⟨?_⟩;refine yR [0,1,6,7] ⟨?_⟩;refine v_seq ?_;intros;refine yR [1,6,7,13,14,15] ⟨?_⟩;refine v_block ?_;intros;refine v_loop (fun i=>⟨[(1,.sl (order.map (V.int .i64))),(6,.ref 0),(7,.ref 1),(13,.sl (fl.map (fun t:TA=>V.agg [V.str t.1,V.int .i64 t.2.1,V.int .i64 t.2.2.1,V.int .i64 t.2.2.2.1,V.int .i64 t.2.2.2.2]))),(14,.int .i64 fl.length),(15,.int .i64 (Nat.cast i))],[.arr ((calledTo fl order i++fl.drop i).map (fun t:TA=>V.agg [V.str t.1,V.int .i64 t.2.1,V.int .i64 t.2.2.1,V.int .i64 t.2.2.2.1,V.int .i64 t.2.2.2.2])) .flat,.arr ((sentTo fl order i).map V.str) .flat],false,36,0⟩) (fun i=>i≤fl.length) (fun i=>fl.length - i) 0 ?_ ?_ ?_
 ·refine weak_bothS [1,6,7,13,14,15] [3,4] ⟨?_⟩
  simp [calledTo,sentTo]
 ·exact Nat.zero_le _
 ·rintro i hok7 Q7 n7 e7 r7
  have hi1:i≤fl.length:=hok7
  refine yR [1,6,7,13,14,15,16] ⟨?_⟩;refine v_seq ?_;intros;refine v_condS _ rfl ?_ ?_
  ·intro hc0
   have hlt:i < fl.length:=by omega
   obtain ⟨⟨x0,x1,x2,x3,x4⟩,hx⟩:∃x:TA,fl[i]? =some x:=⟨fl[i]'(by omega),List.getElem?_eq_getElem (by omega)⟩
   have hst:=sent_step (order:=order) hx
   have hsl:=sent_len fl order i
   have hcg:=called_get (order:=order) hx
   have hca:=called_all (fl:=fl) (order:=order) hi1
   have hsm:((calledTo fl order i++fl.drop i).map (fun t:TA=>V.agg [V.str t.1,V.int .i64 t.2.1,V.int .i64 t.2.2.1,V.int .i64 t.2.2.2.1,V.int .i64 t.2.2.2.2])).set i (V.agg [V.str x0,V.int .i64 x1,V.int .i64 x2,V.int .i64 x3,V.int .i64 1])=((calledTo fl order i++fl.drop i).set i (calledA (x0,x1,x2,x3,x4))).map (fun t:TA=>V.agg [V.str t.1,V.int .i64 t.2.1,V.int .i64 t.2.2.1,V.int .i64 t.2.2.2.1,V.int .i64 t.2.2.2.2]):=by have q:=List.map_set (f:=(fun t:TA=>V.agg [V.str t.1,V.int .i64 t.2.1,V.int .i64 t.2.2.1,V.int .i64 t.2.2.2.1,V.int .i64 t.2.2.2.2])) (l:=(calledTo fl order i++fl.drop i)) (i:=i) (a:=calledA (x0,x1,x2,x3,x4));exact q.symm
   refine zn [1,6,7,13,14,15] ⟨?_⟩;refine v_seq ?_;intros;refine v_block ?_;intros;refine v_seqR [1,6,7,8,9,13,14,15] ?_;intro K13 k13
   have F:=Fc.mk (ai hns (ai (gdm hx) (ai (gdm hcg) (ai hca hsm))))
   refine zMove ⟨?_⟩;refine zIndexAddr ⟨?_⟩;refine zLoad ⟨?_⟩;refine zAlloc ⟨?_⟩;refine zAssign ⟨?_⟩;refine v_op ?_;intro K k
   simp only [zE,zS,zJ,zL,zO,zN,aStepM,optable,set_some,Nat.reduceEqDiff,reduceIte,Nat.reduceLT,implies_true,forall_const,reduceCtorEq,V.ofValue,V.ofScalar,V.un,V.gd,aExec,aop,aStore,setCells,V.isVal,V.cells,kindOf,kindAll,V.noSl,V.noRef,gt_iff_lt,Nat.reduceAdd,Nat.reduceLeDiff,Nat.reduceMul,takeV,takeCell,takeCells,row_mk,Blk.row,killAll,Nat.reduceBEq,join_t,Tryz.underlying3,Ty.c3,Ty.a3,Tryz.underlying9,Ty.c9,Ty.a9,Tryz.underlying96,Ty.c96,Ty.a96,hns,getD_map hx,getD_map hcg,hca,hsm]
   repeat (refine ai (by first | omega | (intros;omega) | (intros;simp_all;done) | (simp [List.length_set];omega)) ?_)
   refine k _ ?_;clear k K;refine k13 _ ?_;refine zk ⟨?_⟩;refine yRc [1,6,7,8,9,13,14,15,22] (l1Has_con order (i:Int) ho) ⟨?_⟩;refine v_condS _ rfl ?_ ?_
   ·intro hc1
    have hcy:=called_yes hx hc1
    refine v_seqR [1,6,7,8,9,13,14,15] ?_;intro K16 k16;refine zFieldAddr ⟨?_⟩;refine v_op ?_;intro K k
    simp only [zE,zS,zJ,zL,zO,zN,aStepM,optable,set_some,Nat.reduceEqDiff,reduceIte,Nat.reduceLT,implies_true,forall_const,reduceCtorEq,V.ofValue,V.ofScalar,V.un,V.gd,aExec,aop,aStore,setCells,V.isVal,V.cells,kindOf,kindAll,V.noSl,V.noRef,gt_iff_lt,Nat.reduceAdd,Nat.reduceLeDiff,Nat.reduceMul,takeV,takeCell,takeCells,row_mk,Blk.row,killAll,Nat.reduceBEq,join_t,Tryz.underlying3,Ty.c3,Ty.a3,hns,getD_map hx,getD_map hcg,hca,hsm]
    repeat (refine ai (by first | omega | (intros;omega) | (intros;simp_all;done) | (simp [List.length_set];omega)) ?_)
    refine k _ ?_;clear k K;refine k16 _ ?_;refine zk ⟨?_⟩;refine v_seqR [1,6,7,9,13,14,15] ?_;intro K17 k17;refine zq2 ⟨?_⟩;refine zLoad ⟨?_⟩;refine zIndexAddr ⟨?_⟩;refine v_op ?_;intro K k
    simp only [zE,zS,zJ,zL,zO,zN,aStepM,optable,set_some,Nat.reduceEqDiff,reduceIte,Nat.reduceLT,implies_true,forall_const,reduceCtorEq,V.ofValue,V.ofScalar,V.un,V.gd,aExec,aop,aStore,setCells,V.isVal,V.cells,kindOf,kindAll,V.noSl,V.noRef,gt_iff_lt,Nat.reduceAdd,Nat.reduceLeDiff,Nat.reduceMul,takeV,takeCell,takeCells,row_mk,Blk.row,killAll,Nat.reduceBEq,join_t,Tryz.underlying3,Ty.c3,Ty.a3,Tryz.underlying9,Ty.c9,Ty.a9,Tryz.underlying96,Ty.c96,Ty.a96,hns,getD_map hx,getD_map hcg,hca,hsm]
    repeat (refine ai (by first | omega | (intros;omega) | (intros;simp_all;done) | (simp [List.length_set];omega)) ?_)
    refine k _ ?_;clear k K;refine k17 _ ?_;refine zk ⟨?_⟩;refine yQ [1,6,7,13,14,15] ⟨?_⟩;refine yV ⟨?_⟩;refine n7 _ (i+1) ?_ ?_ ?_
    ·refine weak_bothS [1,6,7,13,14,15] [0,4] ⟨?_⟩
     rw [hcy,hst,if_pos hc1];simp only [List.map_append];rfl
    ·exact hlt
    ·show _ < _;omega
   ·intro hc1
    have hcn:=called_no hx hc1
    refine zn [1,6,7,13,14,15] ⟨?_⟩;refine yV ⟨?_⟩;refine n7 _ (i+1) ?_ ?_ ?_
    ·refine weak_bothS [1,6,7,13,14,15] [0,1] ⟨?_⟩
     rw [hcn,hst,if_neg hc1];rfl
    ·exact hlt
    ·show _ < _;omega
  ·intro hc0
   have hend:i=fl.length:=by omega
   subst hend
   refine zn [6,7] ⟨?_⟩;refine yR [4,5] ⟨?_⟩;refine zr ⟨?_⟩
   exact ret_gen [0,1] rfl rfl (by decide) rfl (by simp) (by simp [Blk.kindIs]) rfl
def szSL (n:Int) (l:List ByteArray):Int:=if n - (l.length:Int) < 0 then -1 else szLst szStr1 (n - (l.length:Int)) l
theorem szLst_neg {α:Type} {f:Int→α→Int}:∀{l:List α} {n:Int},0≤n→szLst f n l < 0→szLst f n l=-1
  | [],n,h0,h=>by rw [szLst] at h;omega
  | x ::l,n,h0,h=>by
    rw [szLst] at h⊢
    by_cases q:f n x < 0
    · rw [if_pos q]
    · rw [if_neg q] at h⊢
      exact szLst_neg (by omega) h
theorem szSL_neg {n:Int} {l:List ByteArray} (h:szSL n l < 0):szSL n l=-1:=by
  unfold szSL at h⊢
  split at h
  · rename_i q;rw [if_pos q]
  · rename_i q;rw [if_neg q];exact szLst_neg (by omega) h
theorem szSL_le {n:Int} {l:List ByteArray} (hn:0≤n):szSL n l≤n:=by
  unfold szSL
  split
  · omega
  · by_cases h:0≤szLst szStr1 (n - (l.length:Int)) l
    · have:=szLst_down szStr1_le (by omega) h;omega
    · omega
theorem szSL_len {n:Int} {l:List ByteArray} (h:0≤szSL n l):(l.length:Int)≤n:=by
  unfold szSL at h
  split at h<;>omega
theorem szS_neg {n:Int} {l:List Int} (h:szS n l < 0):szS n l=-1:=by
  unfold szS at h⊢
  split at h
  · rename_i q;rw [if_pos q]
  · omega
theorem szS_le {n:Int} {l:List Int} (hn:0≤n):szS n l≤n:=by
  unfold szS;split<;>omega
theorem szS_len {n:Int} {l:List Int} (h:0≤szS n l):(l.length:Int)≤n:=by
  unfold szS at h
  split at h<;>omega
end Go.Proofs.YtaefoaghpehbpaaGreat
