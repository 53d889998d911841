/- What functions compute. No condition. -/
import Derived.Test.YtbameklegpgkfaaDoorUz
import Derived.Test.YtbameklegpgkfaaDoorUty
import Derived.Test.YtbameklegpgkfaaDoorUmG
import Derived.Test.YtbameklegpgkfaaDoorX5
import Derived.Test.YtbameklegpgkfaaDoorX7
import Derived.Test.YtbameklegpgkfaaDoorX6
import Derived.Test.YtbameklegpgkfaaDoorX4
import Derived.Test.YtbameklegpgkfaaDoorX1
set_option linter.unusedSimpArgs false
set_option linter.unusedVariables false
set_option linter.defProp false
namespace Go.Proofs.YtbameklegpgkfaaDoor
open Go Go.Vm
theorem take_del {f:(ByteArray×Int×Int)→V} {l:List (ByteArray×Int×Int)} {s:ByteArray} {n:Int} {y0:ByteArray} {y1 y2:Int} (hy:l[lbT l s]? =some (y0,y1,y2)) (h:¬0 < y1 - n):((l.set (lbT l s) (y0,y1 - n,y2)).map f).take (lbT l s)++((l.set (lbT l s) (y0,y1 - n,y2)).map f).drop (lbT l s+1)=(takeT l s n).map f:=by
  have e:takeT l s n=l.take (lbT l s)++l.drop (lbT l s+1):=by unfold takeT;rw [hy];simp only [];rw [if_neg h]
  rw [e,←List.map_take,←List.map_drop,←List.map_append,List.take_set_of_le (Nat.le_refl _),List.drop_set_of_lt (Nat.lt_succ_self _)]
theorem take_set {l:List (ByteArray×Int×Int)} {s:ByteArray} {n:Int} {t:(ByteArray×Int×Int)} (hy:l[lbT l s]? =some t) (h:0 < t.2.1 - n):l.set (lbT l s) (t.1,t.2.1 - n,t.2.2)=takeT l s n:=by
  unfold takeT
  rw [hy]
  simp only []
  rw [if_pos h,List.set_eq_take_append_cons_drop,if_pos (List.getElem?_eq_some_iff.1 hy).1]
theorem put_upd {l:List (ByteArray×Int×Int)} {s:ByteArray} {n d:Int} {z0:ByteArray} {z1 z2:Int} (h:thereT l s=true) (hz:l[lbT l s]? =some (z0,z1,z2)) (hn:z0=s):l.set (lbT l s) (z0,z1+n,if d < z2 then d else z2)=putT l s n d:=by
  subst hn
  have e:(if d < z2 then d else z2)=minI d z2:=by
    unfold minI
    split<;>split<;>omega
  rw [put_old n d h hz,List.set_eq_take_append_cons_drop,if_pos (List.getElem?_eq_some_iff.1 hz).1,Int.add_comm z1 n,e]
theorem put_ins {f:(ByteArray×Int×Int)→V} {l:List (ByteArray×Int×Int)} {s:ByteArray} {n d:Int} (h:thereT l s=false):(l.map f).take (lbT l s)++f (s,n,d)::(l.map f).drop (lbT l s)=(putT l s n d).map f:=by
  rw [put_new n d h,List.map_append,List.map_cons,List.map_take,List.map_drop]
set_option maxRecDepth 8000 in
set_option maxHeartbeats 8000000 in
theorem moveThing_con (fa:ByteArray) (fl:List (ByteArray×Int×Int)) (ta:ByteArray) (tl:List (ByteArray×Int×Int)) (s:ByteArray) (n:Int) (hfa:nameB fa=true) (hta:nameB ta=true) (hfk:ThOK fl) (htk:ThOK tl) (hsn:tnB s=true) (hn:1≤n∧n≤99):Con Tryd.prog 164 [.agg [.str fa,.sl (fl.map (fun t:ByteArray×Int×Int=>V.agg [V.str t.1,V.int .i64 t.2.1,V.int .i64 t.2.2]))],.agg [.str ta,.sl (tl.map (fun t:ByteArray×Int×Int=>V.agg [V.str t.1,V.int .i64 t.2.1,V.int .i64 t.2.2]))],.str s,.int .i64 n] [] (.tup [.agg [.str (orS (mvB fl tl s n) fa),.ref 0],.agg [.str (orS (mvB fl tl s n) ta),.ref 1],.bool (mvB fl tl s n)]) [.arr ((orN (mvB fl tl s n) (takeT fl s n)).map (fun t:ByteArray×Int×Int=>V.agg [V.str t.1,V.int .i64 t.2.1,V.int .i64 t.2.2])) .thin,.arr ((orN (mvB fl tl s n) (putT tl s n (dayOf fl s))).map (fun t:ByteArray×Int×Int=>V.agg [V.str t.1,V.int .i64 t.2.1,V.int .i64 t.2.2])) .flat]:=by
 have hfl:=hfk.len
 have htl:=htk.len
 have hsz:=tn_size hsn
 have hfz:=nm_size hfa
 have htz:=nm_size hta
 refine v_con [.cell 8 65,.cell 9 65,.tmp 10] [(197,[0,2]),(193,[0])] Tryd.func164 rfl rfl rfl (by simp [Tryd.ntmps164]) ?_
 intro Q0 n0 r0
 simp only [Tryd.ntmps164,envFrom,Nat.reduceAdd]
 have T:=Tys.mk (And.intro Ty.t3 (And.intro Ty.t4 (And.intro Ty.t9 (And.intro Ty.t63 (And.intro Ty.t65 Ty.t93)))))
 have F:=Fc.mk True.intro
 rcases there_cases hfk.srt s with ⟨hth,hat,_,hcn⟩ | ⟨⟨y0,y1,y2⟩,hth,hat,hy,hyn,hcn⟩
 ·skip
  have hB:(mvB fl tl s n)=false:=by rw [mvB,hcn,decide_eq_false (by omega)];rfl
  refine v_seqR [2,3,4,5,8,9] ?_;intro K1 k1
  have F:=Fc.mk (And.intro hth (And.intro hat hcn))
  refine zBox ⟨?_⟩;refine zq34 ⟨?_⟩;refine zq20 ⟨?_⟩;refine k1 _ ?_;refine zk ⟨?_⟩;refine v_seq ?_;intro Q2 n2 e2 r2;refine v_seqR [2,3,4,5,8,9,22] ?_;intro K3 k3;refine zq11 ⟨?_⟩;refine zc (countOf_con fl s (by omega)) ⟨?_⟩;refine zq26 ⟨?_⟩;refine k3 _ ?_;refine zk ⟨?_⟩;refine v_cond _ rfl ?_ ?_
  ·intro hc0
   try simp only [zC,reduceCtorEq] at hc0
   have hB:(mvB fl tl s n)=false:=by
    first
    |exact hB
    |(rw [mvB,hcn,decide_eq_false (by first | omega | (have h:=hc0;simp at h;omega))];rfl)
   refine v_seq ?_;intro Q5 n5 e5 r5;refine v_region ?_;intro K6 k6;refine zq42 ⟨?_⟩;refine k6 _ ?_
   apply n5
   ·apply weak_trans (weak_keep [8,9,10] _)
    simp only [keep_mk,keepE_nil,keepE_cons,look_cons,look_nil,Nat.reduceEqDiff,reduceIte]
    exact weak_thin 6 [] rfl
   try simp only [atSlot_cons,atSlot_nil,Nat.reduceEqDiff,reduceIte,List.set_cons_zero,List.set_cons_succ]
   refine v_ret ?_;refine r2 _ ?_;refine r0 _ ?_;refine zf ⟨?_⟩
   simp only [zE,zL,zO,zN,aStepM,optable,set_some,Nat.reduceEqDiff,reduceIte,Nat.reduceLT,implies_true,forall_const,reduceCtorEq,V.ofValue,V.ofScalar,V.un,V.gd,aLoad,row_mk,Blk.row,PartOK,Go.Vm.part,V.cells,V.noSl,V.noRef,Nat.reduceAdd,Nat.reduceLeDiff,Nat.reduceMul,Tryd.underlying9,Ty.c9,Ty.a9,Tryd.underlying63,Ty.c63,Ty.a63,Tryd.underlying65,Ty.c65,Ty.a65]
   try simp only [zE,zL,zO,zN,aStepM,optable,set_some,Nat.reduceEqDiff,reduceIte,Nat.reduceLT,implies_true,forall_const,reduceCtorEq,V.ofValue,V.ofScalar,V.un,V.gd,aLoad,row_mk,Blk.row,PartOK,Go.Vm.part,V.cells,V.noSl,V.noRef,Nat.reduceAdd,Nat.reduceLeDiff,Nat.reduceMul,Tryd.underlying9,Ty.c9,Ty.a9,Tryd.underlying63,Ty.c63,Ty.a63,Tryd.underlying65,Ty.c65,Ty.a65]
   simp only [hB,orS,orN_f,Bool.false_eq_true,if_false,List.map_nil]
   exact ret_all rfl (by first | decide | simp [newIds,refsOf,refs2,refs1]) (by simp) rfl (by simp [newIds,refsOf,refs2,refs1]) (by simp [Blk.kindIs,fillK_fd]) rfl
  ·intro hc0
   exfalso;simp at hc0;omega
 ·skip
  have hkl:=(List.getElem?_eq_some_iff.1 hy).1
  have hyo:=hfk.ok _ (List.mem_of_getElem? hy)
  simp only [] at hyo hyn hcn
  have hda:dayOf fl s=y2:=by unfold dayOf;rw [hy]
  have htko:=take_ok hfk hn.1 hy
  have hpl:=put_len (l:=tl) (s:=s) (n:=n) (d:=y2)
  have htl2:=take_len (l:=fl) (s:=s) (n:=n)
  have hg1:(fl.set (lbT fl s) (y0,y1 - n,y2))[(lbT fl s)]? =some (y0,y1 - n,y2):=List.getElem?_set_self hkl
  have hl1:(fl.set (lbT fl s) (y0,y1 - n,y2)).length=fl.length:=List.length_set
  refine v_seqR [2,3,4,5,8,9] ?_;intro K7 k7
  have F:=Fc.mk (And.intro hth (And.intro hat (And.intro hcn (And.intro @Int.toNat_natCast (And.intro (fun f=>getD_map (f:=f) hy) (And.intro @setat_Thing (And.intro (fun f=>getD_map (f:=f) hg1) hl1)))))))
  refine zBox ⟨?_⟩;refine zq34 ⟨?_⟩;refine zq20 ⟨?_⟩;refine k7 _ ?_;refine zk ⟨?_⟩;refine v_seq ?_;intro Q8 n8 e8 r8;refine v_seqR [2,3,4,5,8,9,22] ?_;intro K9 k9;refine zq11 ⟨?_⟩;refine zc (countOf_con fl s (by omega)) ⟨?_⟩;refine zq26 ⟨?_⟩;refine k9 _ ?_;refine zk ⟨?_⟩;refine v_condS _ rfl ?_ ?_
  ·intro hc0
   have hB:(mvB fl tl s n)=false:=by
    first
    |exact hB
    |(rw [mvB,hcn,decide_eq_false (by first | omega | (have h:=hc0;simp at h;omega))];rfl)
   refine v_seq ?_;intro Q11 n11 e11 r11;refine v_region ?_;intro K12 k12;refine zq42 ⟨?_⟩;refine k12 _ ?_
   apply n11
   ·apply weak_trans (weak_keep [8,9,10] _)
    simp only [keep_mk,keepE_nil,keepE_cons,look_cons,look_nil,Nat.reduceEqDiff,reduceIte]
    exact weak_thin 6 [] rfl
   try simp only [atSlot_cons,atSlot_nil,Nat.reduceEqDiff,reduceIte,List.set_cons_zero,List.set_cons_succ]
   refine v_ret ?_;refine r8 _ ?_;refine r0 _ ?_;refine zf ⟨?_⟩
   simp only [zE,zL,zO,zN,aStepM,optable,set_some,Nat.reduceEqDiff,reduceIte,Nat.reduceLT,implies_true,forall_const,reduceCtorEq,V.ofValue,V.ofScalar,V.un,V.gd,aLoad,row_mk,Blk.row,PartOK,Go.Vm.part,V.cells,V.noSl,V.noRef,Nat.reduceAdd,Nat.reduceLeDiff,Nat.reduceMul,Tryd.underlying9,Ty.c9,Ty.a9,Tryd.underlying63,Ty.c63,Ty.a63,Tryd.underlying65,Ty.c65,Ty.a65]
   try simp only [zE,zL,zO,zN,aStepM,optable,set_some,Nat.reduceEqDiff,reduceIte,Nat.reduceLT,implies_true,forall_const,reduceCtorEq,V.ofValue,V.ofScalar,V.un,V.gd,aLoad,row_mk,Blk.row,PartOK,Go.Vm.part,V.cells,V.noSl,V.noRef,Nat.reduceAdd,Nat.reduceLeDiff,Nat.reduceMul,Tryd.underlying9,Ty.c9,Ty.a9,Tryd.underlying63,Ty.c63,Ty.a63,Tryd.underlying65,Ty.c65,Ty.a65]
   simp only [hB,orS,orN_f,Bool.false_eq_true,if_false,List.map_nil]
   exact ret_all rfl (by first | decide | simp [newIds,refsOf,refs2,refs1]) (by simp) rfl (by simp [newIds,refsOf,refs2,refs1]) (by simp [Blk.kindIs,fillK_fd]) rfl
  ·intro hc0
   have hny:n≤y1:=by first | omega | (have h:=hc0;simp at h;omega)
   have hgt:thsB (takeT fl s n)=true:=(ths_iff _).2 htko
   refine v_skip ?_;refine n8 _ _ (weak_keep [2,3,4,5,8,9] _) ?_;refine zk ⟨?_⟩
   apply v_seq1
   ·intro Q13 n13 e13 r13
    refine v_draw (by kernel_rfl) ?_;intro K14 q14 k14
    show aAny _ _ _ _ 8 (Array.replicate 8 false) _
    refine zdLoadX q14 true 0 25 ?_;refine zdLoadX q14 true 2 27 ?_;refine aAny_three 1 4 5 rfl rfl rfl (by kernel_rfl) ?_ ?_ ?_
    ·refine zsc (copyLoad_con fa fl (by omega)) ⟨?_⟩
     refine aAny_three 3 4 5 rfl rfl rfl (by kernel_rfl) ?_ ?_ ?_
     ·refine zsc (copyLoad_con ta tl (by omega)) ⟨?_⟩
      refine aAny_two 4 5 rfl rfl (by kernel_rfl) ?_ ?_
      ·refine zsAlloc ⟨?_⟩
       refine zoAlloc 5 ⟨?_⟩;refine zoStore 6 ⟨?_⟩;refine zoStore 7 ⟨?_⟩;refine aAny_done (by kernel_rfl) ?_;refine k14 _ ?_;refine n13 _ ?_
       exact weak_one [2,3,8,9,11,12] [0,1,2,3,4,5,6,7,8,9,10,11]
      ·refine zsAlloc ⟨?_⟩
       refine zoAlloc 4 ⟨?_⟩;refine zoStore 6 ⟨?_⟩;refine zoStore 7 ⟨?_⟩;refine aAny_done (by kernel_rfl) ?_;refine k14 _ ?_;refine n13 _ ?_
       exact weak_same [2,3,8,9,11,12] [0,1,2,3,4,5,6,7,10,11,8,9]
     ·refine zsAlloc ⟨?_⟩
      refine aAny_two 3 5 rfl rfl (by kernel_rfl) ?_ ?_
      ·refine zsc (copyLoad_con ta tl (by omega)) ⟨?_⟩
       refine zoAlloc 5 ⟨?_⟩;refine zoStore 6 ⟨?_⟩;refine zoStore 7 ⟨?_⟩;refine aAny_done (by kernel_rfl) ?_;refine k14 _ ?_;refine n13 _ ?_
       exact weak_same [2,3,8,9,11,12] [0,1,2,3,4,5,6,9,7,8,10,11]
      ·refine zsAlloc ⟨?_⟩
       refine zoc 3 (copyLoad_con ta tl (by omega)) ⟨?_⟩;refine zoStore 6 ⟨?_⟩;refine zoStore 7 ⟨?_⟩;refine aAny_done (by kernel_rfl) ?_;refine k14 _ ?_;refine n13 _ ?_
       exact weak_same [2,3,8,9,11,12] [0,1,2,3,4,5,6,11,7,8,9,10]
     ·refine zsAlloc ⟨?_⟩
      refine aAny_two 3 4 rfl rfl (by kernel_rfl) ?_ ?_
      ·refine zsc (copyLoad_con ta tl (by omega)) ⟨?_⟩
       refine zoAlloc 4 ⟨?_⟩;refine zoStore 6 ⟨?_⟩;refine zoStore 7 ⟨?_⟩;refine aAny_done (by kernel_rfl) ?_;refine k14 _ ?_;refine n13 _ ?_
       exact weak_same [2,3,8,9,11,12] [0,1,2,3,4,5,6,9,10,11,7,8]
      ·refine zsAlloc ⟨?_⟩
       refine zoc 3 (copyLoad_con ta tl (by omega)) ⟨?_⟩;refine zoStore 6 ⟨?_⟩;refine zoStore 7 ⟨?_⟩;refine aAny_done (by kernel_rfl) ?_;refine k14 _ ?_;refine n13 _ ?_
       exact weak_same [2,3,8,9,11,12] [0,1,2,3,4,5,6,11,9,10,7,8]
    ·refine zsAlloc ⟨?_⟩
     refine aAny_two 1 5 rfl rfl (by kernel_rfl) ?_ ?_
     ·refine zsc (copyLoad_con fa fl (by omega)) ⟨?_⟩
      refine aAny_two 3 5 rfl rfl (by kernel_rfl) ?_ ?_
      ·refine zsc (copyLoad_con ta tl (by omega)) ⟨?_⟩
       refine zoAlloc 5 ⟨?_⟩;refine zoStore 6 ⟨?_⟩;refine zoStore 7 ⟨?_⟩;refine aAny_done (by kernel_rfl) ?_;refine k14 _ ?_;refine n13 _ ?_
       exact weak_same [2,3,8,9,11,12] [0,1,2,3,4,5,8,9,6,7,10,11]
      ·refine zsAlloc ⟨?_⟩
       refine zoc 3 (copyLoad_con ta tl (by omega)) ⟨?_⟩;refine zoStore 6 ⟨?_⟩;refine zoStore 7 ⟨?_⟩;refine aAny_done (by kernel_rfl) ?_;refine k14 _ ?_;refine n13 _ ?_
       exact weak_same [2,3,8,9,11,12] [0,1,2,3,4,5,8,11,6,7,9,10]
     ·refine zsAlloc ⟨?_⟩
      refine zoc 1 (copyLoad_con fa fl (by omega)) ⟨?_⟩;refine zoc 3 (copyLoad_con ta tl (by omega)) ⟨?_⟩;refine zoStore 6 ⟨?_⟩;refine zoStore 7 ⟨?_⟩;refine aAny_done (by kernel_rfl) ?_;refine k14 _ ?_;refine n13 _ ?_
      exact weak_same [2,3,8,9,11,12] [0,1,2,3,4,5,10,11,6,7,8,9]
    ·refine zsAlloc ⟨?_⟩
     refine aAny_two 1 4 rfl rfl (by kernel_rfl) ?_ ?_
     ·refine zsc (copyLoad_con fa fl (by omega)) ⟨?_⟩
      refine aAny_two 3 4 rfl rfl (by kernel_rfl) ?_ ?_
      ·refine zsc (copyLoad_con ta tl (by omega)) ⟨?_⟩
       refine zoAlloc 4 ⟨?_⟩;refine zoStore 6 ⟨?_⟩;refine zoStore 7 ⟨?_⟩;refine aAny_done (by kernel_rfl) ?_;refine k14 _ ?_;refine n13 _ ?_
       exact weak_same [2,3,8,9,11,12] [0,1,2,3,4,5,8,9,10,11,6,7]
      ·refine zsAlloc ⟨?_⟩
       refine zoc 3 (copyLoad_con ta tl (by omega)) ⟨?_⟩;refine zoStore 6 ⟨?_⟩;refine zoStore 7 ⟨?_⟩;refine aAny_done (by kernel_rfl) ?_;refine k14 _ ?_;refine n13 _ ?_
       exact weak_same [2,3,8,9,11,12] [0,1,2,3,4,5,8,11,9,10,6,7]
     ·refine zsAlloc ⟨?_⟩
      refine zoc 1 (copyLoad_con fa fl (by omega)) ⟨?_⟩;refine zoc 3 (copyLoad_con ta tl (by omega)) ⟨?_⟩;refine zoStore 6 ⟨?_⟩;refine zoStore 7 ⟨?_⟩;refine aAny_done (by kernel_rfl) ?_;refine k14 _ ?_;refine n13 _ ?_
      exact weak_same [2,3,8,9,11,12] [0,1,2,3,4,5,10,11,8,9,6,7]
   ·refine zkm ⟨?_⟩
    refine v_seqR [2,3,8,9,11,12,13] ?_;intro K15 k15
    have F:=Fc.mk (And.intro hth (And.intro hat (And.intro hcn (And.intro @Int.toNat_natCast (And.intro (fun f=>getD_map (f:=f) hy) (And.intro @setat_Thing (And.intro (fun f=>getD_map (f:=f) hg1) hl1)))))))
    refine zq11 ⟨?_⟩;refine zc (thingAt_con fl s (by omega)) ⟨?_⟩;refine zAssign ⟨?_⟩;refine k15 _ ?_;refine zk ⟨?_⟩;refine v_seqR [3,8,9,11,12,13,14] ?_;intro K16 k16;refine zq3 ⟨?_⟩;refine zq11 ⟨?_⟩;refine zIndexAddr ⟨?_⟩;refine zq2 ⟨?_⟩;refine zBuild ⟨?_⟩;refine zq10 ⟨?_⟩;refine k16 _ ?_;refine zk ⟨?_⟩;refine v_seqR [3,8,9,11,12,13,14] ?_;intro K17 k17;refine zq11 ⟨?_⟩;refine zIndexAddr ⟨?_⟩;refine zq11 ⟨?_⟩;refine zBinOpW ⟨?_⟩;refine zIndexAddr ⟨?_⟩;refine zq24 ⟨?_⟩;refine k17 _ ?_;refine zk ⟨?_⟩;refine v_seq ?_;intro Q18 n18 e18 r18;refine v_seqR [3,8,9,11,12,13,14,58] ?_;intro K19 k19;refine zq11 ⟨?_⟩;refine zIndexAddr ⟨?_⟩;refine zq49 ⟨?_⟩;refine k19 _ ?_;refine zk ⟨?_⟩;refine v_condS _ rfl ?_ ?_
    ·intro hc1
     have hz1:¬0 < y1 - n:=by first | omega | (have h:=hc1;simp at h;omega)
     have htE:=take_del (f:=(fun t:ByteArray×Int×Int=>V.agg [V.str t.1,V.int .i64 t.2.1,V.int .i64 t.2.2])) hy hz1
     refine v_region ?_;intro K21 k21;refine zq2 ⟨?_⟩;refine zq3 ⟨?_⟩;refine zBinOpW ⟨?_⟩;refine zcl ((by have q:=del_con ((fl.set (lbT fl s) (y0,y1 - n,y2)).map (fun t:ByteArray×Int×Int=>V.agg [V.str t.1,V.int .i64 t.2.1,V.int .i64 t.2.2])) (lbT fl s) (by rw [List.length_map,hl1];exact hkl) (by rw [List.length_map,hl1];omega) (fun x hx=>by obtain ⟨_,_,rfl⟩:=List.mem_map.1 hx;rfl);rw [htE] at q;exact q)) ⟨?_⟩;refine zq24 ⟨?_⟩;refine k21 _ ?_
     apply n18
     ·apply weak_trans (weak_keep [3,8,9,11,12,14] _)
      simp only [keep_mk,keepE_nil,keepE_cons,look_cons,look_nil,Nat.reduceEqDiff,reduceIte]
      first
      |exact weak_thin 6 _ rfl
      |exact weak_refl _ _
     try simp only [atSlot_cons,atSlot_nil,Nat.reduceEqDiff,reduceIte,List.set_cons_zero,List.set_cons_succ]
     refine v_seqR [3,8,9,11,12,14,15,16] ?_;intro K22 k22;refine zq2 ⟨?_⟩;refine zLoad ⟨?_⟩;refine zc (bsearch_con tl _ s n y2 (by omega) htk.srt (fun x0 x1 x2=>moveThing1_con x0 x1 x2 s n y2)) ⟨?_⟩;refine zq16 ⟨?_⟩;refine k22 _ ?_;refine zk ⟨?_⟩;refine v_seq ?_;intro Q23 n23 e23 r23;refine v_seqR [3,8,9,11,12,14,15,73] ?_;intro K24 k24;refine zMove ⟨?_⟩;refine k24 _ ?_;refine zk ⟨?_⟩;refine v_condS _ rfl ?_ ?_
     ·intro hc2
      have hft:thereT tl s=true:=hc2
      obtain ⟨⟨z0,z1,z2⟩,hz,hzn⟩:∃z:ByteArray×Int×Int,tl[(lbT tl s)]? =some z∧z.1=s:=by
       rcases there_cases htk.srt s with ⟨q,_⟩ | ⟨z,_,_,q1,q2,_⟩
       ·rw [hft] at q;cases q
       ·exact ⟨z,q1,q2⟩
      simp only [] at hzn
      have hzl:=(List.getElem?_eq_some_iff.1 hz).1
      have hzo:=htk.ok _ (List.mem_of_getElem? hz)
      simp only [] at hzo
      have hzs1:(tl.set (lbT tl s) (z0,z1+n,z2))[(lbT tl s)]? =some (z0,z1+n,z2):=List.getElem?_set_self hzl
      have hl2:(tl.set (lbT tl s) (z0,z1+n,z2)).length=tl.length:=List.length_set
      have hpt2:=put_upd (n:=n) (d:=y2) hft hz hzn
      refine v_seqR [8,9,11,12,14,15] ?_;intro K26 k26
      have F:=Fc.mk (And.intro hth (And.intro hat (And.intro hcn (And.intro @Int.toNat_natCast (And.intro (fun f=>getD_map (f:=f) hy) (And.intro @setat_Thing (And.intro (fun f=>getD_map (f:=f) hg1) (And.intro hl1 (And.intro (fun f=>getD_map (f:=f) hz) (And.intro (fun f=>getD_map (f:=f) hzs1) (And.intro hl2 (And.intro @List.set_set.{0} hpt2))))))))))))
      refine zq11 ⟨?_⟩;refine zIndexAddr ⟨?_⟩;refine zq11 ⟨?_⟩;refine zBinOpW ⟨?_⟩;refine zIndexAddr ⟨?_⟩;refine zq24 ⟨?_⟩;refine k26 _ ?_;refine zk ⟨?_⟩;refine v_draw (by kernel_rfl) ?_;intro K27 q27 k27
      show aAny _ _ _ _ 15 (Array.replicate 15 false) _
      refine zdFieldAddr q27 true 0 84 ?_;refine zdLoadX q27 true 1 85 ?_;refine zdMove q27 true 2 86 ?_;refine zdFieldAddr q27 true 3 87 ?_;refine zdLoadX q27 true 4 88 ?_;refine zdMove q27 true 5 89 ?_;refine aAny_take q27 true 6 90 rfl rfl (by kernel_rfl) (by kernel_rfl) ?_
      apply Exists.intro;apply And.intro
      ·intro t hn gx ho K' k'
       have g88:=gx 88 (by decide)
       have g89:=gx 89 (by decide)
       simp only [get_mk,look_cons,look_nil,set_some,Nat.reduceEqDiff,reduceIte] at g88 g89
       first | have row0:=grow_row (i:=0) (ho rfl) rfl | have row0:t.n+0=t.n:=rfl
       first | have row1:=grow_row (i:=1) (ho rfl) rfl | have row1:t.n+0=t.n:=rfl
       first | have row2:=grow_row (i:=2) (ho rfl) rfl | have row2:t.n+0=t.n:=rfl
       first | have row3:=grow_row (i:=3) (ho rfl) rfl | have row3:t.n+0=t.n:=rfl
       first | have row4:=grow_row (i:=4) (ho rfl) rfl | have row4:t.n+0=t.n:=rfl
       first | have row5:=grow_row (i:=5) (ho rfl) rfl | have row5:t.n+0=t.n:=rfl
       first | have row6:=grow_row (i:=6) (ho rfl) rfl | have row6:t.n+0=t.n:=rfl
       first | have row7:=grow_row (i:=7) (ho rfl) rfl | have row7:t.n+0=t.n:=rfl
       first | have row8:=grow_row (i:=8) (ho rfl) rfl | have row8:t.n+0=t.n:=rfl
       first | have row9:=grow_row (i:=9) (ho rfl) rfl | have row9:t.n+0=t.n:=rfl
       first | have row10:=grow_row (i:=10) (ho rfl) rfl | have row10:t.n+0=t.n:=rfl
       first | have row11:=grow_row (i:=11) (ho rfl) rfl | have row11:t.n+0=t.n:=rfl
       first | have row12:=grow_row (i:=12) (ho rfl) rfl | have row12:t.n+0=t.n:=rfl
       first | have row13:=grow_row (i:=13) (ho rfl) rfl | have row13:t.n+0=t.n:=rfl
       have hdl:90 < t.n:=by rw [hn];show 90 < 112;decide
       clear hn
       refine .inl ?_
       simp only [zE,zL,zN,hdl,aStepM,optable,Nat.reduceEqDiff,reduceIte,implies_true,forall_const,reduceCtorEq,V.ofValue,V.ofScalar,V.un,V.gd,aExec,aop,g88,g89,row0,row1,row2,row3,row4,row5,row6,row7,row8,row9,row10,row11,row12,row13,List.mem_cons,List.not_mem_nil,or_false,forall_eq_or_imp,forall_eq,aIndexAddr,row_mk,Blk.row,Go.Vm.V.cells,List.forall_mem_map,List.length_map,Int.toNat_natCast,Int.reduceToNat,TypeDesc.slice.injEq,Nat.reduceAdd,Nat.reduceLeDiff,Nat.reduceLT,Nat.reduceMul,Tryd.underlying63,Ty.c63,Ty.a63,Tryd.underlying93,Ty.c93,Ty.a93,hth,hat,hcn,getD_map hy,setat_Thing,getD_map hg1,hl1,getD_map hz,getD_map hzs1,hl2,List.set_set,hpt2]
       repeat (refine And.intro (by first | omega | (exact set_all (fun x hx=>by obtain ⟨t,_,rfl⟩:=List.mem_map.1 hx;rfl) rfl) | (intros;omega) | (intros;simp_all;done) | (intros;simp_all;omega)) ?_)
       exact k'
      simp only [set_some]
      refine zdFieldAddr q27 true 7 91 ?_;refine zdLoadX q27 true 8 92 ?_;refine zdFieldAddr q27 true 9 93 ?_;refine zdLoadX q27 true 10 94 ?_;refine zdMin q27 true 11 95 ?_;refine aAny_take q27 true 12 96 rfl rfl (by kernel_rfl) (by kernel_rfl) ?_
      apply Exists.intro;apply And.intro
      ·intro t hn gx ho K' k'
       have g85:=gx 85 (by decide)
       have g86:=gx 86 (by decide)
       simp only [get_mk,look_cons,look_nil,set_some,Nat.reduceEqDiff,reduceIte] at g85 g86
       first | have row0:=grow_row (i:=0) (ho rfl) rfl | have row0:t.n+0=t.n:=rfl
       first | have row1:=grow_row (i:=1) (ho rfl) rfl | have row1:t.n+0=t.n:=rfl
       first | have row2:=grow_row (i:=2) (ho rfl) rfl | have row2:t.n+0=t.n:=rfl
       first | have row3:=grow_row (i:=3) (ho rfl) rfl | have row3:t.n+0=t.n:=rfl
       first | have row4:=grow_row (i:=4) (ho rfl) rfl | have row4:t.n+0=t.n:=rfl
       first | have row5:=grow_row (i:=5) (ho rfl) rfl | have row5:t.n+0=t.n:=rfl
       first | have row6:=grow_row (i:=6) (ho rfl) rfl | have row6:t.n+0=t.n:=rfl
       first | have row7:=grow_row (i:=7) (ho rfl) rfl | have row7:t.n+0=t.n:=rfl
       first | have row8:=grow_row (i:=8) (ho rfl) rfl | have row8:t.n+0=t.n:=rfl
       first | have row9:=grow_row (i:=9) (ho rfl) rfl | have row9:t.n+0=t.n:=rfl
       first | have row10:=grow_row (i:=10) (ho rfl) rfl | have row10:t.n+0=t.n:=rfl
       first | have row11:=grow_row (i:=11) (ho rfl) rfl | have row11:t.n+0=t.n:=rfl
       first | have row12:=grow_row (i:=12) (ho rfl) rfl | have row12:t.n+0=t.n:=rfl
       first | have row13:=grow_row (i:=13) (ho rfl) rfl | have row13:t.n+0=t.n:=rfl
       have hdl:96 < t.n:=by rw [hn];show 96 < 112;decide
       clear hn
       refine .inl ?_
       simp only [zE,zL,zN,hdl,aStepM,optable,Nat.reduceEqDiff,reduceIte,implies_true,forall_const,reduceCtorEq,V.ofValue,V.ofScalar,V.un,V.gd,aExec,aop,g85,g86,row0,row1,row2,row3,row4,row5,row6,row7,row8,row9,row10,row11,row12,row13,List.mem_cons,List.not_mem_nil,or_false,forall_eq_or_imp,forall_eq,aIndexAddr,row_mk,Blk.row,Go.Vm.V.cells,List.forall_mem_map,List.length_map,Int.toNat_natCast,Int.reduceToNat,TypeDesc.slice.injEq,Nat.reduceAdd,Nat.reduceLeDiff,Nat.reduceLT,Nat.reduceMul,Tryd.underlying63,Ty.c63,Ty.a63,Tryd.underlying93,Ty.c93,Ty.a93,hth,hat,hcn,getD_map hy,setat_Thing,getD_map hg1,hl1,getD_map hz,getD_map hzs1,hl2,List.set_set,hpt2]
       repeat (refine And.intro (by first | omega | (exact set_all (fun x hx=>by obtain ⟨t,_,rfl⟩:=List.mem_map.1 hx;rfl) rfl) | (intros;omega) | (intros;simp_all;done) | (intros;simp_all;omega)) ?_)
       exact k'
      simp only [set_some]
      refine zdFieldAddr q27 true 13 97 ?_;refine zoStore 14 ⟨?_⟩;refine aAny_done (by kernel_rfl) ?_;refine k27 _ ?_;refine n23 _ _ (weak_keep [8,9,11,12] _) ?_;refine zk ⟨?_⟩;refine v_seq ?_;intro Q28 n28 e28 r28;refine v_seqR [8,9,11,12,107] ?_;intro K29 k29;refine zLoad ⟨?_⟩;refine zc (isLoad_con ta (putT tl s n y2) (by omega) (by omega) (put_sz htk hsn)) ⟨?_⟩;refine zUnOp ⟨?_⟩;refine k29 _ ?_;refine zk ⟨?_⟩;refine v_condS _ rfl ?_ ?_
      ·intro hc3
       have hB:(mvB fl tl s n)=false:=by
        rw [mvB,hda]
        cases q:thsB (putT tl s n y2) with
        |false=>simp
        |true=>(exfalso;simp [q,hta] at hc3)
       refine v_seq ?_;intro Q31 n31 e31 r31;refine v_region ?_;intro K32 k32;refine zq42 ⟨?_⟩;refine k32 _ ?_
       apply n31
       ·apply weak_trans (weak_keep [8,9,10] _)
        simp only [keep_mk,keepE_nil,keepE_cons,look_cons,look_nil,Nat.reduceEqDiff,reduceIte]
        exact weak_thin 14 [] rfl
       try simp only [atSlot_cons,atSlot_nil,Nat.reduceEqDiff,reduceIte,List.set_cons_zero,List.set_cons_succ]
       refine v_ret ?_;refine r28 _ ?_;refine r0 _ ?_;refine zf ⟨?_⟩
       simp only [zE,zL,zO,zN,aStepM,optable,set_some,Nat.reduceEqDiff,reduceIte,Nat.reduceLT,implies_true,forall_const,reduceCtorEq,V.ofValue,V.ofScalar,V.un,V.gd,aLoad,row_mk,Blk.row,PartOK,Go.Vm.part,V.cells,V.noSl,V.noRef,Nat.reduceAdd,Nat.reduceLeDiff,Nat.reduceMul,Tryd.underlying9,Ty.c9,Ty.a9,Tryd.underlying63,Ty.c63,Ty.a63,Tryd.underlying65,Ty.c65,Ty.a65]
       try simp only [zE,zL,zO,zN,aStepM,optable,set_some,Nat.reduceEqDiff,reduceIte,Nat.reduceLT,implies_true,forall_const,reduceCtorEq,V.ofValue,V.ofScalar,V.un,V.gd,aLoad,row_mk,Blk.row,PartOK,Go.Vm.part,V.cells,V.noSl,V.noRef,Nat.reduceAdd,Nat.reduceLeDiff,Nat.reduceMul,Tryd.underlying9,Ty.c9,Ty.a9,Tryd.underlying63,Ty.c63,Ty.a63,Tryd.underlying65,Ty.c65,Ty.a65]
       simp only [hB,orS,orN_f,Bool.false_eq_true,if_false,List.map_nil]
       exact ret_all rfl (by first | decide | simp [newIds,refsOf,refs2,refs1]) (by simp) rfl (by simp [newIds,refsOf,refs2,refs1]) (by simp [Blk.kindIs,fillK_fd]) rfl
      ·intro hc3
       have hB:(mvB fl tl s n)=true:=by
        rw [mvB,hda,hcn]
        cases q:thsB (putT tl s n y2) with
        |false=>(exfalso;simp [q,hta] at hc3)
        |true=>simp;omega
       refine v_skip ?_;refine n28 _ _ (weak_keep [8,9,11,12] _) ?_;refine zk ⟨?_⟩
       apply v_seq1
       ·intro Q33 n33 e33 r33
        refine v_draw (by kernel_rfl) ?_;intro K34 q34 k34
        show aAny _ _ _ _ 5 (Array.replicate 5 false) _
        refine zdLoadX q34 true 0 110 ?_;refine aAny_two 1 2 rfl rfl (by kernel_rfl) ?_ ?_
        ·intro K k
         skip
         simp only [zE,zL,zO,zN,aStepM,optable,set_some,Nat.reduceEqDiff,reduceIte,Nat.reduceLT,implies_true,forall_const,reduceCtorEq,V.ofValue,V.ofScalar,V.un,V.gd,aExec,aop,aLoad,row_mk,Blk.row,PartOK,Go.Vm.part,V.cells,V.noSl,V.noRef,Nat.reduceAdd,Nat.reduceLeDiff,Nat.reduceMul,Tryd.underlying9,Ty.c9,Ty.a9,Tryd.underlying63,Ty.c63,Ty.a63,Tryd.underlying65,Ty.c65,Ty.a65,hth,hat,hcn,Int.toNat_natCast,getD_map hy,setat_Thing,getD_map hg1,hl1,getD_map hz,getD_map hzs1,hl2,List.set_set,hpt2]
         repeat (refine And.intro (by first | omega | (intros;omega) | (intros;simp_all;done) | (intros;simp_all;omega)) ?_)
         refine k _ ?_;clear k K;refine zoStore 2 ⟨?_⟩;refine zoStore 3 ⟨?_⟩;refine zoAssign 4 ⟨?_⟩;refine aAny_done (by kernel_rfl) ?_;refine k34 _ ?_;refine n33 _ ?_
         exact weak_one [8,9,10] [0,1,2,3,4,5,6,7,8,9,10,11,12,13]
        ·refine zsStore ⟨?_⟩
         refine zdLoadX q34 true 1 111 ?_;refine zoStore 3 ⟨?_⟩;refine zoAssign 4 ⟨?_⟩;refine aAny_done (by kernel_rfl) ?_;refine k34 _ ?_;refine n33 _ ?_
         exact weak_same [8,9,10] [0,1,2,3,4,5,6,7,8,9,10,11,12,13]
       ·refine zkm ⟨?_⟩
        refine v_ret ?_;refine r0 _ ?_;refine zf ⟨?_⟩
        simp only [zE,zL,zO,zN,aStepM,optable,set_some,Nat.reduceEqDiff,reduceIte,Nat.reduceLT,implies_true,forall_const,reduceCtorEq,V.ofValue,V.ofScalar,V.un,V.gd,aLoad,row_mk,Blk.row,PartOK,Go.Vm.part,V.cells,V.noSl,V.noRef,Nat.reduceAdd,Nat.reduceLeDiff,Nat.reduceMul,Tryd.underlying9,Ty.c9,Ty.a9,Tryd.underlying63,Ty.c63,Ty.a63,Tryd.underlying65,Ty.c65,Ty.a65]
        try simp only [zE,zL,zO,zN,aStepM,optable,set_some,Nat.reduceEqDiff,reduceIte,Nat.reduceLT,implies_true,forall_const,reduceCtorEq,V.ofValue,V.ofScalar,V.un,V.gd,aLoad,row_mk,Blk.row,PartOK,Go.Vm.part,V.cells,V.noSl,V.noRef,Nat.reduceAdd,Nat.reduceLeDiff,Nat.reduceMul,Tryd.underlying9,Ty.c9,Ty.a9,Tryd.underlying63,Ty.c63,Ty.a63,Tryd.underlying65,Ty.c65,Ty.a65]
        simp only [hB,orS,if_true]
        exact ret_all rfl (by first | decide | simp [newIds,refsOf,refs2,refs1]) (by simp) rfl (by simp [newIds,refsOf,refs2,refs1,hB,orN_t,hda]) (by simp [Blk.kindIs,fillK_fd]) rfl
     ·intro hc2
      have hft:thereT tl s=false:=by
       cases q:thereT tl s with
       |false=>rfl
       |true=>(exfalso;simp [q] at hc2)
      have hptE:=put_ins (f:=(fun t:ByteArray×Int×Int=>V.agg [V.str t.1,V.int .i64 t.2.1,V.int .i64 t.2.2])) (n:=n) (d:=y2) hft
      refine v_region ?_;intro K35 k35;refine zq11 ⟨?_⟩;refine zLoad ⟨?_⟩;refine zBuildSlice ⟨?_⟩;refine v_op ?_;intro K k
      simp only [zE,zM,aStepM,optable,set_some,Nat.reduceEqDiff,reduceIte,Nat.reduceLT,implies_true,forall_const,reduceCtorEq,V.ofValue,V.ofScalar,V.un,V.gd,aExec,lentIds,lendOf,‹Tys _›.h,‹Fc _›.h]
      repeat (refine andC ?_)
      refine aCall_lent2XA ((by have q:=ins_con (tl.map (fun t:ByteArray×Int×Int=>V.agg [V.str t.1,V.int .i64 t.2.1,V.int .i64 t.2.2])) (V.agg [V.str s,V.int .i64 n,V.int .i64 y2]) (lbT tl s) .flat (.inl rfl) (by rw [List.length_map];exact lbT_le tl s) (by rw [List.length_map];omega) (fun x hx=>by obtain ⟨_,_,rfl⟩:=List.mem_map.1 hx;rfl) rfl;rw [hptE] at q;exact q.x)) ?_
      rintro _ _ ⟨rfl,rfl⟩
      refine ⟨_,_,_,rfl,by first | exact .inl ⟨rfl,by simp [Blk.kindIs,fillK_fd]⟩ | exact .inr (by simp [V.coldIn,V.cold,idx]),?_⟩;refine k _ ?_;clear k K
      simp only [zY,zW,set_some,Nat.reduceEqDiff,reduceIte,rho_one,rho_s,rho2_s,rho2_0,rho2_1,V.ren,V.renL,List.set_cons_zero,List.set_cons_succ,rho,Nat.reduceAdd,Nat.add_zero]
      refine zq24 ⟨?_⟩;refine k35 _ ?_;refine n23 _ _ (weak_keep [8,9,11,12] _) ?_;refine zk ⟨?_⟩;refine v_seq ?_;intro Q36 n36 e36 r36;refine v_seqR [8,9,11,12,107] ?_;intro K37 k37;refine zLoad ⟨?_⟩;refine zc (isLoad_con ta (putT tl s n y2) (by omega) (by omega) (put_sz htk hsn)) ⟨?_⟩;refine zUnOp ⟨?_⟩;refine k37 _ ?_;refine zk ⟨?_⟩;refine v_condS _ rfl ?_ ?_
      ·intro hc4
       have hB:(mvB fl tl s n)=false:=by
        rw [mvB,hda]
        cases q:thsB (putT tl s n y2) with
        |false=>simp
        |true=>(exfalso;simp [q,hta] at hc4)
       refine v_seq ?_;intro Q39 n39 e39 r39;refine v_region ?_;intro K40 k40;refine zq42 ⟨?_⟩;refine k40 _ ?_
       apply n39
       ·apply weak_trans (weak_keep [8,9,10] _)
        simp only [keep_mk,keepE_nil,keepE_cons,look_cons,look_nil,Nat.reduceEqDiff,reduceIte]
        exact weak_thin 16 [] rfl
       try simp only [atSlot_cons,atSlot_nil,Nat.reduceEqDiff,reduceIte,List.set_cons_zero,List.set_cons_succ]
       refine v_ret ?_;refine r36 _ ?_;refine r0 _ ?_;refine zf ⟨?_⟩
       simp only [zE,zL,zO,zN,aStepM,optable,set_some,Nat.reduceEqDiff,reduceIte,Nat.reduceLT,implies_true,forall_const,reduceCtorEq,V.ofValue,V.ofScalar,V.un,V.gd,aLoad,row_mk,Blk.row,PartOK,Go.Vm.part,V.cells,V.noSl,V.noRef,Nat.reduceAdd,Nat.reduceLeDiff,Nat.reduceMul,Tryd.underlying9,Ty.c9,Ty.a9,Tryd.underlying63,Ty.c63,Ty.a63,Tryd.underlying65,Ty.c65,Ty.a65]
       try simp only [zE,zL,zO,zN,aStepM,optable,set_some,Nat.reduceEqDiff,reduceIte,Nat.reduceLT,implies_true,forall_const,reduceCtorEq,V.ofValue,V.ofScalar,V.un,V.gd,aLoad,row_mk,Blk.row,PartOK,Go.Vm.part,V.cells,V.noSl,V.noRef,Nat.reduceAdd,Nat.reduceLeDiff,Nat.reduceMul,Tryd.underlying9,Ty.c9,Ty.a9,Tryd.underlying63,Ty.c63,Ty.a63,Tryd.underlying65,Ty.c65,Ty.a65]
       simp only [hB,orS,orN_f,Bool.false_eq_true,if_false,List.map_nil]
       exact ret_all rfl (by first | decide | simp [newIds,refsOf,refs2,refs1]) (by simp) rfl (by simp [newIds,refsOf,refs2,refs1]) (by simp [Blk.kindIs,fillK_fd]) rfl
      ·intro hc4
       have hB:(mvB fl tl s n)=true:=by
        rw [mvB,hda,hcn]
        cases q:thsB (putT tl s n y2) with
        |false=>(exfalso;simp [q,hta] at hc4)
        |true=>simp;omega
       refine v_skip ?_;refine n36 _ _ (weak_keep [8,9,11,12] _) ?_;refine zk ⟨?_⟩
       apply v_seq1
       ·intro Q41 n41 e41 r41
        refine v_draw (by kernel_rfl) ?_;intro K42 q42 k42
        show aAny _ _ _ _ 5 (Array.replicate 5 false) _
        refine zdLoadX q42 true 0 110 ?_;refine aAny_two 1 2 rfl rfl (by kernel_rfl) ?_ ?_
        ·intro K k
         skip
         simp only [zE,zL,zO,zN,aStepM,optable,set_some,Nat.reduceEqDiff,reduceIte,Nat.reduceLT,implies_true,forall_const,reduceCtorEq,V.ofValue,V.ofScalar,V.un,V.gd,aExec,aop,aLoad,row_mk,Blk.row,PartOK,Go.Vm.part,V.cells,V.noSl,V.noRef,Nat.reduceAdd,Nat.reduceLeDiff,Nat.reduceMul,Tryd.underlying9,Ty.c9,Ty.a9,Tryd.underlying63,Ty.c63,Ty.a63,Tryd.underlying65,Ty.c65,Ty.a65,hth,hat,hcn,Int.toNat_natCast,getD_map hy,setat_Thing,getD_map hg1,hl1]
         repeat (refine And.intro (by first | omega | (intros;omega) | (intros;simp_all;done) | (intros;simp_all;omega)) ?_)
         refine k _ ?_;clear k K;refine zoStore 2 ⟨?_⟩;refine zoStore 3 ⟨?_⟩;refine zoAssign 4 ⟨?_⟩;refine aAny_done (by kernel_rfl) ?_;refine k42 _ ?_;refine n41 _ ?_
         exact weak_one [8,9,10] [0,1,2,3,4,5,6,7,8,9,10,11,12,13,14,15]
        ·refine zsStore ⟨?_⟩
         refine zdLoadX q42 true 1 111 ?_;refine zoStore 3 ⟨?_⟩;refine zoAssign 4 ⟨?_⟩;refine aAny_done (by kernel_rfl) ?_;refine k42 _ ?_;refine n41 _ ?_
         exact weak_same [8,9,10] [0,1,2,3,4,5,6,7,8,9,10,11,12,13,14,15]
       ·refine zkm ⟨?_⟩
        refine v_ret ?_;refine r0 _ ?_;refine zf ⟨?_⟩
        simp only [zE,zL,zO,zN,aStepM,optable,set_some,Nat.reduceEqDiff,reduceIte,Nat.reduceLT,implies_true,forall_const,reduceCtorEq,V.ofValue,V.ofScalar,V.un,V.gd,aLoad,row_mk,Blk.row,PartOK,Go.Vm.part,V.cells,V.noSl,V.noRef,Nat.reduceAdd,Nat.reduceLeDiff,Nat.reduceMul,Tryd.underlying9,Ty.c9,Ty.a9,Tryd.underlying63,Ty.c63,Ty.a63,Tryd.underlying65,Ty.c65,Ty.a65]
        try simp only [zE,zL,zO,zN,aStepM,optable,set_some,Nat.reduceEqDiff,reduceIte,Nat.reduceLT,implies_true,forall_const,reduceCtorEq,V.ofValue,V.ofScalar,V.un,V.gd,aLoad,row_mk,Blk.row,PartOK,Go.Vm.part,V.cells,V.noSl,V.noRef,Nat.reduceAdd,Nat.reduceLeDiff,Nat.reduceMul,Tryd.underlying9,Ty.c9,Ty.a9,Tryd.underlying63,Ty.c63,Ty.a63,Tryd.underlying65,Ty.c65,Ty.a65]
        simp only [hB,orS,if_true]
        exact ret_all rfl (by first | decide | simp [newIds,refsOf,refs2,refs1]) (by simp) rfl (by simp [newIds,refsOf,refs2,refs1,hB,orN_t,hda]) (by simp [Blk.kindIs,fillK_fd]) rfl
    ·intro hc1
     have htS:=take_set hy (show 0 < (y0,y1,y2).2.1 - n by show 0 < y1 - n;omega)
     simp only [] at htS
     refine v_skip ?_
     apply n18
     ·apply weak_trans (weak_keep [3,8,9,11,12,14] _)
      simp only [keep_mk,keepE_nil,keepE_cons,look_cons,look_nil,Nat.reduceEqDiff,reduceIte]
      first
      |exact weak_thin 6 _ rfl
      |exact weak_refl _ _
     try simp only [atSlot_cons,atSlot_nil,Nat.reduceEqDiff,reduceIte,List.set_cons_zero,List.set_cons_succ]
     refine v_seqR [3,8,9,11,12,14,15,16] ?_;intro K43 k43
     have F:=Fc.mk (And.intro hth (And.intro hat (And.intro hcn (And.intro @Int.toNat_natCast (And.intro (fun f=>getD_map (f:=f) hy) (And.intro @setat_Thing (And.intro (fun f=>getD_map (f:=f) hg1) (And.intro hl1 htS))))))))
     refine zq2 ⟨?_⟩;refine zLoad ⟨?_⟩;refine zc (bsearch_con tl _ s n y2 (by omega) htk.srt (fun x0 x1 x2=>moveThing1_con x0 x1 x2 s n y2)) ⟨?_⟩;refine zq16 ⟨?_⟩;refine k43 _ ?_;refine zk ⟨?_⟩;refine v_seq ?_;intro Q44 n44 e44 r44;refine v_seqR [3,8,9,11,12,14,15,73] ?_;intro K45 k45;refine zMove ⟨?_⟩;refine k45 _ ?_;refine zk ⟨?_⟩;refine v_condS _ rfl ?_ ?_
     ·intro hc5
      have hft:thereT tl s=true:=hc5
      obtain ⟨⟨z0,z1,z2⟩,hz,hzn⟩:∃z:ByteArray×Int×Int,tl[(lbT tl s)]? =some z∧z.1=s:=by
       rcases there_cases htk.srt s with ⟨q,_⟩ | ⟨z,_,_,q1,q2,_⟩
       ·rw [hft] at q;cases q
       ·exact ⟨z,q1,q2⟩
      simp only [] at hzn
      have hzl:=(List.getElem?_eq_some_iff.1 hz).1
      have hzo:=htk.ok _ (List.mem_of_getElem? hz)
      simp only [] at hzo
      have hzs1:(tl.set (lbT tl s) (z0,z1+n,z2))[(lbT tl s)]? =some (z0,z1+n,z2):=List.getElem?_set_self hzl
      have hl2:(tl.set (lbT tl s) (z0,z1+n,z2)).length=tl.length:=List.length_set
      have hpt2:=put_upd (n:=n) (d:=y2) hft hz hzn
      refine v_seqR [8,9,11,12,14,15] ?_;intro K47 k47
      have F:=Fc.mk (And.intro hth (And.intro hat (And.intro hcn (And.intro @Int.toNat_natCast (And.intro (fun f=>getD_map (f:=f) hy) (And.intro @setat_Thing (And.intro (fun f=>getD_map (f:=f) hg1) (And.intro hl1 (And.intro htS (And.intro (fun f=>getD_map (f:=f) hz) (And.intro (fun f=>getD_map (f:=f) hzs1) (And.intro hl2 (And.intro @List.set_set.{0} hpt2)))))))))))))
      refine zq11 ⟨?_⟩;refine zIndexAddr ⟨?_⟩;refine zq11 ⟨?_⟩;refine zBinOpW ⟨?_⟩;refine zIndexAddr ⟨?_⟩;refine zq24 ⟨?_⟩;refine k47 _ ?_;refine zk ⟨?_⟩;refine v_draw (by kernel_rfl) ?_;intro K48 q48 k48
      show aAny _ _ _ _ 15 (Array.replicate 15 false) _
      refine zdFieldAddr q48 true 0 84 ?_;refine zdLoadX q48 true 1 85 ?_;refine zdMove q48 true 2 86 ?_;refine zdFieldAddr q48 true 3 87 ?_;refine zdLoadX q48 true 4 88 ?_;refine zdMove q48 true 5 89 ?_;refine aAny_take q48 true 6 90 rfl rfl (by kernel_rfl) (by kernel_rfl) ?_
      apply Exists.intro;apply And.intro
      ·intro t hn gx ho K' k'
       have g88:=gx 88 (by decide)
       have g89:=gx 89 (by decide)
       simp only [get_mk,look_cons,look_nil,set_some,Nat.reduceEqDiff,reduceIte] at g88 g89
       first | have row0:=grow_row (i:=0) (ho rfl) rfl | have row0:t.n+0=t.n:=rfl
       first | have row1:=grow_row (i:=1) (ho rfl) rfl | have row1:t.n+0=t.n:=rfl
       first | have row2:=grow_row (i:=2) (ho rfl) rfl | have row2:t.n+0=t.n:=rfl
       first | have row3:=grow_row (i:=3) (ho rfl) rfl | have row3:t.n+0=t.n:=rfl
       first | have row4:=grow_row (i:=4) (ho rfl) rfl | have row4:t.n+0=t.n:=rfl
       first | have row5:=grow_row (i:=5) (ho rfl) rfl | have row5:t.n+0=t.n:=rfl
       first | have row6:=grow_row (i:=6) (ho rfl) rfl | have row6:t.n+0=t.n:=rfl
       first | have row7:=grow_row (i:=7) (ho rfl) rfl | have row7:t.n+0=t.n:=rfl
       first | have row8:=grow_row (i:=8) (ho rfl) rfl | have row8:t.n+0=t.n:=rfl
       first | have row9:=grow_row (i:=9) (ho rfl) rfl | have row9:t.n+0=t.n:=rfl
       first | have row10:=grow_row (i:=10) (ho rfl) rfl | have row10:t.n+0=t.n:=rfl
       first | have row11:=grow_row (i:=11) (ho rfl) rfl | have row11:t.n+0=t.n:=rfl
       first | have row12:=grow_row (i:=12) (ho rfl) rfl | have row12:t.n+0=t.n:=rfl
       first | have row13:=grow_row (i:=13) (ho rfl) rfl | have row13:t.n+0=t.n:=rfl
       have hdl:90 < t.n:=by rw [hn];show 90 < 112;decide
       clear hn
       refine .inl ?_
       simp only [zE,zL,zN,hdl,aStepM,optable,Nat.reduceEqDiff,reduceIte,implies_true,forall_const,reduceCtorEq,V.ofValue,V.ofScalar,V.un,V.gd,aExec,aop,g88,g89,row0,row1,row2,row3,row4,row5,row6,row7,row8,row9,row10,row11,row12,row13,List.mem_cons,List.not_mem_nil,or_false,forall_eq_or_imp,forall_eq,aIndexAddr,row_mk,Blk.row,Go.Vm.V.cells,List.forall_mem_map,List.length_map,Int.toNat_natCast,Int.reduceToNat,TypeDesc.slice.injEq,Nat.reduceAdd,Nat.reduceLeDiff,Nat.reduceLT,Nat.reduceMul,Tryd.underlying63,Ty.c63,Ty.a63,Tryd.underlying93,Ty.c93,Ty.a93,hth,hat,hcn,getD_map hy,setat_Thing,getD_map hg1,hl1,htS,getD_map hz,getD_map hzs1,hl2,List.set_set,hpt2]
       repeat (refine And.intro (by first | omega | (exact set_all (fun x hx=>by obtain ⟨t,_,rfl⟩:=List.mem_map.1 hx;rfl) rfl) | (intros;omega) | (intros;simp_all;done) | (intros;simp_all;omega)) ?_)
       exact k'
      simp only [set_some]
      refine zdFieldAddr q48 true 7 91 ?_;refine zdLoadX q48 true 8 92 ?_;refine zdFieldAddr q48 true 9 93 ?_;refine zdLoadX q48 true 10 94 ?_;refine zdMin q48 true 11 95 ?_;refine aAny_take q48 true 12 96 rfl rfl (by kernel_rfl) (by kernel_rfl) ?_
      apply Exists.intro;apply And.intro
      ·intro t hn gx ho K' k'
       have g85:=gx 85 (by decide)
       have g86:=gx 86 (by decide)
       simp only [get_mk,look_cons,look_nil,set_some,Nat.reduceEqDiff,reduceIte] at g85 g86
       first | have row0:=grow_row (i:=0) (ho rfl) rfl | have row0:t.n+0=t.n:=rfl
       first | have row1:=grow_row (i:=1) (ho rfl) rfl | have row1:t.n+0=t.n:=rfl
       first | have row2:=grow_row (i:=2) (ho rfl) rfl | have row2:t.n+0=t.n:=rfl
       first | have row3:=grow_row (i:=3) (ho rfl) rfl | have row3:t.n+0=t.n:=rfl
       first | have row4:=grow_row (i:=4) (ho rfl) rfl | have row4:t.n+0=t.n:=rfl
       first | have row5:=grow_row (i:=5) (ho rfl) rfl | have row5:t.n+0=t.n:=rfl
       first | have row6:=grow_row (i:=6) (ho rfl) rfl | have row6:t.n+0=t.n:=rfl
       first | have row7:=grow_row (i:=7) (ho rfl) rfl | have row7:t.n+0=t.n:=rfl
       first | have row8:=grow_row (i:=8) (ho rfl) rfl | have row8:t.n+0=t.n:=rfl
       first | have row9:=grow_row (i:=9) (ho rfl) rfl | have row9:t.n+0=t.n:=rfl
       first | have row10:=grow_row (i:=10) (ho rfl) rfl | have row10:t.n+0=t.n:=rfl
       first | have row11:=grow_row (i:=11) (ho rfl) rfl | have row11:t.n+0=t.n:=rfl
       first | have row12:=grow_row (i:=12) (ho rfl) rfl | have row12:t.n+0=t.n:=rfl
       first | have row13:=grow_row (i:=13) (ho rfl) rfl | have row13:t.n+0=t.n:=rfl
       have hdl:96 < t.n:=by rw [hn];show 96 < 112;decide
       clear hn
       refine .inl ?_
       simp only [zE,zL,zN,hdl,aStepM,optable,Nat.reduceEqDiff,reduceIte,implies_true,forall_const,reduceCtorEq,V.ofValue,V.ofScalar,V.un,V.gd,aExec,aop,g85,g86,row0,row1,row2,row3,row4,row5,row6,row7,row8,row9,row10,row11,row12,row13,List.mem_cons,List.not_mem_nil,or_false,forall_eq_or_imp,forall_eq,aIndexAddr,row_mk,Blk.row,Go.Vm.V.cells,List.forall_mem_map,List.length_map,Int.toNat_natCast,Int.reduceToNat,TypeDesc.slice.injEq,Nat.reduceAdd,Nat.reduceLeDiff,Nat.reduceLT,Nat.reduceMul,Tryd.underlying63,Ty.c63,Ty.a63,Tryd.underlying93,Ty.c93,Ty.a93,hth,hat,hcn,getD_map hy,setat_Thing,getD_map hg1,hl1,htS,getD_map hz,getD_map hzs1,hl2,List.set_set,hpt2]
       repeat (refine And.intro (by first | omega | (exact set_all (fun x hx=>by obtain ⟨t,_,rfl⟩:=List.mem_map.1 hx;rfl) rfl) | (intros;omega) | (intros;simp_all;done) | (intros;simp_all;omega)) ?_)
       exact k'
      simp only [set_some]
      refine zdFieldAddr q48 true 13 97 ?_;refine zoStore 14 ⟨?_⟩;refine aAny_done (by kernel_rfl) ?_;refine k48 _ ?_;refine n44 _ _ (weak_keep [8,9,11,12] _) ?_;refine zk ⟨?_⟩;refine v_seq ?_;intro Q49 n49 e49 r49;refine v_seqR [8,9,11,12,107] ?_;intro K50 k50;refine zLoad ⟨?_⟩;refine zc (isLoad_con ta (putT tl s n y2) (by omega) (by omega) (put_sz htk hsn)) ⟨?_⟩;refine zUnOp ⟨?_⟩;refine k50 _ ?_;refine zk ⟨?_⟩;refine v_condS _ rfl ?_ ?_
      ·intro hc6
       have hB:(mvB fl tl s n)=false:=by
        rw [mvB,hda]
        cases q:thsB (putT tl s n y2) with
        |false=>simp
        |true=>(exfalso;simp [q,hta] at hc6)
       refine v_seq ?_;intro Q52 n52 e52 r52;refine v_region ?_;intro K53 k53;refine zq42 ⟨?_⟩;refine k53 _ ?_
       apply n52
       ·apply weak_trans (weak_keep [8,9,10] _)
        simp only [keep_mk,keepE_nil,keepE_cons,look_cons,look_nil,Nat.reduceEqDiff,reduceIte]
        exact weak_thin 13 [] rfl
       try simp only [atSlot_cons,atSlot_nil,Nat.reduceEqDiff,reduceIte,List.set_cons_zero,List.set_cons_succ]
       refine v_ret ?_;refine r49 _ ?_;refine r0 _ ?_;refine zf ⟨?_⟩
       simp only [zE,zL,zO,zN,aStepM,optable,set_some,Nat.reduceEqDiff,reduceIte,Nat.reduceLT,implies_true,forall_const,reduceCtorEq,V.ofValue,V.ofScalar,V.un,V.gd,aLoad,row_mk,Blk.row,PartOK,Go.Vm.part,V.cells,V.noSl,V.noRef,Nat.reduceAdd,Nat.reduceLeDiff,Nat.reduceMul,Tryd.underlying9,Ty.c9,Ty.a9,Tryd.underlying63,Ty.c63,Ty.a63,Tryd.underlying65,Ty.c65,Ty.a65]
       try simp only [zE,zL,zO,zN,aStepM,optable,set_some,Nat.reduceEqDiff,reduceIte,Nat.reduceLT,implies_true,forall_const,reduceCtorEq,V.ofValue,V.ofScalar,V.un,V.gd,aLoad,row_mk,Blk.row,PartOK,Go.Vm.part,V.cells,V.noSl,V.noRef,Nat.reduceAdd,Nat.reduceLeDiff,Nat.reduceMul,Tryd.underlying9,Ty.c9,Ty.a9,Tryd.underlying63,Ty.c63,Ty.a63,Tryd.underlying65,Ty.c65,Ty.a65]
       simp only [hB,orS,orN_f,Bool.false_eq_true,if_false,List.map_nil]
       exact ret_all rfl (by first | decide | simp [newIds,refsOf,refs2,refs1]) (by simp) rfl (by simp [newIds,refsOf,refs2,refs1]) (by simp [Blk.kindIs,fillK_fd]) rfl
      ·intro hc6
       have hB:(mvB fl tl s n)=true:=by
        rw [mvB,hda,hcn]
        cases q:thsB (putT tl s n y2) with
        |false=>(exfalso;simp [q,hta] at hc6)
        |true=>simp;omega
       refine v_skip ?_;refine n49 _ _ (weak_keep [8,9,11,12] _) ?_;refine zk ⟨?_⟩
       apply v_seq1
       ·intro Q54 n54 e54 r54
        refine v_draw (by kernel_rfl) ?_;intro K55 q55 k55
        show aAny _ _ _ _ 5 (Array.replicate 5 false) _
        refine zdLoadX q55 true 0 110 ?_;refine aAny_two 1 2 rfl rfl (by kernel_rfl) ?_ ?_
        ·intro K k
         skip
         simp only [zE,zL,zO,zN,aStepM,optable,set_some,Nat.reduceEqDiff,reduceIte,Nat.reduceLT,implies_true,forall_const,reduceCtorEq,V.ofValue,V.ofScalar,V.un,V.gd,aExec,aop,aLoad,row_mk,Blk.row,PartOK,Go.Vm.part,V.cells,V.noSl,V.noRef,Nat.reduceAdd,Nat.reduceLeDiff,Nat.reduceMul,Tryd.underlying9,Ty.c9,Ty.a9,Tryd.underlying63,Ty.c63,Ty.a63,Tryd.underlying65,Ty.c65,Ty.a65,hth,hat,hcn,Int.toNat_natCast,getD_map hy,setat_Thing,getD_map hg1,hl1,htS,getD_map hz,getD_map hzs1,hl2,List.set_set,hpt2]
         repeat (refine And.intro (by first | omega | (intros;omega) | (intros;simp_all;done) | (intros;simp_all;omega)) ?_)
         refine k _ ?_;clear k K;refine zoStore 2 ⟨?_⟩;refine zoStore 3 ⟨?_⟩;refine zoAssign 4 ⟨?_⟩;refine aAny_done (by kernel_rfl) ?_;refine k55 _ ?_;refine n54 _ ?_
         exact weak_one [8,9,10] [0,1,2,3,4,5,6,7,8,9,10,11,12]
        ·refine zsStore ⟨?_⟩
         refine zdLoadX q55 true 1 111 ?_;refine zoStore 3 ⟨?_⟩;refine zoAssign 4 ⟨?_⟩;refine aAny_done (by kernel_rfl) ?_;refine k55 _ ?_;refine n54 _ ?_
         exact weak_same [8,9,10] [0,1,2,3,4,5,6,7,8,9,10,11,12]
       ·refine zkm ⟨?_⟩
        refine v_ret ?_;refine r0 _ ?_;refine zf ⟨?_⟩
        simp only [zE,zL,zO,zN,aStepM,optable,set_some,Nat.reduceEqDiff,reduceIte,Nat.reduceLT,implies_true,forall_const,reduceCtorEq,V.ofValue,V.ofScalar,V.un,V.gd,aLoad,row_mk,Blk.row,PartOK,Go.Vm.part,V.cells,V.noSl,V.noRef,Nat.reduceAdd,Nat.reduceLeDiff,Nat.reduceMul,Tryd.underlying9,Ty.c9,Ty.a9,Tryd.underlying63,Ty.c63,Ty.a63,Tryd.underlying65,Ty.c65,Ty.a65]
        try simp only [zE,zL,zO,zN,aStepM,optable,set_some,Nat.reduceEqDiff,reduceIte,Nat.reduceLT,implies_true,forall_const,reduceCtorEq,V.ofValue,V.ofScalar,V.un,V.gd,aLoad,row_mk,Blk.row,PartOK,Go.Vm.part,V.cells,V.noSl,V.noRef,Nat.reduceAdd,Nat.reduceLeDiff,Nat.reduceMul,Tryd.underlying9,Ty.c9,Ty.a9,Tryd.underlying63,Ty.c63,Ty.a63,Tryd.underlying65,Ty.c65,Ty.a65]
        simp only [hB,orS,if_true]
        exact ret_all rfl (by first | decide | simp [newIds,refsOf,refs2,refs1]) (by simp) rfl (by simp [newIds,refsOf,refs2,refs1,hB,orN_t,hda]) (by simp [Blk.kindIs,fillK_fd]) rfl
     ·intro hc5
      have hft:thereT tl s=false:=by
       cases q:thereT tl s with
       |false=>rfl
       |true=>(exfalso;simp [q] at hc5)
      have hptE:=put_ins (f:=(fun t:ByteArray×Int×Int=>V.agg [V.str t.1,V.int .i64 t.2.1,V.int .i64 t.2.2])) (n:=n) (d:=y2) hft
      refine v_region ?_;intro K56 k56;refine zq11 ⟨?_⟩;refine zLoad ⟨?_⟩;refine zBuildSlice ⟨?_⟩;refine v_op ?_;intro K k
      simp only [zE,zM,aStepM,optable,set_some,Nat.reduceEqDiff,reduceIte,Nat.reduceLT,implies_true,forall_const,reduceCtorEq,V.ofValue,V.ofScalar,V.un,V.gd,aExec,lentIds,lendOf,‹Tys _›.h,‹Fc _›.h]
      repeat (refine andC ?_)
      refine aCall_lent2XA ((by have q:=ins_con (tl.map (fun t:ByteArray×Int×Int=>V.agg [V.str t.1,V.int .i64 t.2.1,V.int .i64 t.2.2])) (V.agg [V.str s,V.int .i64 n,V.int .i64 y2]) (lbT tl s) .flat (.inl rfl) (by rw [List.length_map];exact lbT_le tl s) (by rw [List.length_map];omega) (fun x hx=>by obtain ⟨_,_,rfl⟩:=List.mem_map.1 hx;rfl) rfl;rw [hptE] at q;exact q.x)) ?_
      rintro _ _ ⟨rfl,rfl⟩
      refine ⟨_,_,_,rfl,by first | exact .inl ⟨rfl,by simp [Blk.kindIs,fillK_fd]⟩ | exact .inr (by simp [V.coldIn,V.cold,idx]),?_⟩;refine k _ ?_;clear k K
      simp only [zY,zW,set_some,Nat.reduceEqDiff,reduceIte,rho_one,rho_s,rho2_s,rho2_0,rho2_1,V.ren,V.renL,List.set_cons_zero,List.set_cons_succ,rho,Nat.reduceAdd,Nat.add_zero]
      refine zq24 ⟨?_⟩;refine k56 _ ?_;refine n44 _ _ (weak_keep [8,9,11,12] _) ?_;refine zk ⟨?_⟩;refine v_seq ?_;intro Q57 n57 e57 r57;refine v_seqR [8,9,11,12,107] ?_;intro K58 k58;refine zLoad ⟨?_⟩;refine zc (isLoad_con ta (putT tl s n y2) (by omega) (by omega) (put_sz htk hsn)) ⟨?_⟩;refine zUnOp ⟨?_⟩;refine k58 _ ?_;refine zk ⟨?_⟩;refine v_condS _ rfl ?_ ?_
      ·intro hc7
       have hB:(mvB fl tl s n)=false:=by
        rw [mvB,hda]
        cases q:thsB (putT tl s n y2) with
        |false=>simp
        |true=>(exfalso;simp [q,hta] at hc7)
       refine v_seq ?_;intro Q60 n60 e60 r60;refine v_region ?_;intro K61 k61;refine zq42 ⟨?_⟩;refine k61 _ ?_
       apply n60
       ·apply weak_trans (weak_keep [8,9,10] _)
        simp only [keep_mk,keepE_nil,keepE_cons,look_cons,look_nil,Nat.reduceEqDiff,reduceIte]
        exact weak_thin 15 [] rfl
       try simp only [atSlot_cons,atSlot_nil,Nat.reduceEqDiff,reduceIte,List.set_cons_zero,List.set_cons_succ]
       refine v_ret ?_;refine r57 _ ?_;refine r0 _ ?_;refine zf ⟨?_⟩
       simp only [zE,zL,zO,zN,aStepM,optable,set_some,Nat.reduceEqDiff,reduceIte,Nat.reduceLT,implies_true,forall_const,reduceCtorEq,V.ofValue,V.ofScalar,V.un,V.gd,aLoad,row_mk,Blk.row,PartOK,Go.Vm.part,V.cells,V.noSl,V.noRef,Nat.reduceAdd,Nat.reduceLeDiff,Nat.reduceMul,Tryd.underlying9,Ty.c9,Ty.a9,Tryd.underlying63,Ty.c63,Ty.a63,Tryd.underlying65,Ty.c65,Ty.a65]
       try simp only [zE,zL,zO,zN,aStepM,optable,set_some,Nat.reduceEqDiff,reduceIte,Nat.reduceLT,implies_true,forall_const,reduceCtorEq,V.ofValue,V.ofScalar,V.un,V.gd,aLoad,row_mk,Blk.row,PartOK,Go.Vm.part,V.cells,V.noSl,V.noRef,Nat.reduceAdd,Nat.reduceLeDiff,Nat.reduceMul,Tryd.underlying9,Ty.c9,Ty.a9,Tryd.underlying63,Ty.c63,Ty.a63,Tryd.underlying65,Ty.c65,Ty.a65]
       simp only [hB,orS,orN_f,Bool.false_eq_true,if_false,List.map_nil]
       exact ret_all rfl (by first | decide | simp [newIds,refsOf,refs2,refs1]) (by simp) rfl (by simp [newIds,refsOf,refs2,refs1]) (by simp [Blk.kindIs,fillK_fd]) rfl
      ·intro hc7
       have hB:(mvB fl tl s n)=true:=by
        rw [mvB,hda,hcn]
        cases q:thsB (putT tl s n y2) with
        |false=>(exfalso;simp [q,hta] at hc7)
        |true=>simp;omega
       refine v_skip ?_;refine n57 _ _ (weak_keep [8,9,11,12] _) ?_;refine zk ⟨?_⟩
       apply v_seq1
       ·intro Q62 n62 e62 r62
        refine v_draw (by kernel_rfl) ?_;intro K63 q63 k63
        show aAny _ _ _ _ 5 (Array.replicate 5 false) _
        refine zdLoadX q63 true 0 110 ?_;refine aAny_two 1 2 rfl rfl (by kernel_rfl) ?_ ?_
        ·intro K k
         skip
         simp only [zE,zL,zO,zN,aStepM,optable,set_some,Nat.reduceEqDiff,reduceIte,Nat.reduceLT,implies_true,forall_const,reduceCtorEq,V.ofValue,V.ofScalar,V.un,V.gd,aExec,aop,aLoad,row_mk,Blk.row,PartOK,Go.Vm.part,V.cells,V.noSl,V.noRef,Nat.reduceAdd,Nat.reduceLeDiff,Nat.reduceMul,Tryd.underlying9,Ty.c9,Ty.a9,Tryd.underlying63,Ty.c63,Ty.a63,Tryd.underlying65,Ty.c65,Ty.a65,hth,hat,hcn,Int.toNat_natCast,getD_map hy,setat_Thing,getD_map hg1,hl1,htS]
         repeat (refine And.intro (by first | omega | (intros;omega) | (intros;simp_all;done) | (intros;simp_all;omega)) ?_)
         refine k _ ?_;clear k K;refine zoStore 2 ⟨?_⟩;refine zoStore 3 ⟨?_⟩;refine zoAssign 4 ⟨?_⟩;refine aAny_done (by kernel_rfl) ?_;refine k63 _ ?_;refine n62 _ ?_
         exact weak_one [8,9,10] [0,1,2,3,4,5,6,7,8,9,10,11,12,13,14]
        ·refine zsStore ⟨?_⟩
         refine zdLoadX q63 true 1 111 ?_;refine zoStore 3 ⟨?_⟩;refine zoAssign 4 ⟨?_⟩;refine aAny_done (by kernel_rfl) ?_;refine k63 _ ?_;refine n62 _ ?_
         exact weak_same [8,9,10] [0,1,2,3,4,5,6,7,8,9,10,11,12,13,14]
       ·refine zkm ⟨?_⟩
        refine v_ret ?_;refine r0 _ ?_;refine zf ⟨?_⟩
        simp only [zE,zL,zO,zN,aStepM,optable,set_some,Nat.reduceEqDiff,reduceIte,Nat.reduceLT,implies_true,forall_const,reduceCtorEq,V.ofValue,V.ofScalar,V.un,V.gd,aLoad,row_mk,Blk.row,PartOK,Go.Vm.part,V.cells,V.noSl,V.noRef,Nat.reduceAdd,Nat.reduceLeDiff,Nat.reduceMul,Tryd.underlying9,Ty.c9,Ty.a9,Tryd.underlying63,Ty.c63,Ty.a63,Tryd.underlying65,Ty.c65,Ty.a65]
        try simp only [zE,zL,zO,zN,aStepM,optable,set_some,Nat.reduceEqDiff,reduceIte,Nat.reduceLT,implies_true,forall_const,reduceCtorEq,V.ofValue,V.ofScalar,V.un,V.gd,aLoad,row_mk,Blk.row,PartOK,Go.Vm.part,V.cells,V.noSl,V.noRef,Nat.reduceAdd,Nat.reduceLeDiff,Nat.reduceMul,Tryd.underlying9,Ty.c9,Ty.a9,Tryd.underlying63,Ty.c63,Ty.a63,Tryd.underlying65,Ty.c65,Ty.a65]
        simp only [hB,orS,if_true]
        exact ret_all rfl (by first | decide | simp [newIds,refsOf,refs2,refs1]) (by simp) rfl (by simp [newIds,refsOf,refs2,refs1,hB,orN_t,hda]) (by simp [Blk.kindIs,fillK_fd]) rfl
def mvG (fa:ByteArray) (fl:List (ByteArray×Int×Int)) (ta:ByteArray) (tl:List (ByteArray×Int×Int)) (s:ByteArray) (n:Int):Bool:=(nameB fa && thsB fl) && (nameB ta && thsB tl) && tnB s && (decide (1≤n) && decide (n≤99)) && !decide (fa=ta)
def mvAll (fa:ByteArray) (fl:List (ByteArray×Int×Int)) (ta:ByteArray) (tl:List (ByteArray×Int×Int)) (s:ByteArray) (n:Int):Bool:=mvG fa fl ta tl s n && mvB fl tl s n
theorem mvG_facts {fa ta s:ByteArray} {fl tl:List (ByteArray×Int×Int)} {n:Int} (h:mvG fa fl ta tl s n=true):nameB fa=true∧thsB fl=true∧nameB ta=true∧thsB tl=true∧tnB s=true∧1≤n∧n≤99:=by
  simp only [mvG,Bool.and_eq_true,decide_eq_true_eq] at h
  exact ⟨h.1.1.1.1.1,h.1.1.1.1.2,h.1.1.1.2.1,h.1.1.1.2.2,h.1.1.2,h.1.2⟩
set_option maxHeartbeats 1000000 in
theorem indexFuncLoad_con (l:List (ByteArray×List (ByteArray×Int×Int))) (g:Nat) (caps:List V) (p:ByteArray×List (ByteArray×Int×Int)→Bool) (hl:l.length≤1048576) (hc:Caps caps) (hg:∀x0 x1,(x0,x1)∈l→Con Tryd.prog g (V.agg [V.str x0,V.sl (x1.map (fun t:ByteArray×Int×Int=>V.agg [V.str t.1,V.int .i64 t.2.1,V.int .i64 t.2.2]))]::caps) [] (.bool (p (x0,x1))) []):Con Tryd.prog 173 [.sl (l.map (fun t:ByteArray×List (ByteArray×Int×Int)=>V.agg [V.str t.1,V.sl (t.2.map (fun t:ByteArray×Int×Int=>V.agg [V.str t.1,V.int .i64 t.2.1,V.int .i64 t.2.2]))])),.fn g caps] [] (.int .i64 (firstP p 0 l)) []:=by
 refine v_con [.tmp 4] [] Tryd.func173 rfl rfl rfl (by simp [Tryd.ntmps173]) ?_
 intro Q0 n0 r0
 simp only [Tryd.ntmps173,envFrom,Nat.reduceAdd]
 have T:=Tys.mk (And.intro Ty.t3 (And.intro Ty.t4 (And.intro Ty.t9 (And.intro Ty.t63 (And.intro Ty.t65 (And.intro Ty.t66 Ty.t93))))))
 have F:=Fc.mk True.intro
 refine v_seqR [0,1] ?_;intro K1 k1;refine zAssign ⟨?_⟩;refine k1 _ ?_;refine zk ⟨?_⟩;refine v_seq ?_;intro Q2 n2 e2 r2;refine v_seqR [0,1,7,8] ?_;intro K3 k3;refine zq14 ⟨?_⟩;refine k3 _ ?_;refine zk ⟨?_⟩;refine v_block ?_;intro Q4 n4 x4 e4 r4;refine v_loop (fun i=>⟨[(0,.sl (l.map (fun t:ByteArray×List (ByteArray×Int×Int)=>V.agg [V.str t.1,V.sl (t.2.map (fun t:ByteArray×Int×Int=>V.agg [V.str t.1,V.int .i64 t.2.1,V.int .i64 t.2.2]))]))),(1,.fn g caps),(7,.int .i64 l.length),(8,.int .i64 (Nat.cast i))],[],false,19,0⟩) (fun i=>i≤l.length∧firstP p i (l.drop i)=firstP p 0 l) (fun i=>l.length - i) 0 ?_ ?_ ?_
 ·refine weak_of [0,1,7,8] ?_
  simp only [keep_mk,keepE_nil,keepE_cons,look_cons,look_nil,Nat.reduceEqDiff,reduceIte]
  rfl
 ·exact ⟨Nat.zero_le _,rfl⟩
 ·rintro i hok5 Q5 n5 e5 r5
  obtain ⟨hi1,hR⟩:=hok5
  refine v_seqR [0,1,7,8,9] ?_;intro K6 k6;refine zBinOp ⟨?_⟩;refine k6 _ ?_;refine zk ⟨?_⟩;refine v_seq ?_;intro Q7 n7 e7 r7;refine v_condS _ rfl ?_ ?_
  ·intro hc0
   have hlt:i < l.length:=by omega
   obtain ⟨⟨x0,x1⟩,hx⟩:∃x:ByteArray×List (ByteArray×Int×Int),l[i]? =some x:=⟨l[i]'(by omega),List.getElem?_eq_getElem (by omega)⟩
   have hst:=first_step (p:=p) hx
   refine v_skip ?_;refine n7 _ _ (weak_keep [0,1,7,8] _) ?_;refine zk ⟨?_⟩;refine v_seq ?_;intro Q9 n9 e9 r9;refine v_block ?_;intro Q10 n10 x10 e10 r10;refine v_seqR [0,1,5,7,8] ?_;intro K11 k11
   have F:=Fc.mk (fun f=>getD_map (f:=f) hx)
   refine zq19 ⟨?_⟩;refine k11 _ ?_;refine zk ⟨?_⟩;refine v_seqR [0,1,5,7,8,16] ?_;intro K12 k12;refine zq3 ⟨?_⟩;refine zq32 ⟨?_⟩;refine zcc (hg x0 x1 (List.mem_of_getElem? hx)) ⟨?_⟩;refine k12 _ ?_;refine zk ⟨?_⟩;refine v_condS _ rfl ?_ ?_
   ·intro hc1
    refine v_seqR [4] ?_;intro K14 k14;refine zq19 ⟨?_⟩;refine k14 _ ?_;refine zk ⟨?_⟩;refine v_ret ?_;refine r10 _ ?_;refine r9 _ ?_;refine r5 _ ?_;refine r4 _ ?_;refine r2 _ ?_;refine r0 _ ?_;refine zf ⟨?_⟩
    exact ret_pure rfl (by rw [←hR,hst,if_pos hc1]) (.inl rfl)
   ·intro hc1
    refine v_skip ?_;refine n10 _ ?_;refine n9 _ _ (weak_keep [0,1,7,8] _) ?_;refine zk ⟨?_⟩;refine v_region ?_;intro K15 k15;refine zq6 ⟨?_⟩;refine k15 _ ?_;refine n5 _ (i+1) ?_ ?_ ?_
    ·refine weak_bothC [0,1,7,8] [] ⟨?_⟩
     rfl
    ·exact ⟨by omega,by rw [←hR,hst,if_neg (by simp [hc1])]⟩
    ·show _ < _;omega
  ·intro hc0
   refine v_exit ?_;refine e7 _ _ ?_;refine e5 _ _ ?_;refine x4 _ ?_;refine n2 _ _ (weak_keep [] _) ?_;refine zk ⟨?_⟩;refine v_seqR [4] ?_;intro K16 k16;refine zAssign ⟨?_⟩;refine k16 _ ?_;refine zk ⟨?_⟩;refine v_ret ?_;refine r0 _ ?_;refine zf ⟨?_⟩
   exact ret_pure rfl (by rw [←hR,first_end (by omega)]) (.inl rfl)
set_option maxHeartbeats 1000000 in
theorem containsFuncLoad_con (l:List (ByteArray×List (ByteArray×Int×Int))) (g:Nat) (caps:List V) (p:ByteArray×List (ByteArray×Int×Int)→Bool) (hl:l.length≤1048576) (hc:Caps caps) (hg:∀x0 x1,(x0,x1)∈l→Con Tryd.prog g (V.agg [V.str x0,V.sl (x1.map (fun t:ByteArray×Int×Int=>V.agg [V.str t.1,V.int .i64 t.2.1,V.int .i64 t.2.2]))]::caps) [] (.bool (p (x0,x1))) []):Con Tryd.prog 136 [.sl (l.map (fun t:ByteArray×List (ByteArray×Int×Int)=>V.agg [V.str t.1,V.sl (t.2.map (fun t:ByteArray×Int×Int=>V.agg [V.str t.1,V.int .i64 t.2.1,V.int .i64 t.2.2]))])),.fn g caps] [] (.bool (l.any p)) []:=by
 refine v_con [.tmp 4] [] Tryd.func136 rfl rfl rfl (by simp [Tryd.ntmps136]) ?_
 intro Q0 n0 r0
 simp only [Tryd.ntmps136,envFrom,Nat.reduceAdd]
 have T:=Tys.mk (And.intro Ty.t3 (And.intro Ty.t9 (And.intro Ty.t63 (And.intro Ty.t65 (And.intro Ty.t66 Ty.t93)))))
 have F:=Fc.mk True.intro
 refine v_seqR [0,1] ?_;intro K1 k1;refine zAssign ⟨?_⟩;refine k1 _ ?_;refine zk ⟨?_⟩;refine v_seqR [4] ?_;intro K2 k2;refine zq3 ⟨?_⟩;refine zcc (indexFuncLoad_con l g caps p hl hc hg) ⟨?_⟩;refine zq28 ⟨?_⟩;refine k2 _ ?_;refine zk ⟨?_⟩;refine v_ret ?_;refine r0 _ ?_;refine zf ⟨?_⟩
 exact ret_pure rfl (by rw [first_any]) (.inl rfl)
end Go.Proofs.YtbameklegpgkfaaDoor
