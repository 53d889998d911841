/- What functions compute. No condition. -/
import Derived.Test.YtbameklegpgkfaaDoorUz
import Derived.Test.YtbameklegpgkfaaDoorUty
import Derived.Test.YtbameklegpgkfaaDoorUmG
import Derived.Test.YtbameklegpgkfaaDoorX3
import Derived.Test.YtbameklegpgkfaaDoorX1
import Derived.Test.YtbameklegpgkfaaDoorX4
set_option linter.unusedSimpArgs false
set_option linter.unusedVariables false
set_option linter.defProp false
namespace Go.Proofs.YtbameklegpgkfaaDoor
open Go Go.Vm
def takeT (l:List (ByteArray×Int×Int)) (s:ByteArray) (n:Int):List (ByteArray×Int×Int):=match l[lbT l s]? with
  | some t=>if 0 < t.2.1 - n then l.take (lbT l s)++(t.1,t.2.1 - n,t.2.2)::l.drop (lbT l s+1) else l.take (lbT l s)++l.drop (lbT l s+1)
  | none=>l
def minI (a b:Int):Int:=if b < a then b else a
def putT (l:List (ByteArray×Int×Int)) (s:ByteArray) (n d:Int):List (ByteArray×Int×Int):=match thereT l s,l[lbT l s]? with
  | true,some t=>l.take (lbT l s)++(s,n+t.2.1,minI d t.2.2)::l.drop (lbT l s+1)
  | _,_=>l.take (lbT l s)++(s,n,d)::l.drop (lbT l s)
theorem put_new {l:List (ByteArray×Int×Int)} {s:ByteArray} (n d:Int) (h:thereT l s=false):putT l s n d=l.take (lbT l s)++(s,n,d)::l.drop (lbT l s):=by
  unfold putT;rw [h]
theorem put_old {l:List (ByteArray×Int×Int)} {s:ByteArray} (n d:Int) (h:thereT l s=true) {y:(ByteArray×Int×Int)} (hy:l[lbT l s]? =some y):putT l s n d=l.take (lbT l s)++(s,n+y.2.1,minI d y.2.2)::l.drop (lbT l s+1):=by
  unfold putT;rw [h,hy]
def dayOf (l:List (ByteArray×Int×Int)) (s:ByteArray):Int:=match l[lbT l s]? with
  | some t=>t.2.2
  | none=>0
def orS (b:Bool) (s:ByteArray):ByteArray:=if b then s else .empty
theorem take_len {l:List (ByteArray×Int×Int)} {s:ByteArray} {n:Int}:(takeT l s n).length≤l.length:=by
  unfold takeT
  split
  · rename_i t ht
    have:=(List.getElem?_eq_some_iff.1 ht).1
    split<;>simp<;>omega
  · exact Nat.le_refl _
theorem put_len {l:List (ByteArray×Int×Int)} {s:ByteArray} {n d:Int}:(putT l s n d).length≤l.length+1:=by
  have:=lbT_le l s
  unfold putT
  split
  · rename_i t _ ht
    have:=(List.getElem?_eq_some_iff.1 ht).1
    simp;omega
  · simp;omega
theorem bs_hi {s:ByteArray} {l:List (ByteArray×Int×Int)} (hs:SortedT l) {h j:Nat} {x:(ByteArray×Int×Int)} (hx:l[h]? =some x) (hf:strLt x.1 s=false):∀k y,l[k]? =some y→h≤k→strLt y.1 s=false:=by
  intro k y hk hle
  obtain ⟨hhl,hxe⟩:=List.getElem?_eq_some_iff.1 hx
  obtain ⟨hkl,hye⟩:=List.getElem?_eq_some_iff.1 hk
  rcases Nat.lt_or_eq_of_le hle with q | q
  · have b:=List.pairwise_iff_getElem.1 hs _ _ hhl hkl q
    rw [hxe,hye] at b
    cases h:strLt y.1 s with
    | false=>rfl
    | true=>rw [str_trans b h] at hf;cases hf
  · subst q;rw [hx] at hk;cases hk;exact hf
theorem bs_lo {s:ByteArray} {l:List (ByteArray×Int×Int)} (hs:SortedT l) {h:Nat} {x:(ByteArray×Int×Int)} (hx:l[h]? =some x) (ht:strLt x.1 s=true):∀k y,l[k]? =some y→k < h+1→strLt y.1 s=true:=by
  intro k y hk hlt
  obtain ⟨hhl,hxe⟩:=List.getElem?_eq_some_iff.1 hx
  obtain ⟨hkl,hye⟩:=List.getElem?_eq_some_iff.1 hk
  rcases Nat.lt_or_eq_of_le (Nat.le_of_lt_succ hlt) with q | q
  · have b:=List.pairwise_iff_getElem.1 hs _ _ hkl hhl q
    rw [hxe,hye] at b
    exact str_trans b ht
  · subst q;rw [hx] at hk;cases hk;exact ht
theorem thereT_at {s:ByteArray} {l:List (ByteArray×Int×Int)} {x:(ByteArray×Int×Int)} (hx:l[lbT l s]? =some x):thereT l s=decide (x.1=s):=by
  unfold thereT;rw [hx]
theorem thereT_end {s:ByteArray} {l:List (ByteArray×Int×Int)} (h:l.length≤lbT l s):thereT l s=false:=by
  unfold thereT;rw [List.getElem?_eq_none h]
theorem mid_half (i j:Nat) (h:i+j≤4000000):IntKind.i64.wrap (Int.fdiv (IntKind.u64.wrap ((i:Int)+(j:Int))) 2)=(((i+j) / 2:Nat):Int):=by
  have e:IntKind.u64.wrap ((i:Int)+(j:Int))=((i+j:Nat):Int):=by
    simp only [IntKind.wrap,IntKind.bits,IntKind.signed]
    simp
    omega
  rw [e]
  have e2:Int.fdiv ((i+j:Nat):Int) 2=(((i+j) / 2:Nat):Int):=by
    rw [Int.fdiv_eq_ediv_of_nonneg _ (by decide)];rfl
  rw [e2,wrap64 (by omega) (by omega)]
def mvB (fl tl:List (ByteArray×Int×Int)) (s:ByteArray) (n:Int):Bool:=decide (n≤cntOf fl s) && thsB (putT tl s n (dayOf fl s))
theorem mem_take1 {l:List (ByteArray×Int×Int)} {k:Nat} {y:(ByteArray×Int×Int)} (hk:k < l.length) {x:(ByteArray×Int×Int)} (h:x∈l.take k++y::l.drop (k+1)):x=y∨x∈l:=by
  rcases List.mem_append.1 h with h | h
  · exact .inr (List.mem_of_mem_take h)
  · rcases List.mem_cons.1 h with h | h
    · exact .inl h
    · exact .inr (List.mem_of_mem_drop h)
theorem srt_set {l:List (ByteArray×Int×Int)} (hs:SortedT l) {k:Nat} {y x:(ByteArray×Int×Int)} (hx:l[k]? =some x) (e:x.1=y.1):SortedT (l.take k++y::l.drop (k+1)):=by
  have hk:=(List.getElem?_eq_some_iff.1 hx).1
  have e0:l=l.take k++x::l.drop (k+1):=by
    have:=(List.getElem?_eq_some_iff.1 hx).2
    rw [←this,List.getElem_cons_drop,List.take_append_drop]
  have h0:SortedT (l.take k++x::l.drop (k+1)):=by rw [←e0];exact hs
  unfold SortedT at h0⊢
  rw [List.pairwise_append,List.pairwise_cons] at h0⊢
  obtain ⟨h1,⟨h2,h3⟩,h4⟩:=h0
  refine ⟨h1,⟨fun b hb=> ?_,h3⟩,fun a ha b hb=> ?_⟩
  · rw [←e];exact h2 b hb
  · rcases List.mem_cons.1 hb with rfl | hb
    · have:=h4 a ha x (List.mem_cons_self ..)
      rwa [e] at this
    · exact h4 a ha b (List.mem_cons_of_mem _ hb)
theorem srt_del {l:List (ByteArray×Int×Int)} (hs:SortedT l) (k:Nat):SortedT (l.take k++l.drop (k+1)):=by
  refine List.Pairwise.sublist ?_ hs
  have h:(l.take k++l.drop (k+1)).Sublist (l.take k++l.drop k):=List.Sublist.append_left (by rw [←List.drop_drop];exact List.drop_sublist 1 _) _
  rwa [List.take_append_drop] at h
theorem take_ok {l:List (ByteArray×Int×Int)} {s:ByteArray} {n:Int} (h:ThOK l) (hn:1≤n) {x:(ByteArray×Int×Int)} (hx:l[lbT l s]? =some x):ThOK (takeT l s n):=by
  have hk:=(List.getElem?_eq_some_iff.1 hx).1
  have hxo:=h.ok x (List.mem_of_getElem? hx)
  have hl:=h.len
  have e:takeT l s n=if 0 < x.2.1 - n then l.take (lbT l s)++(x.1,x.2.1 - n,x.2.2)::l.drop (lbT l s+1) else l.take (lbT l s)++l.drop (lbT l s+1):=by unfold takeT;rw [hx]
  rw [e]
  split
  · rename_i hp
    refine ⟨srt_set h.srt hx rfl,fun y hy=> ?_,by simp;omega⟩
    rcases mem_take1 hk hy with rfl | hy
    · exact ⟨hxo.1,⟨by show 1≤x.2.1 - n;omega,by show x.2.1 - n≤99;omega⟩,hxo.2.2⟩
    · exact h.ok y hy
  · refine ⟨srt_del h.srt _,fun y hy=> ?_,by simp;omega⟩
    rcases List.mem_append.1 hy with hy | hy
    · exact h.ok y (List.mem_of_mem_take hy)
    · exact h.ok y (List.mem_of_mem_drop hy)
theorem put_names {l:List (ByteArray×Int×Int)} {s:ByteArray} {n d:Int} {x:(ByteArray×Int×Int)} (hx:x∈putT l s n d):x.1=s∨x∈l:=by
  unfold putT at hx
  split at hx
  · rename_i t _ ht
    rcases mem_take1 (List.getElem?_eq_some_iff.1 ht).1 hx with rfl | h
    · exact .inl rfl
    · exact .inr h
  · rcases List.mem_append.1 hx with h | h
    · exact .inr (List.mem_of_mem_take h)
    · rcases List.mem_cons.1 h with rfl | h
      · exact .inl rfl
      · exact .inr (List.mem_of_mem_drop h)
theorem nm_size {s:ByteArray} (h:nameB s=true):s.size≤6:=by simp [nameB] at h;omega
def orN {α:Type} (b:Bool) (l:List α):List α:=if b then l else []
theorem orN_t {α:Type} (l:List α):orN true l=l:=rfl
theorem orN_f {α:Type} (l:List α):orN false l=[]:=rfl
theorem put_sz {l:List (ByteArray×Int×Int)} {s:ByteArray} {n d:Int} (h:ThOK l) (hs:tnB s=true):∀t∈putT l s n d,t.1.size≤9223372036854775807:=by
  intro t ht
  have:t.1.size≤8:=by
    rcases put_names ht with e | h2
    · rw [e];exact tn_size hs
    · exact tn_size (h.ok t h2).1
  omega
theorem th_sz {l:List (ByteArray×Int×Int)} (h:ThOK l):∀t∈l,t.1.size≤9223372036854775807:=fun t ht=>by have:=tn_size (h.ok t ht).1;omega
set_option maxHeartbeats 1000000 in
theorem eqTake_con (l:List (ByteArray×Int×Int)) (s:ByteArray) (n:Int) (hl:l.length≤1048576) (hs:SortedT l) (y0:ByteArray) (y1 y2:Int) (hy:l[lbT l s]? =some (y0,y1,y2)) (hth:thereT l s=true) (hb:(1≤n∧n≤99)∧1≤y1∧y1≤99):Con Tryd.prog 166 [.sl (l.map (fun t:ByteArray×Int×Int=>V.agg [V.str t.1,V.int .i64 t.2.1,V.int .i64 t.2.2])),.str s,.int .i64 n] [] (.ref 0) [.arr ((takeT l s n).map (fun t:ByteArray×Int×Int=>V.agg [V.str t.1,V.int .i64 t.2.1,V.int .i64 t.2.2])) .flat]:=by
 have hkl:=(List.getElem?_eq_some_iff.1 hy).1
 have hnsA:∀q:List (ByteArray×Int×Int),(q.map (fun t:ByteArray×Int×Int=>V.agg [V.str t.1,V.int .i64 t.2.1,V.int .i64 t.2.2])).all V.noSl=true:=fun q=>by rw [List.all_map,List.all_eq_true];intro a _;rfl
 refine v_con [.tmp 6] [] Tryd.func166 rfl rfl rfl (by simp [Tryd.ntmps166]) ?_
 intro Q0 n0 r0
 simp only [Tryd.ntmps166,envFrom,Nat.reduceAdd]
 have T:=Tys.mk (And.intro Ty.t3 (And.intro Ty.t9 (And.intro Ty.t63 Ty.t93)))
 have F:=Fc.mk True.intro
 refine v_seqR [0,1,2] ?_;intro K1 k1
 have F:=Fc.mk (And.intro hnsA (And.intro @Int.toNat_natCast (fun f=>getD_map (f:=f) hy)))
 refine zAssign ⟨?_⟩;refine k1 _ ?_;refine zk ⟨?_⟩;refine v_seqR [0,2,7] ?_;intro K2 k2;refine zq3 ⟨?_⟩;refine zc (eqFind_con l s hl hs) ⟨?_⟩;refine zq16 ⟨?_⟩;refine k2 _ ?_;refine zk ⟨?_⟩;refine v_seqR [0,2,7,9] ?_;intro K3 k3;refine zq3 ⟨?_⟩;refine zq23 ⟨?_⟩;refine k3 _ ?_;refine zk ⟨?_⟩;refine v_seqR [0,7,9] ?_;intro K4 k4;refine zq11 ⟨?_⟩;refine zBinOpW ⟨?_⟩;refine zq24 ⟨?_⟩;refine k4 _ ?_;refine zk ⟨?_⟩;refine v_seqR [0,7,9,10] ?_;intro K5 k5;refine zBuildSlice ⟨?_⟩;refine zq3 ⟨?_⟩;refine zSlice ⟨?_⟩;refine zq29 ⟨?_⟩;refine k5 _ ?_;refine zk ⟨?_⟩;refine v_seq ?_;intro Q6 n6 e6 r6;refine v_seqR [0,7,9,10,33] ?_;intro K7 k7;refine zq49 ⟨?_⟩;refine k7 _ ?_;refine zk ⟨?_⟩;refine v_condS _ rfl ?_ ?_
 ·intro hc0
  have htk:takeT l s n=l.take (lbT l s)++(y0,y1 - n,y2)::l.drop (lbT l s+1):=by unfold takeT;rw [hy];simp only [];rw [if_pos (by first | omega | (have h:=hc0;simp at h⊢;omega))]
  refine v_region ?_;intro K9 k9;refine zMove ⟨?_⟩;refine zLoad ⟨?_⟩;refine zBuildSlice ⟨?_⟩;refine v_op ?_;intro K k
  simp only [zE,zL,zO,zN,aStepM,optable,set_some,Nat.reduceEqDiff,reduceIte,Nat.reduceLT,implies_true,forall_const,reduceCtorEq,V.ofValue,V.ofScalar,V.un,V.gd,aExec,aop,fillK_thin,beq_self_eq_true,List.nodup_cons,List.mem_singleton,forall_eq',List.size_toArray,List.getD_eq_getElem?_getD,Array.getD_eq_getD_getElem?,Option.getD_some,aAppend,destOf,srcOf,takeElems,takeV,takeCell,takeCells,row_mk,Blk.row,killAll,V.isSub,V.noSl,Value.cells,Option.toList,List.forall_mem_map,List.length_map,List.all_cons,List.all_nil,List.isEmpty_nil,List.isEmpty_cons,List.not_mem_nil,List.nodup_nil,join_ff,join_ft,join_fv,join_d,join_s,fillK_join0,fillK_join,List.mem_cons,or_false,forall_eq_or_imp,forall_eq,List.set_cons_zero,List.set_cons_succ,List.length_append,Go.Vm.V.cells,Nat.reduceAdd,Nat.reduceLeDiff,Nat.reduceMul,Tryd.underlying63,Ty.c63,Ty.a63,Ty.z63,Ty.b63,Ty.s63,Tryd.underlying93,Ty.c93,Ty.a93,Ty.z93,Ty.b93,Ty.s93,hnsA,Int.toNat_natCast,getD_map hy]
  repeat (refine And.intro (by first | omega | (refine ⟨?_,?_,?_⟩<;>(first | omega | (intro x hx;simp only [List.mem_append,List.mem_map,List.mem_singleton] at hx;rcases hx with ⟨_,_,rfl⟩ | rfl<;>rfl) | (simp only [List.length_take,List.length_drop];omega) | (intros;simp_all;done));done) | (first | omega | (intro x hx;simp only [List.mem_append,List.mem_map,List.mem_singleton] at hx;rcases hx with ⟨_,_,rfl⟩ | rfl<;>rfl) | (simp only [List.length_take,List.length_drop];omega) | (intros;simp_all;done))) ?_)
  refine k _ ?_;clear k K;refine zAssign ⟨?_⟩;refine k9 _ ?_;refine n6 _ _ (weak_keep [0,7,10] _) ?_;refine zk ⟨?_⟩;refine v_seqR [6] ?_;intro K10 k10;refine zq3 ⟨?_⟩;refine zMove ⟨?_⟩;refine zBinOpW ⟨?_⟩;refine zSlice ⟨?_⟩;refine v_op ?_;intro K k
  simp only [zE,zL,zO,zN,aStepM,optable,set_some,Nat.reduceEqDiff,reduceIte,Nat.reduceLT,implies_true,forall_const,reduceCtorEq,V.ofValue,V.ofScalar,V.un,V.gd,aExec,aop,fillK_thin,beq_self_eq_true,List.nodup_cons,List.mem_singleton,forall_eq',List.size_toArray,List.getD_eq_getElem?_getD,Array.getD_eq_getD_getElem?,Option.getD_some,aAppend,destOf,srcOf,takeElems,takeV,takeCell,takeCells,row_mk,Blk.row,killAll,V.isSub,V.noSl,Value.cells,Option.toList,List.forall_mem_map,List.length_map,List.all_cons,List.all_nil,List.isEmpty_nil,List.isEmpty_cons,List.not_mem_nil,List.nodup_nil,join_ff,join_ft,join_fv,join_d,join_s,fillK_join0,fillK_join,List.mem_cons,or_false,forall_eq_or_imp,forall_eq,List.set_cons_zero,List.set_cons_succ,List.length_append,Go.Vm.V.cells,Nat.reduceAdd,Nat.reduceLeDiff,Nat.reduceMul,Tryd.underlying63,Ty.c63,Ty.a63,Ty.z63,Ty.b63,Ty.s63,Tryd.underlying93,Ty.c93,Ty.a93,Ty.z93,Ty.b93,Ty.s93,hnsA,Int.toNat_natCast,getD_map hy]
  repeat (refine And.intro (by first | omega | (refine ⟨?_,?_,?_⟩<;>(first | omega | (intro x hx;simp only [List.mem_append,List.mem_map,List.mem_singleton] at hx;rcases hx with ⟨_,_,rfl⟩ | rfl<;>rfl) | (simp only [List.length_take,List.length_drop];omega) | (intros;simp_all;done));done) | (first | omega | (intro x hx;simp only [List.mem_append,List.mem_map,List.mem_singleton] at hx;rcases hx with ⟨_,_,rfl⟩ | rfl<;>rfl) | (simp only [List.length_take,List.length_drop];omega) | (intros;simp_all;done))) ?_)
  refine k _ ?_;clear k K;refine zAssign ⟨?_⟩;refine k10 _ ?_;refine zk ⟨?_⟩;refine v_ret ?_;refine r0 _ ?_;refine zf ⟨?_⟩
  rw [htk]
  exact ret_all rfl (by first | decide | simp [newIds,refsOf,refs2,refs1]) (by simp) rfl (by simp [newIds,refsOf,refs2,refs1]) (by simp [Blk.kindIs,fillK_fd]) rfl
 ·intro hc0
  have htk:takeT l s n=l.take (lbT l s)++l.drop (lbT l s+1):=by unfold takeT;rw [hy];simp only [];rw [if_neg (by first | omega | (have h:=hc0;simp at h⊢;omega))]
  refine v_skip ?_;refine n6 _ _ (weak_keep [0,7,10] _) ?_;refine zk ⟨?_⟩;refine v_seqR [6] ?_;intro K11 k11;refine zq3 ⟨?_⟩;refine zMove ⟨?_⟩;refine zBinOpW ⟨?_⟩;refine zSlice ⟨?_⟩;refine v_op ?_;intro K k
  simp only [zE,zL,zO,zN,aStepM,optable,set_some,Nat.reduceEqDiff,reduceIte,Nat.reduceLT,implies_true,forall_const,reduceCtorEq,V.ofValue,V.ofScalar,V.un,V.gd,aExec,aop,fillK_thin,beq_self_eq_true,List.nodup_cons,List.mem_singleton,forall_eq',List.size_toArray,List.getD_eq_getElem?_getD,Array.getD_eq_getD_getElem?,Option.getD_some,aAppend,destOf,srcOf,takeElems,takeV,takeCell,takeCells,row_mk,Blk.row,killAll,V.isSub,V.noSl,Value.cells,Option.toList,List.forall_mem_map,List.length_map,List.all_cons,List.all_nil,List.isEmpty_nil,List.isEmpty_cons,List.not_mem_nil,List.nodup_nil,join_ff,join_ft,join_fv,join_d,join_s,fillK_join0,fillK_join,List.mem_cons,or_false,forall_eq_or_imp,forall_eq,List.set_cons_zero,List.set_cons_succ,List.length_append,Go.Vm.V.cells,Nat.reduceAdd,Nat.reduceLeDiff,Nat.reduceMul,Tryd.underlying63,Ty.c63,Ty.a63,Ty.z63,Ty.b63,Ty.s63,Tryd.underlying93,Ty.c93,Ty.a93,Ty.z93,Ty.b93,Ty.s93,hnsA,Int.toNat_natCast,getD_map hy]
  repeat (refine And.intro (by first | omega | (refine ⟨?_,?_,?_⟩<;>(first | omega | (intro x hx;simp only [List.mem_append,List.mem_map,List.mem_singleton] at hx;rcases hx with ⟨_,_,rfl⟩ | rfl<;>rfl) | (simp only [List.length_take,List.length_drop];omega) | (intros;simp_all;done));done) | (first | omega | (intro x hx;simp only [List.mem_append,List.mem_map,List.mem_singleton] at hx;rcases hx with ⟨_,_,rfl⟩ | rfl<;>rfl) | (simp only [List.length_take,List.length_drop];omega) | (intros;simp_all;done))) ?_)
  refine k _ ?_;clear k K;refine zAssign ⟨?_⟩;refine k11 _ ?_;refine zk ⟨?_⟩;refine v_ret ?_;refine r0 _ ?_;refine zf ⟨?_⟩
  rw [htk]
  exact ret_all rfl (by first | decide | simp [newIds,refsOf,refs2,refs1]) (by simp) rfl (by simp [newIds,refsOf,refs2,refs1]) (by simp [Blk.kindIs,fillK_fd]) rfl
set_option maxHeartbeats 1000000 in
theorem eqPut_con (l:List (ByteArray×Int×Int)) (s:ByteArray) (n d:Int) (hl:l.length≤1000000) (hs:SortedT l) (hb:(1≤n∧n≤99)∧∀x∈l,1≤x.2.1∧x.2.1≤99):Con Tryd.prog 167 [.sl (l.map (fun t:ByteArray×Int×Int=>V.agg [V.str t.1,V.int .i64 t.2.1,V.int .i64 t.2.2])),.agg [.str s,.int .i64 n,.int .i64 d]] [] (.ref 0) [.arr ((putT l s n d).map (fun t:ByteArray×Int×Int=>V.agg [V.str t.1,V.int .i64 t.2.1,V.int .i64 t.2.2])) .flat]:=by
 have hnsA:∀q:List (ByteArray×Int×Int),(q.map (fun t:ByteArray×Int×Int=>V.agg [V.str t.1,V.int .i64 t.2.1,V.int .i64 t.2.2])).all V.noSl=true:=fun q=>by rw [List.all_map,List.all_eq_true];intro a _;rfl
 refine v_con [.tmp 4] [] Tryd.func167 rfl rfl rfl (by simp [Tryd.ntmps167]) ?_
 intro Q0 n0 r0
 simp only [Tryd.ntmps167,envFrom,Nat.reduceAdd]
 have T:=Tys.mk (And.intro Ty.t3 (And.intro Ty.t9 (And.intro Ty.t63 Ty.t93)))
 have F:=Fc.mk True.intro
 rcases there_cases hs s with ⟨hth,_,hno,hcn⟩ | ⟨⟨y0,y1,y2⟩,hth,_,hy,hyn,hcn⟩
 ·skip
  have hle:=lbT_le l s
  have hpt:=put_new n d hth
  refine v_seqR [0,3] ?_;intro K1 k1
  have F:=Fc.mk (And.intro hnsA hth)
  refine zq21 ⟨?_⟩;refine k1 _ ?_;refine zk ⟨?_⟩;refine v_seqR [0,3,5,6] ?_;intro K2 k2;refine zq31 ⟨?_⟩;refine zc (eqFind_con l s (by omega) hs) ⟨?_⟩;refine zq16 ⟨?_⟩;refine k2 _ ?_;refine zk ⟨?_⟩;refine v_seqR [0,3,5,6,7] ?_;intro K3 k3;refine zq3 ⟨?_⟩;refine zSlice ⟨?_⟩;refine zAssign ⟨?_⟩;refine k3 _ ?_;refine zk ⟨?_⟩;refine v_seq ?_;intro Q4 n4 e4 r4;refine v_seqR [0,3,5,7,18] ?_;intro K5 k5;refine zMove ⟨?_⟩;refine k5 _ ?_;refine zk ⟨?_⟩;refine v_cond _ rfl ?_ ?_
  ·intro hc0
   exfalso;simp at hc0
  ·intro hc0
   try simp only [zC,reduceCtorEq] at hc0
   refine v_skip ?_;refine n4 _ _ (weak_keep [0,3,5,7] _) ?_;refine zk ⟨?_⟩
   apply v_seq1
   ·intro Q7 n7 e7 r7
    refine v_draw (by kernel_rfl) ?_;intro K8 q8 k8
    show aAny _ _ _ _ 11 (Array.replicate 11 false) _
    refine zdMove q8 true 1 42 ?_;refine zdMove q8 true 2 43 ?_;refine zdSlice q8 true 3 44 ?_;refine zdMove q8 false 8 49 ?_;refine aAny_two 0 5 rfl rfl (by kernel_rfl) ?_ ?_
    ·refine zsBuildSlice ⟨?_⟩
     refine aAny_two 4 5 rfl rfl (by kernel_rfl) ?_ ?_
     ·refine zsAppend ⟨?_⟩
      refine zdLoad q8 true 5 46 ?_;refine zoBuildSlice 6 ⟨?_⟩;refine aAny_only 7 rfl (by kernel_rfl) ?_;intro K k
      simp only [zE,zL,zO,zN,aStepM,optable,set_some,Nat.reduceEqDiff,reduceIte,Nat.reduceLT,implies_true,forall_const,reduceCtorEq,V.ofValue,V.ofScalar,V.un,V.gd,aExec,aop,fillK_thin,beq_self_eq_true,List.nodup_cons,List.mem_singleton,forall_eq',List.size_toArray,List.getD_eq_getElem?_getD,Array.getD_eq_getD_getElem?,Option.getD_some,aAppend,destOf,srcOf,takeElems,takeV,takeCell,takeCells,row_mk,Blk.row,killAll,V.isSub,V.noSl,Value.cells,Option.toList,List.forall_mem_map,List.length_map,List.all_cons,List.all_nil,List.isEmpty_nil,List.isEmpty_cons,List.not_mem_nil,List.nodup_nil,join_ff,join_ft,join_fv,join_d,join_s,fillK_join0,fillK_join,List.mem_cons,or_false,forall_eq_or_imp,forall_eq,List.set_cons_zero,List.set_cons_succ,List.length_append,Go.Vm.V.cells,Nat.reduceAdd,Nat.reduceLeDiff,Nat.reduceMul,Tryd.underlying63,Ty.c63,Ty.a63,Ty.z63,Ty.b63,Ty.s63,Tryd.underlying93,Ty.c93,Ty.a93,Ty.z93,Ty.b93,Ty.s93,hnsA,hth]
      repeat (refine And.intro (by first | omega | (refine ⟨?_,?_,?_⟩<;>(first | omega | (intro x hx;simp only [List.mem_append,List.mem_map,List.mem_singleton] at hx;rcases hx with ⟨_,_,rfl⟩ | rfl<;>rfl) | (simp only [List.length_take,List.length_drop];omega) | (intros;simp_all;done));done) | (first | omega | (intro x hx;simp only [List.mem_append,List.mem_map,List.mem_singleton] at hx;rcases hx with ⟨_,_,rfl⟩ | rfl<;>rfl) | (simp only [List.length_take,List.length_drop];omega) | (intros;simp_all;done))) ?_)
      refine k _ ?_;clear k K;refine aAny_only 9 rfl (by kernel_rfl) ?_;intro K k
      simp only [zE,zL,zO,zN,aStepM,optable,set_some,Nat.reduceEqDiff,reduceIte,Nat.reduceLT,implies_true,forall_const,reduceCtorEq,V.ofValue,V.ofScalar,V.un,V.gd,aExec,aop,fillK_thin,beq_self_eq_true,List.nodup_cons,List.mem_singleton,forall_eq',List.size_toArray,List.getD_eq_getElem?_getD,Array.getD_eq_getD_getElem?,Option.getD_some,aAppend,destOf,srcOf,takeElems,takeV,takeCell,takeCells,row_mk,Blk.row,killAll,V.isSub,V.noSl,Value.cells,Option.toList,List.forall_mem_map,List.length_map,List.all_cons,List.all_nil,List.isEmpty_nil,List.isEmpty_cons,List.not_mem_nil,List.nodup_nil,join_ff,join_ft,join_fv,join_d,join_s,fillK_join0,fillK_join,List.mem_cons,or_false,forall_eq_or_imp,forall_eq,List.set_cons_zero,List.set_cons_succ,List.length_append,Go.Vm.V.cells,Nat.reduceAdd,Nat.reduceLeDiff,Nat.reduceMul,Tryd.underlying63,Ty.c63,Ty.a63,Ty.z63,Ty.b63,Ty.s63,Tryd.underlying93,Ty.c93,Ty.a93,Ty.z93,Ty.b93,Ty.s93,hnsA,hth]
      repeat (refine And.intro (by first | omega | (refine ⟨?_,?_,?_⟩<;>(first | omega | (intro x hx;simp only [List.mem_append,List.mem_map,List.mem_singleton] at hx;rcases hx with ⟨_,_,rfl⟩ | rfl<;>rfl) | (simp only [List.length_take,List.length_drop];omega) | (intros;simp_all;done));done) | (first | omega | (intro x hx;simp only [List.mem_append,List.mem_map,List.mem_singleton] at hx;rcases hx with ⟨_,_,rfl⟩ | rfl<;>rfl) | (simp only [List.length_take,List.length_drop];omega) | (intros;simp_all;done))) ?_)
      refine k _ ?_;clear k K;refine zoAssign 10 ⟨?_⟩;refine aAny_done (by kernel_rfl) ?_;refine k8 _ ?_;refine n7 _ ?_
      exact weak_one [4] [0,1,2,3,4,5,6]
     ·intro K k
      skip
      simp only [zE,zL,zO,zN,aStepM,optable,set_some,Nat.reduceEqDiff,reduceIte,Nat.reduceLT,implies_true,forall_const,reduceCtorEq,V.ofValue,V.ofScalar,V.un,V.gd,aExec,aop,aLoad,row_mk,Blk.row,PartOK,Go.Vm.part,V.cells,V.noSl,V.noRef,Nat.reduceAdd,Nat.reduceLeDiff,Nat.reduceMul,Tryd.underlying3,Ty.c3,Ty.a3,Tryd.underlying9,Ty.c9,Ty.a9,Tryd.underlying93,Ty.c93,Ty.a93,hnsA,hth]
      repeat (refine And.intro (by first | omega | (intros;omega) | (intros;simp_all;done) | (intros;simp_all;omega)) ?_)
      refine k _ ?_;clear k K;refine aAny_two 4 6 rfl rfl (by kernel_rfl) ?_ ?_
      ·refine zsAppend ⟨?_⟩
       refine zoBuildSlice 6 ⟨?_⟩;refine aAny_only 7 rfl (by kernel_rfl) ?_;intro K k
       simp only [zE,zL,zO,zN,aStepM,optable,set_some,Nat.reduceEqDiff,reduceIte,Nat.reduceLT,implies_true,forall_const,reduceCtorEq,V.ofValue,V.ofScalar,V.un,V.gd,aExec,aop,fillK_thin,beq_self_eq_true,List.nodup_cons,List.mem_singleton,forall_eq',List.size_toArray,List.getD_eq_getElem?_getD,Array.getD_eq_getD_getElem?,Option.getD_some,aAppend,destOf,srcOf,takeElems,takeV,takeCell,takeCells,row_mk,Blk.row,killAll,V.isSub,V.noSl,Value.cells,Option.toList,List.forall_mem_map,List.length_map,List.all_cons,List.all_nil,List.isEmpty_nil,List.isEmpty_cons,List.not_mem_nil,List.nodup_nil,join_ff,join_ft,join_fv,join_d,join_s,fillK_join0,fillK_join,List.mem_cons,or_false,forall_eq_or_imp,forall_eq,List.set_cons_zero,List.set_cons_succ,List.length_append,Go.Vm.V.cells,Nat.reduceAdd,Nat.reduceLeDiff,Nat.reduceMul,Tryd.underlying63,Ty.c63,Ty.a63,Ty.z63,Ty.b63,Ty.s63,Tryd.underlying93,Ty.c93,Ty.a93,Ty.z93,Ty.b93,Ty.s93,hnsA,hth]
       repeat (refine And.intro (by first | omega | (refine ⟨?_,?_,?_⟩<;>(first | omega | (intro x hx;simp only [List.mem_append,List.mem_map,List.mem_singleton] at hx;rcases hx with ⟨_,_,rfl⟩ | rfl<;>rfl) | (simp only [List.length_take,List.length_drop];omega) | (intros;simp_all;done));done) | (first | omega | (intro x hx;simp only [List.mem_append,List.mem_map,List.mem_singleton] at hx;rcases hx with ⟨_,_,rfl⟩ | rfl<;>rfl) | (simp only [List.length_take,List.length_drop];omega) | (intros;simp_all;done))) ?_)
       refine k _ ?_;clear k K;refine aAny_only 9 rfl (by kernel_rfl) ?_;intro K k
       simp only [zE,zL,zO,zN,aStepM,optable,set_some,Nat.reduceEqDiff,reduceIte,Nat.reduceLT,implies_true,forall_const,reduceCtorEq,V.ofValue,V.ofScalar,V.un,V.gd,aExec,aop,fillK_thin,beq_self_eq_true,List.nodup_cons,List.mem_singleton,forall_eq',List.size_toArray,List.getD_eq_getElem?_getD,Array.getD_eq_getD_getElem?,Option.getD_some,aAppend,destOf,srcOf,takeElems,takeV,takeCell,takeCells,row_mk,Blk.row,killAll,V.isSub,V.noSl,Value.cells,Option.toList,List.forall_mem_map,List.length_map,List.all_cons,List.all_nil,List.isEmpty_nil,List.isEmpty_cons,List.not_mem_nil,List.nodup_nil,join_ff,join_ft,join_fv,join_d,join_s,fillK_join0,fillK_join,List.mem_cons,or_false,forall_eq_or_imp,forall_eq,List.set_cons_zero,List.set_cons_succ,List.length_append,Go.Vm.V.cells,Nat.reduceAdd,Nat.reduceLeDiff,Nat.reduceMul,Tryd.underlying63,Ty.c63,Ty.a63,Ty.z63,Ty.b63,Ty.s63,Tryd.underlying93,Ty.c93,Ty.a93,Ty.z93,Ty.b93,Ty.s93,hnsA,hth]
       repeat (refine And.intro (by first | omega | (refine ⟨?_,?_,?_⟩<;>(first | omega | (intro x hx;simp only [List.mem_append,List.mem_map,List.mem_singleton] at hx;rcases hx with ⟨_,_,rfl⟩ | rfl<;>rfl) | (simp only [List.length_take,List.length_drop];omega) | (intros;simp_all;done));done) | (first | omega | (intro x hx;simp only [List.mem_append,List.mem_map,List.mem_singleton] at hx;rcases hx with ⟨_,_,rfl⟩ | rfl<;>rfl) | (simp only [List.length_take,List.length_drop];omega) | (intros;simp_all;done))) ?_)
       refine k _ ?_;clear k K;refine zoAssign 10 ⟨?_⟩;refine aAny_done (by kernel_rfl) ?_;refine k8 _ ?_;refine n7 _ ?_
       exact weak_same [4] [0,1,2,3,4,5,6]
      ·refine zsBuildSlice ⟨?_⟩
       refine zoAppend 4 ⟨?_⟩;refine aAny_only 7 rfl (by kernel_rfl) ?_;intro K k
       simp only [zE,zL,zO,zN,aStepM,optable,set_some,Nat.reduceEqDiff,reduceIte,Nat.reduceLT,implies_true,forall_const,reduceCtorEq,V.ofValue,V.ofScalar,V.un,V.gd,aExec,aop,fillK_thin,beq_self_eq_true,List.nodup_cons,List.mem_singleton,forall_eq',List.size_toArray,List.getD_eq_getElem?_getD,Array.getD_eq_getD_getElem?,Option.getD_some,aAppend,destOf,srcOf,takeElems,takeV,takeCell,takeCells,row_mk,Blk.row,killAll,V.isSub,V.noSl,Value.cells,Option.toList,List.forall_mem_map,List.length_map,List.all_cons,List.all_nil,List.isEmpty_nil,List.isEmpty_cons,List.not_mem_nil,List.nodup_nil,join_ff,join_ft,join_fv,join_d,join_s,fillK_join0,fillK_join,List.mem_cons,or_false,forall_eq_or_imp,forall_eq,List.set_cons_zero,List.set_cons_succ,List.length_append,Go.Vm.V.cells,Nat.reduceAdd,Nat.reduceLeDiff,Nat.reduceMul,Tryd.underlying63,Ty.c63,Ty.a63,Ty.z63,Ty.b63,Ty.s63,Tryd.underlying93,Ty.c93,Ty.a93,Ty.z93,Ty.b93,Ty.s93,hnsA,hth]
       repeat (refine And.intro (by first | omega | (refine ⟨?_,?_,?_⟩<;>(first | omega | (intro x hx;simp only [List.mem_append,List.mem_map,List.mem_singleton] at hx;rcases hx with ⟨_,_,rfl⟩ | rfl<;>rfl) | (simp only [List.length_take,List.length_drop];omega) | (intros;simp_all;done));done) | (first | omega | (intro x hx;simp only [List.mem_append,List.mem_map,List.mem_singleton] at hx;rcases hx with ⟨_,_,rfl⟩ | rfl<;>rfl) | (simp only [List.length_take,List.length_drop];omega) | (intros;simp_all;done))) ?_)
       refine k _ ?_;clear k K;refine aAny_only 9 rfl (by kernel_rfl) ?_;intro K k
       simp only [zE,zL,zO,zN,aStepM,optable,set_some,Nat.reduceEqDiff,reduceIte,Nat.reduceLT,implies_true,forall_const,reduceCtorEq,V.ofValue,V.ofScalar,V.un,V.gd,aExec,aop,fillK_thin,beq_self_eq_true,List.nodup_cons,List.mem_singleton,forall_eq',List.size_toArray,List.getD_eq_getElem?_getD,Array.getD_eq_getD_getElem?,Option.getD_some,aAppend,destOf,srcOf,takeElems,takeV,takeCell,takeCells,row_mk,Blk.row,killAll,V.isSub,V.noSl,Value.cells,Option.toList,List.forall_mem_map,List.length_map,List.all_cons,List.all_nil,List.isEmpty_nil,List.isEmpty_cons,List.not_mem_nil,List.nodup_nil,join_ff,join_ft,join_fv,join_d,join_s,fillK_join0,fillK_join,List.mem_cons,or_false,forall_eq_or_imp,forall_eq,List.set_cons_zero,List.set_cons_succ,List.length_append,Go.Vm.V.cells,Nat.reduceAdd,Nat.reduceLeDiff,Nat.reduceMul,Tryd.underlying63,Ty.c63,Ty.a63,Ty.z63,Ty.b63,Ty.s63,Tryd.underlying93,Ty.c93,Ty.a93,Ty.z93,Ty.b93,Ty.s93,hnsA,hth]
       repeat (refine And.intro (by first | omega | (refine ⟨?_,?_,?_⟩<;>(first | omega | (intro x hx;simp only [List.mem_append,List.mem_map,List.mem_singleton] at hx;rcases hx with ⟨_,_,rfl⟩ | rfl<;>rfl) | (simp only [List.length_take,List.length_drop];omega) | (intros;simp_all;done));done) | (first | omega | (intro x hx;simp only [List.mem_append,List.mem_map,List.mem_singleton] at hx;rcases hx with ⟨_,_,rfl⟩ | rfl<;>rfl) | (simp only [List.length_take,List.length_drop];omega) | (intros;simp_all;done))) ?_)
       refine k _ ?_;clear k K;refine zoAssign 10 ⟨?_⟩;refine aAny_done (by kernel_rfl) ?_;refine k8 _ ?_;refine n7 _ ?_
       exact weak_same [4] [0,1,2,4,3,5,6]
    ·intro K k
     skip
     simp only [zE,zL,zO,zN,aStepM,optable,set_some,Nat.reduceEqDiff,reduceIte,Nat.reduceLT,implies_true,forall_const,reduceCtorEq,V.ofValue,V.ofScalar,V.un,V.gd,aExec,aop,aLoad,row_mk,Blk.row,PartOK,Go.Vm.part,V.cells,V.noSl,V.noRef,Nat.reduceAdd,Nat.reduceLeDiff,Nat.reduceMul,Tryd.underlying3,Ty.c3,Ty.a3,Tryd.underlying9,Ty.c9,Ty.a9,Tryd.underlying93,Ty.c93,Ty.a93,hnsA,hth]
     repeat (refine And.intro (by first | omega | (intros;omega) | (intros;simp_all;done) | (intros;simp_all;omega)) ?_)
     refine k _ ?_;clear k K;refine aAny_two 0 6 rfl rfl (by kernel_rfl) ?_ ?_
     ·refine zsBuildSlice ⟨?_⟩
      refine aAny_two 4 6 rfl rfl (by kernel_rfl) ?_ ?_
      ·refine zsAppend ⟨?_⟩
       refine zoBuildSlice 6 ⟨?_⟩;refine aAny_only 7 rfl (by kernel_rfl) ?_;intro K k
       simp only [zE,zL,zO,zN,aStepM,optable,set_some,Nat.reduceEqDiff,reduceIte,Nat.reduceLT,implies_true,forall_const,reduceCtorEq,V.ofValue,V.ofScalar,V.un,V.gd,aExec,aop,fillK_thin,beq_self_eq_true,List.nodup_cons,List.mem_singleton,forall_eq',List.size_toArray,List.getD_eq_getElem?_getD,Array.getD_eq_getD_getElem?,Option.getD_some,aAppend,destOf,srcOf,takeElems,takeV,takeCell,takeCells,row_mk,Blk.row,killAll,V.isSub,V.noSl,Value.cells,Option.toList,List.forall_mem_map,List.length_map,List.all_cons,List.all_nil,List.isEmpty_nil,List.isEmpty_cons,List.not_mem_nil,List.nodup_nil,join_ff,join_ft,join_fv,join_d,join_s,fillK_join0,fillK_join,List.mem_cons,or_false,forall_eq_or_imp,forall_eq,List.set_cons_zero,List.set_cons_succ,List.length_append,Go.Vm.V.cells,Nat.reduceAdd,Nat.reduceLeDiff,Nat.reduceMul,Tryd.underlying63,Ty.c63,Ty.a63,Ty.z63,Ty.b63,Ty.s63,Tryd.underlying93,Ty.c93,Ty.a93,Ty.z93,Ty.b93,Ty.s93,hnsA,hth]
       repeat (refine And.intro (by first | omega | (refine ⟨?_,?_,?_⟩<;>(first | omega | (intro x hx;simp only [List.mem_append,List.mem_map,List.mem_singleton] at hx;rcases hx with ⟨_,_,rfl⟩ | rfl<;>rfl) | (simp only [List.length_take,List.length_drop];omega) | (intros;simp_all;done));done) | (first | omega | (intro x hx;simp only [List.mem_append,List.mem_map,List.mem_singleton] at hx;rcases hx with ⟨_,_,rfl⟩ | rfl<;>rfl) | (simp only [List.length_take,List.length_drop];omega) | (intros;simp_all;done))) ?_)
       refine k _ ?_;clear k K;refine aAny_only 9 rfl (by kernel_rfl) ?_;intro K k
       simp only [zE,zL,zO,zN,aStepM,optable,set_some,Nat.reduceEqDiff,reduceIte,Nat.reduceLT,implies_true,forall_const,reduceCtorEq,V.ofValue,V.ofScalar,V.un,V.gd,aExec,aop,fillK_thin,beq_self_eq_true,List.nodup_cons,List.mem_singleton,forall_eq',List.size_toArray,List.getD_eq_getElem?_getD,Array.getD_eq_getD_getElem?,Option.getD_some,aAppend,destOf,srcOf,takeElems,takeV,takeCell,takeCells,row_mk,Blk.row,killAll,V.isSub,V.noSl,Value.cells,Option.toList,List.forall_mem_map,List.length_map,List.all_cons,List.all_nil,List.isEmpty_nil,List.isEmpty_cons,List.not_mem_nil,List.nodup_nil,join_ff,join_ft,join_fv,join_d,join_s,fillK_join0,fillK_join,List.mem_cons,or_false,forall_eq_or_imp,forall_eq,List.set_cons_zero,List.set_cons_succ,List.length_append,Go.Vm.V.cells,Nat.reduceAdd,Nat.reduceLeDiff,Nat.reduceMul,Tryd.underlying63,Ty.c63,Ty.a63,Ty.z63,Ty.b63,Ty.s63,Tryd.underlying93,Ty.c93,Ty.a93,Ty.z93,Ty.b93,Ty.s93,hnsA,hth]
       repeat (refine And.intro (by first | omega | (refine ⟨?_,?_,?_⟩<;>(first | omega | (intro x hx;simp only [List.mem_append,List.mem_map,List.mem_singleton] at hx;rcases hx with ⟨_,_,rfl⟩ | rfl<;>rfl) | (simp only [List.length_take,List.length_drop];omega) | (intros;simp_all;done));done) | (first | omega | (intro x hx;simp only [List.mem_append,List.mem_map,List.mem_singleton] at hx;rcases hx with ⟨_,_,rfl⟩ | rfl<;>rfl) | (simp only [List.length_take,List.length_drop];omega) | (intros;simp_all;done))) ?_)
       refine k _ ?_;clear k K;refine zoAssign 10 ⟨?_⟩;refine aAny_done (by kernel_rfl) ?_;refine k8 _ ?_;refine n7 _ ?_
       exact weak_same [4] [0,1,2,3,4,5,6]
      ·refine zsBuildSlice ⟨?_⟩
       refine zoAppend 4 ⟨?_⟩;refine aAny_only 7 rfl (by kernel_rfl) ?_;intro K k
       simp only [zE,zL,zO,zN,aStepM,optable,set_some,Nat.reduceEqDiff,reduceIte,Nat.reduceLT,implies_true,forall_const,reduceCtorEq,V.ofValue,V.ofScalar,V.un,V.gd,aExec,aop,fillK_thin,beq_self_eq_true,List.nodup_cons,List.mem_singleton,forall_eq',List.size_toArray,List.getD_eq_getElem?_getD,Array.getD_eq_getD_getElem?,Option.getD_some,aAppend,destOf,srcOf,takeElems,takeV,takeCell,takeCells,row_mk,Blk.row,killAll,V.isSub,V.noSl,Value.cells,Option.toList,List.forall_mem_map,List.length_map,List.all_cons,List.all_nil,List.isEmpty_nil,List.isEmpty_cons,List.not_mem_nil,List.nodup_nil,join_ff,join_ft,join_fv,join_d,join_s,fillK_join0,fillK_join,List.mem_cons,or_false,forall_eq_or_imp,forall_eq,List.set_cons_zero,List.set_cons_succ,List.length_append,Go.Vm.V.cells,Nat.reduceAdd,Nat.reduceLeDiff,Nat.reduceMul,Tryd.underlying63,Ty.c63,Ty.a63,Ty.z63,Ty.b63,Ty.s63,Tryd.underlying93,Ty.c93,Ty.a93,Ty.z93,Ty.b93,Ty.s93,hnsA,hth]
       repeat (refine And.intro (by first | omega | (refine ⟨?_,?_,?_⟩<;>(first | omega | (intro x hx;simp only [List.mem_append,List.mem_map,List.mem_singleton] at hx;rcases hx with ⟨_,_,rfl⟩ | rfl<;>rfl) | (simp only [List.length_take,List.length_drop];omega) | (intros;simp_all;done));done) | (first | omega | (intro x hx;simp only [List.mem_append,List.mem_map,List.mem_singleton] at hx;rcases hx with ⟨_,_,rfl⟩ | rfl<;>rfl) | (simp only [List.length_take,List.length_drop];omega) | (intros;simp_all;done))) ?_)
       refine k _ ?_;clear k K;refine aAny_only 9 rfl (by kernel_rfl) ?_;intro K k
       simp only [zE,zL,zO,zN,aStepM,optable,set_some,Nat.reduceEqDiff,reduceIte,Nat.reduceLT,implies_true,forall_const,reduceCtorEq,V.ofValue,V.ofScalar,V.un,V.gd,aExec,aop,fillK_thin,beq_self_eq_true,List.nodup_cons,List.mem_singleton,forall_eq',List.size_toArray,List.getD_eq_getElem?_getD,Array.getD_eq_getD_getElem?,Option.getD_some,aAppend,destOf,srcOf,takeElems,takeV,takeCell,takeCells,row_mk,Blk.row,killAll,V.isSub,V.noSl,Value.cells,Option.toList,List.forall_mem_map,List.length_map,List.all_cons,List.all_nil,List.isEmpty_nil,List.isEmpty_cons,List.not_mem_nil,List.nodup_nil,join_ff,join_ft,join_fv,join_d,join_s,fillK_join0,fillK_join,List.mem_cons,or_false,forall_eq_or_imp,forall_eq,List.set_cons_zero,List.set_cons_succ,List.length_append,Go.Vm.V.cells,Nat.reduceAdd,Nat.reduceLeDiff,Nat.reduceMul,Tryd.underlying63,Ty.c63,Ty.a63,Ty.z63,Ty.b63,Ty.s63,Tryd.underlying93,Ty.c93,Ty.a93,Ty.z93,Ty.b93,Ty.s93,hnsA,hth]
       repeat (refine And.intro (by first | omega | (refine ⟨?_,?_,?_⟩<;>(first | omega | (intro x hx;simp only [List.mem_append,List.mem_map,List.mem_singleton] at hx;rcases hx with ⟨_,_,rfl⟩ | rfl<;>rfl) | (simp only [List.length_take,List.length_drop];omega) | (intros;simp_all;done));done) | (first | omega | (intro x hx;simp only [List.mem_append,List.mem_map,List.mem_singleton] at hx;rcases hx with ⟨_,_,rfl⟩ | rfl<;>rfl) | (simp only [List.length_take,List.length_drop];omega) | (intros;simp_all;done))) ?_)
       refine k _ ?_;clear k K;refine zoAssign 10 ⟨?_⟩;refine aAny_done (by kernel_rfl) ?_;refine k8 _ ?_;refine n7 _ ?_
       exact weak_same [4] [0,1,2,4,3,5,6]
     ·refine zsBuildSlice ⟨?_⟩
      refine zoBuildSlice 0 ⟨?_⟩;refine zoAppend 4 ⟨?_⟩;refine aAny_only 7 rfl (by kernel_rfl) ?_;intro K k
      simp only [zE,zL,zO,zN,aStepM,optable,set_some,Nat.reduceEqDiff,reduceIte,Nat.reduceLT,implies_true,forall_const,reduceCtorEq,V.ofValue,V.ofScalar,V.un,V.gd,aExec,aop,fillK_thin,beq_self_eq_true,List.nodup_cons,List.mem_singleton,forall_eq',List.size_toArray,List.getD_eq_getElem?_getD,Array.getD_eq_getD_getElem?,Option.getD_some,aAppend,destOf,srcOf,takeElems,takeV,takeCell,takeCells,row_mk,Blk.row,killAll,V.isSub,V.noSl,Value.cells,Option.toList,List.forall_mem_map,List.length_map,List.all_cons,List.all_nil,List.isEmpty_nil,List.isEmpty_cons,List.not_mem_nil,List.nodup_nil,join_ff,join_ft,join_fv,join_d,join_s,fillK_join0,fillK_join,List.mem_cons,or_false,forall_eq_or_imp,forall_eq,List.set_cons_zero,List.set_cons_succ,List.length_append,Go.Vm.V.cells,Nat.reduceAdd,Nat.reduceLeDiff,Nat.reduceMul,Tryd.underlying63,Ty.c63,Ty.a63,Ty.z63,Ty.b63,Ty.s63,Tryd.underlying93,Ty.c93,Ty.a93,Ty.z93,Ty.b93,Ty.s93,hnsA,hth]
      repeat (refine And.intro (by first | omega | (refine ⟨?_,?_,?_⟩<;>(first | omega | (intro x hx;simp only [List.mem_append,List.mem_map,List.mem_singleton] at hx;rcases hx with ⟨_,_,rfl⟩ | rfl<;>rfl) | (simp only [List.length_take,List.length_drop];omega) | (intros;simp_all;done));done) | (first | omega | (intro x hx;simp only [List.mem_append,List.mem_map,List.mem_singleton] at hx;rcases hx with ⟨_,_,rfl⟩ | rfl<;>rfl) | (simp only [List.length_take,List.length_drop];omega) | (intros;simp_all;done))) ?_)
      refine k _ ?_;clear k K;refine aAny_only 9 rfl (by kernel_rfl) ?_;intro K k
      simp only [zE,zL,zO,zN,aStepM,optable,set_some,Nat.reduceEqDiff,reduceIte,Nat.reduceLT,implies_true,forall_const,reduceCtorEq,V.ofValue,V.ofScalar,V.un,V.gd,aExec,aop,fillK_thin,beq_self_eq_true,List.nodup_cons,List.mem_singleton,forall_eq',List.size_toArray,List.getD_eq_getElem?_getD,Array.getD_eq_getD_getElem?,Option.getD_some,aAppend,destOf,srcOf,takeElems,takeV,takeCell,takeCells,row_mk,Blk.row,killAll,V.isSub,V.noSl,Value.cells,Option.toList,List.forall_mem_map,List.length_map,List.all_cons,List.all_nil,List.isEmpty_nil,List.isEmpty_cons,List.not_mem_nil,List.nodup_nil,join_ff,join_ft,join_fv,join_d,join_s,fillK_join0,fillK_join,List.mem_cons,or_false,forall_eq_or_imp,forall_eq,List.set_cons_zero,List.set_cons_succ,List.length_append,Go.Vm.V.cells,Nat.reduceAdd,Nat.reduceLeDiff,Nat.reduceMul,Tryd.underlying63,Ty.c63,Ty.a63,Ty.z63,Ty.b63,Ty.s63,Tryd.underlying93,Ty.c93,Ty.a93,Ty.z93,Ty.b93,Ty.s93,hnsA,hth]
      repeat (refine And.intro (by first | omega | (refine ⟨?_,?_,?_⟩<;>(first | omega | (intro x hx;simp only [List.mem_append,List.mem_map,List.mem_singleton] at hx;rcases hx with ⟨_,_,rfl⟩ | rfl<;>rfl) | (simp only [List.length_take,List.length_drop];omega) | (intros;simp_all;done));done) | (first | omega | (intro x hx;simp only [List.mem_append,List.mem_map,List.mem_singleton] at hx;rcases hx with ⟨_,_,rfl⟩ | rfl<;>rfl) | (simp only [List.length_take,List.length_drop];omega) | (intros;simp_all;done))) ?_)
      refine k _ ?_;clear k K;refine zoAssign 10 ⟨?_⟩;refine aAny_done (by kernel_rfl) ?_;refine k8 _ ?_;refine n7 _ ?_
      exact weak_same [4] [0,1,3,4,2,5,6]
   ·refine zkm ⟨?_⟩
    refine v_ret ?_;refine r0 _ ?_;refine zf ⟨?_⟩
    rw [hpt]
    try simp only [minI]
    exact ret_all rfl (by first | decide | simp [newIds,refsOf,refs2,refs1]) (by simp) rfl (by simp [newIds,refsOf,refs2,refs1]) (by simp [Blk.kindIs,fillK_fd]) rfl
 ·skip
  have hkl:=(List.getElem?_eq_some_iff.1 hy).1
  have hle:=lbT_le l s
  have hyb:=hb.2 _ (List.mem_of_getElem? hy)
  simp only [] at hyb hyn
  have hpt:=put_old n d hth hy
  refine v_seqR [0,3] ?_;intro K9 k9
  have F:=Fc.mk (And.intro hnsA (And.intro hth (And.intro @Int.toNat_natCast (fun f=>getD_map (f:=f) hy))))
  refine zq21 ⟨?_⟩;refine k9 _ ?_;refine zk ⟨?_⟩;refine v_seqR [0,3,5,6] ?_;intro K10 k10;refine zq31 ⟨?_⟩;refine zc (eqFind_con l s (by omega) hs) ⟨?_⟩;refine zq16 ⟨?_⟩;refine k10 _ ?_;refine zk ⟨?_⟩;refine v_seqR [0,3,5,6,7] ?_;intro K11 k11;refine zq3 ⟨?_⟩;refine zSlice ⟨?_⟩;refine zAssign ⟨?_⟩;refine k11 _ ?_;refine zk ⟨?_⟩;refine v_seq ?_;intro Q12 n12 e12 r12;refine v_seqR [0,3,5,7,18] ?_;intro K13 k13;refine zMove ⟨?_⟩;refine k13 _ ?_;refine zk ⟨?_⟩;refine v_cond _ rfl ?_ ?_
  ·intro hc0
   try simp only [zC,reduceCtorEq] at hc0
   refine v_seq ?_;intro Q15 n15 e15 r15;refine v_draw (by kernel_rfl) ?_;intro K16 q16 k16
   show aAny _ _ _ _ 10 (Array.replicate 10 false) _
   refine zdFieldAddr q16 true 0 19 ?_;refine zdLoad q16 true 1 20 ?_;refine zdMove q16 true 2 21 ?_;refine zdMove q16 true 3 22 ?_;refine zdIndexAddr q16 true 4 23 ?_;refine zdFieldAddr q16 true 5 24 ?_;refine zdLoad q16 true 6 25 ?_;refine zdBinOpW q16 true 7 26 ?_;refine zdFieldAddr q16 true 8 27 ?_;refine zoStore 9 ⟨?_⟩;refine aAny_done (by kernel_rfl) ?_;refine k16 _ ?_;refine n15 _ _ (weak_keep [0,3,5] _) ?_;refine zk ⟨?_⟩;refine v_seq ?_;intro Q17 n17 e17 r17;refine v_draw (by kernel_rfl) ?_;intro K18 q18 k18
   show aAny _ _ _ _ 10 (Array.replicate 10 false) _
   refine zdFieldAddr q18 true 0 28 ?_;refine zdLoad q18 true 1 29 ?_;refine zdMove q18 true 2 30 ?_;refine zdMove q18 true 3 31 ?_;refine zdIndexAddr q18 true 4 32 ?_;refine zdFieldAddr q18 true 5 33 ?_;refine zdLoad q18 true 6 34 ?_;refine zoc 7 (l1Least_con d y2) ⟨?_⟩;refine zdFieldAddr q18 true 8 36 ?_;refine zoStore 9 ⟨?_⟩;refine aAny_done (by kernel_rfl) ?_;refine k18 _ ?_;refine n17 _ _ (weak_keep [0,3,5] _) ?_;refine zk ⟨?_⟩;refine v_region ?_;intro K19 k19;refine zq3 ⟨?_⟩;refine zBinOpW ⟨?_⟩;refine zSlice ⟨?_⟩;refine zAssign ⟨?_⟩;refine k19 _ ?_;refine n12 _ _ (weak_keep [0,3,5,7] _) ?_;refine zk ⟨?_⟩
   apply v_seq1
   ·intro Q20 n20 e20 r20
    refine v_draw (by kernel_rfl) ?_;intro K21 q21 k21
    show aAny _ _ _ _ 11 (Array.replicate 11 false) _
    refine zdMove q21 true 1 42 ?_;refine zdMove q21 true 2 43 ?_;refine zdSlice q21 true 3 44 ?_;refine zdMove q21 false 8 49 ?_;refine aAny_two 0 5 rfl rfl (by kernel_rfl) ?_ ?_
    ·refine zsBuildSlice ⟨?_⟩
     refine aAny_two 4 5 rfl rfl (by kernel_rfl) ?_ ?_
     ·refine zsAppend ⟨?_⟩
      refine zdLoad q21 true 5 46 ?_;refine zoBuildSlice 6 ⟨?_⟩;refine aAny_only 7 rfl (by kernel_rfl) ?_;intro K k
      simp only [zE,zL,zO,zN,aStepM,optable,set_some,Nat.reduceEqDiff,reduceIte,Nat.reduceLT,implies_true,forall_const,reduceCtorEq,V.ofValue,V.ofScalar,V.un,V.gd,aExec,aop,fillK_thin,beq_self_eq_true,List.nodup_cons,List.mem_singleton,forall_eq',List.size_toArray,List.getD_eq_getElem?_getD,Array.getD_eq_getD_getElem?,Option.getD_some,aAppend,destOf,srcOf,takeElems,takeV,takeCell,takeCells,row_mk,Blk.row,killAll,V.isSub,V.noSl,Value.cells,Option.toList,List.forall_mem_map,List.length_map,List.all_cons,List.all_nil,List.isEmpty_nil,List.isEmpty_cons,List.not_mem_nil,List.nodup_nil,join_ff,join_ft,join_fv,join_d,join_s,fillK_join0,fillK_join,List.mem_cons,or_false,forall_eq_or_imp,forall_eq,List.set_cons_zero,List.set_cons_succ,List.length_append,Go.Vm.V.cells,Nat.reduceAdd,Nat.reduceLeDiff,Nat.reduceMul,Tryd.underlying63,Ty.c63,Ty.a63,Ty.z63,Ty.b63,Ty.s63,Tryd.underlying93,Ty.c93,Ty.a93,Ty.z93,Ty.b93,Ty.s93,hnsA,hth,Int.toNat_natCast,getD_map hy]
      repeat (refine And.intro (by first | omega | (refine ⟨?_,?_,?_⟩<;>(first | omega | (intro x hx;simp only [List.mem_append,List.mem_map,List.mem_singleton] at hx;rcases hx with ⟨_,_,rfl⟩ | rfl<;>rfl) | (simp only [List.length_take,List.length_drop];omega) | (intros;simp_all;done));done) | (first | omega | (intro x hx;simp only [List.mem_append,List.mem_map,List.mem_singleton] at hx;rcases hx with ⟨_,_,rfl⟩ | rfl<;>rfl) | (simp only [List.length_take,List.length_drop];omega) | (intros;simp_all;done))) ?_)
      refine k _ ?_;clear k K;refine aAny_only 9 rfl (by kernel_rfl) ?_;intro K k
      simp only [zE,zL,zO,zN,aStepM,optable,set_some,Nat.reduceEqDiff,reduceIte,Nat.reduceLT,implies_true,forall_const,reduceCtorEq,V.ofValue,V.ofScalar,V.un,V.gd,aExec,aop,fillK_thin,beq_self_eq_true,List.nodup_cons,List.mem_singleton,forall_eq',List.size_toArray,List.getD_eq_getElem?_getD,Array.getD_eq_getD_getElem?,Option.getD_some,aAppend,destOf,srcOf,takeElems,takeV,takeCell,takeCells,row_mk,Blk.row,killAll,V.isSub,V.noSl,Value.cells,Option.toList,List.forall_mem_map,List.length_map,List.all_cons,List.all_nil,List.isEmpty_nil,List.isEmpty_cons,List.not_mem_nil,List.nodup_nil,join_ff,join_ft,join_fv,join_d,join_s,fillK_join0,fillK_join,List.mem_cons,or_false,forall_eq_or_imp,forall_eq,List.set_cons_zero,List.set_cons_succ,List.length_append,Go.Vm.V.cells,Nat.reduceAdd,Nat.reduceLeDiff,Nat.reduceMul,Tryd.underlying63,Ty.c63,Ty.a63,Ty.z63,Ty.b63,Ty.s63,Tryd.underlying93,Ty.c93,Ty.a93,Ty.z93,Ty.b93,Ty.s93,hnsA,hth,Int.toNat_natCast,getD_map hy]
      repeat (refine And.intro (by first | omega | (refine ⟨?_,?_,?_⟩<;>(first | omega | (intro x hx;simp only [List.mem_append,List.mem_map,List.mem_singleton] at hx;rcases hx with ⟨_,_,rfl⟩ | rfl<;>rfl) | (simp only [List.length_take,List.length_drop];omega) | (intros;simp_all;done));done) | (first | omega | (intro x hx;simp only [List.mem_append,List.mem_map,List.mem_singleton] at hx;rcases hx with ⟨_,_,rfl⟩ | rfl<;>rfl) | (simp only [List.length_take,List.length_drop];omega) | (intros;simp_all;done))) ?_)
      refine k _ ?_;clear k K;refine zoAssign 10 ⟨?_⟩;refine aAny_done (by kernel_rfl) ?_;refine k21 _ ?_;refine n20 _ ?_
      exact weak_one [4] [0,1,2,3,4,5,6]
     ·intro K k
      skip
      simp only [zE,zL,zO,zN,aStepM,optable,set_some,Nat.reduceEqDiff,reduceIte,Nat.reduceLT,implies_true,forall_const,reduceCtorEq,V.ofValue,V.ofScalar,V.un,V.gd,aExec,aop,aLoad,row_mk,Blk.row,PartOK,Go.Vm.part,V.cells,V.noSl,V.noRef,Nat.reduceAdd,Nat.reduceLeDiff,Nat.reduceMul,Tryd.underlying3,Ty.c3,Ty.a3,Tryd.underlying9,Ty.c9,Ty.a9,Tryd.underlying93,Ty.c93,Ty.a93,hnsA,hth,Int.toNat_natCast,getD_map hy]
      repeat (refine And.intro (by first | omega | (intros;omega) | (intros;simp_all;done) | (intros;simp_all;omega)) ?_)
      refine k _ ?_;clear k K;refine aAny_two 4 6 rfl rfl (by kernel_rfl) ?_ ?_
      ·refine zsAppend ⟨?_⟩
       refine zoBuildSlice 6 ⟨?_⟩;refine aAny_only 7 rfl (by kernel_rfl) ?_;intro K k
       simp only [zE,zL,zO,zN,aStepM,optable,set_some,Nat.reduceEqDiff,reduceIte,Nat.reduceLT,implies_true,forall_const,reduceCtorEq,V.ofValue,V.ofScalar,V.un,V.gd,aExec,aop,fillK_thin,beq_self_eq_true,List.nodup_cons,List.mem_singleton,forall_eq',List.size_toArray,List.getD_eq_getElem?_getD,Array.getD_eq_getD_getElem?,Option.getD_some,aAppend,destOf,srcOf,takeElems,takeV,takeCell,takeCells,row_mk,Blk.row,killAll,V.isSub,V.noSl,Value.cells,Option.toList,List.forall_mem_map,List.length_map,List.all_cons,List.all_nil,List.isEmpty_nil,List.isEmpty_cons,List.not_mem_nil,List.nodup_nil,join_ff,join_ft,join_fv,join_d,join_s,fillK_join0,fillK_join,List.mem_cons,or_false,forall_eq_or_imp,forall_eq,List.set_cons_zero,List.set_cons_succ,List.length_append,Go.Vm.V.cells,Nat.reduceAdd,Nat.reduceLeDiff,Nat.reduceMul,Tryd.underlying63,Ty.c63,Ty.a63,Ty.z63,Ty.b63,Ty.s63,Tryd.underlying93,Ty.c93,Ty.a93,Ty.z93,Ty.b93,Ty.s93,hnsA,hth,Int.toNat_natCast,getD_map hy]
       repeat (refine And.intro (by first | omega | (refine ⟨?_,?_,?_⟩<;>(first | omega | (intro x hx;simp only [List.mem_append,List.mem_map,List.mem_singleton] at hx;rcases hx with ⟨_,_,rfl⟩ | rfl<;>rfl) | (simp only [List.length_take,List.length_drop];omega) | (intros;simp_all;done));done) | (first | omega | (intro x hx;simp only [List.mem_append,List.mem_map,List.mem_singleton] at hx;rcases hx with ⟨_,_,rfl⟩ | rfl<;>rfl) | (simp only [List.length_take,List.length_drop];omega) | (intros;simp_all;done))) ?_)
       refine k _ ?_;clear k K;refine aAny_only 9 rfl (by kernel_rfl) ?_;intro K k
       simp only [zE,zL,zO,zN,aStepM,optable,set_some,Nat.reduceEqDiff,reduceIte,Nat.reduceLT,implies_true,forall_const,reduceCtorEq,V.ofValue,V.ofScalar,V.un,V.gd,aExec,aop,fillK_thin,beq_self_eq_true,List.nodup_cons,List.mem_singleton,forall_eq',List.size_toArray,List.getD_eq_getElem?_getD,Array.getD_eq_getD_getElem?,Option.getD_some,aAppend,destOf,srcOf,takeElems,takeV,takeCell,takeCells,row_mk,Blk.row,killAll,V.isSub,V.noSl,Value.cells,Option.toList,List.forall_mem_map,List.length_map,List.all_cons,List.all_nil,List.isEmpty_nil,List.isEmpty_cons,List.not_mem_nil,List.nodup_nil,join_ff,join_ft,join_fv,join_d,join_s,fillK_join0,fillK_join,List.mem_cons,or_false,forall_eq_or_imp,forall_eq,List.set_cons_zero,List.set_cons_succ,List.length_append,Go.Vm.V.cells,Nat.reduceAdd,Nat.reduceLeDiff,Nat.reduceMul,Tryd.underlying63,Ty.c63,Ty.a63,Ty.z63,Ty.b63,Ty.s63,Tryd.underlying93,Ty.c93,Ty.a93,Ty.z93,Ty.b93,Ty.s93,hnsA,hth,Int.toNat_natCast,getD_map hy]
       repeat (refine And.intro (by first | omega | (refine ⟨?_,?_,?_⟩<;>(first | omega | (intro x hx;simp only [List.mem_append,List.mem_map,List.mem_singleton] at hx;rcases hx with ⟨_,_,rfl⟩ | rfl<;>rfl) | (simp only [List.length_take,List.length_drop];omega) | (intros;simp_all;done));done) | (first | omega | (intro x hx;simp only [List.mem_append,List.mem_map,List.mem_singleton] at hx;rcases hx with ⟨_,_,rfl⟩ | rfl<;>rfl) | (simp only [List.length_take,List.length_drop];omega) | (intros;simp_all;done))) ?_)
       refine k _ ?_;clear k K;refine zoAssign 10 ⟨?_⟩;refine aAny_done (by kernel_rfl) ?_;refine k21 _ ?_;refine n20 _ ?_
       exact weak_same [4] [0,1,2,3,4,5,6]
      ·refine zsBuildSlice ⟨?_⟩
       refine zoAppend 4 ⟨?_⟩;refine aAny_only 7 rfl (by kernel_rfl) ?_;intro K k
       simp only [zE,zL,zO,zN,aStepM,optable,set_some,Nat.reduceEqDiff,reduceIte,Nat.reduceLT,implies_true,forall_const,reduceCtorEq,V.ofValue,V.ofScalar,V.un,V.gd,aExec,aop,fillK_thin,beq_self_eq_true,List.nodup_cons,List.mem_singleton,forall_eq',List.size_toArray,List.getD_eq_getElem?_getD,Array.getD_eq_getD_getElem?,Option.getD_some,aAppend,destOf,srcOf,takeElems,takeV,takeCell,takeCells,row_mk,Blk.row,killAll,V.isSub,V.noSl,Value.cells,Option.toList,List.forall_mem_map,List.length_map,List.all_cons,List.all_nil,List.isEmpty_nil,List.isEmpty_cons,List.not_mem_nil,List.nodup_nil,join_ff,join_ft,join_fv,join_d,join_s,fillK_join0,fillK_join,List.mem_cons,or_false,forall_eq_or_imp,forall_eq,List.set_cons_zero,List.set_cons_succ,List.length_append,Go.Vm.V.cells,Nat.reduceAdd,Nat.reduceLeDiff,Nat.reduceMul,Tryd.underlying63,Ty.c63,Ty.a63,Ty.z63,Ty.b63,Ty.s63,Tryd.underlying93,Ty.c93,Ty.a93,Ty.z93,Ty.b93,Ty.s93,hnsA,hth,Int.toNat_natCast,getD_map hy]
       repeat (refine And.intro (by first | omega | (refine ⟨?_,?_,?_⟩<;>(first | omega | (intro x hx;simp only [List.mem_append,List.mem_map,List.mem_singleton] at hx;rcases hx with ⟨_,_,rfl⟩ | rfl<;>rfl) | (simp only [List.length_take,List.length_drop];omega) | (intros;simp_all;done));done) | (first | omega | (intro x hx;simp only [List.mem_append,List.mem_map,List.mem_singleton] at hx;rcases hx with ⟨_,_,rfl⟩ | rfl<;>rfl) | (simp only [List.length_take,List.length_drop];omega) | (intros;simp_all;done))) ?_)
       refine k _ ?_;clear k K;refine aAny_only 9 rfl (by kernel_rfl) ?_;intro K k
       simp only [zE,zL,zO,zN,aStepM,optable,set_some,Nat.reduceEqDiff,reduceIte,Nat.reduceLT,implies_true,forall_const,reduceCtorEq,V.ofValue,V.ofScalar,V.un,V.gd,aExec,aop,fillK_thin,beq_self_eq_true,List.nodup_cons,List.mem_singleton,forall_eq',List.size_toArray,List.getD_eq_getElem?_getD,Array.getD_eq_getD_getElem?,Option.getD_some,aAppend,destOf,srcOf,takeElems,takeV,takeCell,takeCells,row_mk,Blk.row,killAll,V.isSub,V.noSl,Value.cells,Option.toList,List.forall_mem_map,List.length_map,List.all_cons,List.all_nil,List.isEmpty_nil,List.isEmpty_cons,List.not_mem_nil,List.nodup_nil,join_ff,join_ft,join_fv,join_d,join_s,fillK_join0,fillK_join,List.mem_cons,or_false,forall_eq_or_imp,forall_eq,List.set_cons_zero,List.set_cons_succ,List.length_append,Go.Vm.V.cells,Nat.reduceAdd,Nat.reduceLeDiff,Nat.reduceMul,Tryd.underlying63,Ty.c63,Ty.a63,Ty.z63,Ty.b63,Ty.s63,Tryd.underlying93,Ty.c93,Ty.a93,Ty.z93,Ty.b93,Ty.s93,hnsA,hth,Int.toNat_natCast,getD_map hy]
       repeat (refine And.intro (by first | omega | (refine ⟨?_,?_,?_⟩<;>(first | omega | (intro x hx;simp only [List.mem_append,List.mem_map,List.mem_singleton] at hx;rcases hx with ⟨_,_,rfl⟩ | rfl<;>rfl) | (simp only [List.length_take,List.length_drop];omega) | (intros;simp_all;done));done) | (first | omega | (intro x hx;simp only [List.mem_append,List.mem_map,List.mem_singleton] at hx;rcases hx with ⟨_,_,rfl⟩ | rfl<;>rfl) | (simp only [List.length_take,List.length_drop];omega) | (intros;simp_all;done))) ?_)
       refine k _ ?_;clear k K;refine zoAssign 10 ⟨?_⟩;refine aAny_done (by kernel_rfl) ?_;refine k21 _ ?_;refine n20 _ ?_
       exact weak_same [4] [0,1,2,4,3,5,6]
    ·intro K k
     skip
     simp only [zE,zL,zO,zN,aStepM,optable,set_some,Nat.reduceEqDiff,reduceIte,Nat.reduceLT,implies_true,forall_const,reduceCtorEq,V.ofValue,V.ofScalar,V.un,V.gd,aExec,aop,aLoad,row_mk,Blk.row,PartOK,Go.Vm.part,V.cells,V.noSl,V.noRef,Nat.reduceAdd,Nat.reduceLeDiff,Nat.reduceMul,Tryd.underlying3,Ty.c3,Ty.a3,Tryd.underlying9,Ty.c9,Ty.a9,Tryd.underlying93,Ty.c93,Ty.a93,hnsA,hth,Int.toNat_natCast,getD_map hy]
     repeat (refine And.intro (by first | omega | (intros;omega) | (intros;simp_all;done) | (intros;simp_all;omega)) ?_)
     refine k _ ?_;clear k K;refine aAny_two 0 6 rfl rfl (by kernel_rfl) ?_ ?_
     ·refine zsBuildSlice ⟨?_⟩
      refine aAny_two 4 6 rfl rfl (by kernel_rfl) ?_ ?_
      ·refine zsAppend ⟨?_⟩
       refine zoBuildSlice 6 ⟨?_⟩;refine aAny_only 7 rfl (by kernel_rfl) ?_;intro K k
       simp only [zE,zL,zO,zN,aStepM,optable,set_some,Nat.reduceEqDiff,reduceIte,Nat.reduceLT,implies_true,forall_const,reduceCtorEq,V.ofValue,V.ofScalar,V.un,V.gd,aExec,aop,fillK_thin,beq_self_eq_true,List.nodup_cons,List.mem_singleton,forall_eq',List.size_toArray,List.getD_eq_getElem?_getD,Array.getD_eq_getD_getElem?,Option.getD_some,aAppend,destOf,srcOf,takeElems,takeV,takeCell,takeCells,row_mk,Blk.row,killAll,V.isSub,V.noSl,Value.cells,Option.toList,List.forall_mem_map,List.length_map,List.all_cons,List.all_nil,List.isEmpty_nil,List.isEmpty_cons,List.not_mem_nil,List.nodup_nil,join_ff,join_ft,join_fv,join_d,join_s,fillK_join0,fillK_join,List.mem_cons,or_false,forall_eq_or_imp,forall_eq,List.set_cons_zero,List.set_cons_succ,List.length_append,Go.Vm.V.cells,Nat.reduceAdd,Nat.reduceLeDiff,Nat.reduceMul,Tryd.underlying63,Ty.c63,Ty.a63,Ty.z63,Ty.b63,Ty.s63,Tryd.underlying93,Ty.c93,Ty.a93,Ty.z93,Ty.b93,Ty.s93,hnsA,hth,Int.toNat_natCast,getD_map hy]
       repeat (refine And.intro (by first | omega | (refine ⟨?_,?_,?_⟩<;>(first | omega | (intro x hx;simp only [List.mem_append,List.mem_map,List.mem_singleton] at hx;rcases hx with ⟨_,_,rfl⟩ | rfl<;>rfl) | (simp only [List.length_take,List.length_drop];omega) | (intros;simp_all;done));done) | (first | omega | (intro x hx;simp only [List.mem_append,List.mem_map,List.mem_singleton] at hx;rcases hx with ⟨_,_,rfl⟩ | rfl<;>rfl) | (simp only [List.length_take,List.length_drop];omega) | (intros;simp_all;done))) ?_)
       refine k _ ?_;clear k K;refine aAny_only 9 rfl (by kernel_rfl) ?_;intro K k
       simp only [zE,zL,zO,zN,aStepM,optable,set_some,Nat.reduceEqDiff,reduceIte,Nat.reduceLT,implies_true,forall_const,reduceCtorEq,V.ofValue,V.ofScalar,V.un,V.gd,aExec,aop,fillK_thin,beq_self_eq_true,List.nodup_cons,List.mem_singleton,forall_eq',List.size_toArray,List.getD_eq_getElem?_getD,Array.getD_eq_getD_getElem?,Option.getD_some,aAppend,destOf,srcOf,takeElems,takeV,takeCell,takeCells,row_mk,Blk.row,killAll,V.isSub,V.noSl,Value.cells,Option.toList,List.forall_mem_map,List.length_map,List.all_cons,List.all_nil,List.isEmpty_nil,List.isEmpty_cons,List.not_mem_nil,List.nodup_nil,join_ff,join_ft,join_fv,join_d,join_s,fillK_join0,fillK_join,List.mem_cons,or_false,forall_eq_or_imp,forall_eq,List.set_cons_zero,List.set_cons_succ,List.length_append,Go.Vm.V.cells,Nat.reduceAdd,Nat.reduceLeDiff,Nat.reduceMul,Tryd.underlying63,Ty.c63,Ty.a63,Ty.z63,Ty.b63,Ty.s63,Tryd.underlying93,Ty.c93,Ty.a93,Ty.z93,Ty.b93,Ty.s93,hnsA,hth,Int.toNat_natCast,getD_map hy]
       repeat (refine And.intro (by first | omega | (refine ⟨?_,?_,?_⟩<;>(first | omega | (intro x hx;simp only [List.mem_append,List.mem_map,List.mem_singleton] at hx;rcases hx with ⟨_,_,rfl⟩ | rfl<;>rfl) | (simp only [List.length_take,List.length_drop];omega) | (intros;simp_all;done));done) | (first | omega | (intro x hx;simp only [List.mem_append,List.mem_map,List.mem_singleton] at hx;rcases hx with ⟨_,_,rfl⟩ | rfl<;>rfl) | (simp only [List.length_take,List.length_drop];omega) | (intros;simp_all;done))) ?_)
       refine k _ ?_;clear k K;refine zoAssign 10 ⟨?_⟩;refine aAny_done (by kernel_rfl) ?_;refine k21 _ ?_;refine n20 _ ?_
       exact weak_same [4] [0,1,2,3,4,5,6]
      ·refine zsBuildSlice ⟨?_⟩
       refine zoAppend 4 ⟨?_⟩;refine aAny_only 7 rfl (by kernel_rfl) ?_;intro K k
       simp only [zE,zL,zO,zN,aStepM,optable,set_some,Nat.reduceEqDiff,reduceIte,Nat.reduceLT,implies_true,forall_const,reduceCtorEq,V.ofValue,V.ofScalar,V.un,V.gd,aExec,aop,fillK_thin,beq_self_eq_true,List.nodup_cons,List.mem_singleton,forall_eq',List.size_toArray,List.getD_eq_getElem?_getD,Array.getD_eq_getD_getElem?,Option.getD_some,aAppend,destOf,srcOf,takeElems,takeV,takeCell,takeCells,row_mk,Blk.row,killAll,V.isSub,V.noSl,Value.cells,Option.toList,List.forall_mem_map,List.length_map,List.all_cons,List.all_nil,List.isEmpty_nil,List.isEmpty_cons,List.not_mem_nil,List.nodup_nil,join_ff,join_ft,join_fv,join_d,join_s,fillK_join0,fillK_join,List.mem_cons,or_false,forall_eq_or_imp,forall_eq,List.set_cons_zero,List.set_cons_succ,List.length_append,Go.Vm.V.cells,Nat.reduceAdd,Nat.reduceLeDiff,Nat.reduceMul,Tryd.underlying63,Ty.c63,Ty.a63,Ty.z63,Ty.b63,Ty.s63,Tryd.underlying93,Ty.c93,Ty.a93,Ty.z93,Ty.b93,Ty.s93,hnsA,hth,Int.toNat_natCast,getD_map hy]
       repeat (refine And.intro (by first | omega | (refine ⟨?_,?_,?_⟩<;>(first | omega | (intro x hx;simp only [List.mem_append,List.mem_map,List.mem_singleton] at hx;rcases hx with ⟨_,_,rfl⟩ | rfl<;>rfl) | (simp only [List.length_take,List.length_drop];omega) | (intros;simp_all;done));done) | (first | omega | (intro x hx;simp only [List.mem_append,List.mem_map,List.mem_singleton] at hx;rcases hx with ⟨_,_,rfl⟩ | rfl<;>rfl) | (simp only [List.length_take,List.length_drop];omega) | (intros;simp_all;done))) ?_)
       refine k _ ?_;clear k K;refine aAny_only 9 rfl (by kernel_rfl) ?_;intro K k
       simp only [zE,zL,zO,zN,aStepM,optable,set_some,Nat.reduceEqDiff,reduceIte,Nat.reduceLT,implies_true,forall_const,reduceCtorEq,V.ofValue,V.ofScalar,V.un,V.gd,aExec,aop,fillK_thin,beq_self_eq_true,List.nodup_cons,List.mem_singleton,forall_eq',List.size_toArray,List.getD_eq_getElem?_getD,Array.getD_eq_getD_getElem?,Option.getD_some,aAppend,destOf,srcOf,takeElems,takeV,takeCell,takeCells,row_mk,Blk.row,killAll,V.isSub,V.noSl,Value.cells,Option.toList,List.forall_mem_map,List.length_map,List.all_cons,List.all_nil,List.isEmpty_nil,List.isEmpty_cons,List.not_mem_nil,List.nodup_nil,join_ff,join_ft,join_fv,join_d,join_s,fillK_join0,fillK_join,List.mem_cons,or_false,forall_eq_or_imp,forall_eq,List.set_cons_zero,List.set_cons_succ,List.length_append,Go.Vm.V.cells,Nat.reduceAdd,Nat.reduceLeDiff,Nat.reduceMul,Tryd.underlying63,Ty.c63,Ty.a63,Ty.z63,Ty.b63,Ty.s63,Tryd.underlying93,Ty.c93,Ty.a93,Ty.z93,Ty.b93,Ty.s93,hnsA,hth,Int.toNat_natCast,getD_map hy]
       repeat (refine And.intro (by first | omega | (refine ⟨?_,?_,?_⟩<;>(first | omega | (intro x hx;simp only [List.mem_append,List.mem_map,List.mem_singleton] at hx;rcases hx with ⟨_,_,rfl⟩ | rfl<;>rfl) | (simp only [List.length_take,List.length_drop];omega) | (intros;simp_all;done));done) | (first | omega | (intro x hx;simp only [List.mem_append,List.mem_map,List.mem_singleton] at hx;rcases hx with ⟨_,_,rfl⟩ | rfl<;>rfl) | (simp only [List.length_take,List.length_drop];omega) | (intros;simp_all;done))) ?_)
       refine k _ ?_;clear k K;refine zoAssign 10 ⟨?_⟩;refine aAny_done (by kernel_rfl) ?_;refine k21 _ ?_;refine n20 _ ?_
       exact weak_same [4] [0,1,2,4,3,5,6]
     ·refine zsBuildSlice ⟨?_⟩
      refine zoBuildSlice 0 ⟨?_⟩;refine zoAppend 4 ⟨?_⟩;refine aAny_only 7 rfl (by kernel_rfl) ?_;intro K k
      simp only [zE,zL,zO,zN,aStepM,optable,set_some,Nat.reduceEqDiff,reduceIte,Nat.reduceLT,implies_true,forall_const,reduceCtorEq,V.ofValue,V.ofScalar,V.un,V.gd,aExec,aop,fillK_thin,beq_self_eq_true,List.nodup_cons,List.mem_singleton,forall_eq',List.size_toArray,List.getD_eq_getElem?_getD,Array.getD_eq_getD_getElem?,Option.getD_some,aAppend,destOf,srcOf,takeElems,takeV,takeCell,takeCells,row_mk,Blk.row,killAll,V.isSub,V.noSl,Value.cells,Option.toList,List.forall_mem_map,List.length_map,List.all_cons,List.all_nil,List.isEmpty_nil,List.isEmpty_cons,List.not_mem_nil,List.nodup_nil,join_ff,join_ft,join_fv,join_d,join_s,fillK_join0,fillK_join,List.mem_cons,or_false,forall_eq_or_imp,forall_eq,List.set_cons_zero,List.set_cons_succ,List.length_append,Go.Vm.V.cells,Nat.reduceAdd,Nat.reduceLeDiff,Nat.reduceMul,Tryd.underlying63,Ty.c63,Ty.a63,Ty.z63,Ty.b63,Ty.s63,Tryd.underlying93,Ty.c93,Ty.a93,Ty.z93,Ty.b93,Ty.s93,hnsA,hth,Int.toNat_natCast,getD_map hy]
      repeat (refine And.intro (by first | omega | (refine ⟨?_,?_,?_⟩<;>(first | omega | (intro x hx;simp only [List.mem_append,List.mem_map,List.mem_singleton] at hx;rcases hx with ⟨_,_,rfl⟩ | rfl<;>rfl) | (simp only [List.length_take,List.length_drop];omega) | (intros;simp_all;done));done) | (first | omega | (intro x hx;simp only [List.mem_append,List.mem_map,List.mem_singleton] at hx;rcases hx with ⟨_,_,rfl⟩ | rfl<;>rfl) | (simp only [List.length_take,List.length_drop];omega) | (intros;simp_all;done))) ?_)
      refine k _ ?_;clear k K;refine aAny_only 9 rfl (by kernel_rfl) ?_;intro K k
      simp only [zE,zL,zO,zN,aStepM,optable,set_some,Nat.reduceEqDiff,reduceIte,Nat.reduceLT,implies_true,forall_const,reduceCtorEq,V.ofValue,V.ofScalar,V.un,V.gd,aExec,aop,fillK_thin,beq_self_eq_true,List.nodup_cons,List.mem_singleton,forall_eq',List.size_toArray,List.getD_eq_getElem?_getD,Array.getD_eq_getD_getElem?,Option.getD_some,aAppend,destOf,srcOf,takeElems,takeV,takeCell,takeCells,row_mk,Blk.row,killAll,V.isSub,V.noSl,Value.cells,Option.toList,List.forall_mem_map,List.length_map,List.all_cons,List.all_nil,List.isEmpty_nil,List.isEmpty_cons,List.not_mem_nil,List.nodup_nil,join_ff,join_ft,join_fv,join_d,join_s,fillK_join0,fillK_join,List.mem_cons,or_false,forall_eq_or_imp,forall_eq,List.set_cons_zero,List.set_cons_succ,List.length_append,Go.Vm.V.cells,Nat.reduceAdd,Nat.reduceLeDiff,Nat.reduceMul,Tryd.underlying63,Ty.c63,Ty.a63,Ty.z63,Ty.b63,Ty.s63,Tryd.underlying93,Ty.c93,Ty.a93,Ty.z93,Ty.b93,Ty.s93,hnsA,hth,Int.toNat_natCast,getD_map hy]
      repeat (refine And.intro (by first | omega | (refine ⟨?_,?_,?_⟩<;>(first | omega | (intro x hx;simp only [List.mem_append,List.mem_map,List.mem_singleton] at hx;rcases hx with ⟨_,_,rfl⟩ | rfl<;>rfl) | (simp only [List.length_take,List.length_drop];omega) | (intros;simp_all;done));done) | (first | omega | (intro x hx;simp only [List.mem_append,List.mem_map,List.mem_singleton] at hx;rcases hx with ⟨_,_,rfl⟩ | rfl<;>rfl) | (simp only [List.length_take,List.length_drop];omega) | (intros;simp_all;done))) ?_)
      refine k _ ?_;clear k K;refine zoAssign 10 ⟨?_⟩;refine aAny_done (by kernel_rfl) ?_;refine k21 _ ?_;refine n20 _ ?_
      exact weak_same [4] [0,1,3,4,2,5,6]
   ·refine zkm ⟨?_⟩
    refine v_ret ?_;refine r0 _ ?_;refine zf ⟨?_⟩
    rw [hpt]
    try simp only [minI]
    exact ret_all rfl (by first | decide | simp [newIds,refsOf,refs2,refs1]) (by simp) rfl (by simp [newIds,refsOf,refs2,refs1]) (by simp [Blk.kindIs,fillK_fd]) rfl
  ·intro hc0
   exfalso;simp at hc0
end Go.Proofs.YtbameklegpgkfaaDoor
