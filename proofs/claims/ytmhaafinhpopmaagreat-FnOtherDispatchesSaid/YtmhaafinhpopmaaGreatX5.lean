/- What functions compute. No condition. -/
import Derived.Test.YtmhaafinhpopmaaGreatUz
import Derived.Test.YtmhaafinhpopmaaGreatUty
set_option linter.unusedSimpArgs false
set_option linter.unusedVariables false
set_option linter.defProp false
namespace Go.Proofs.YtmhaafinhpopmaaGreat
open Go Go.Vm
set_option maxHeartbeats 8000000
theorem wrapU {n:Int} (h0:0≤n) (h:n < 18446744073709551616):IntKind.u64.wrap n=n:=by
  simp [IntKind.wrap,IntKind.signed,IntKind.bits];omega
theorem andMask {n:Int} (h0:0≤n) (h:n < 4294967296):IntKind.u64.wrap ((BitVec.ofInt IntKind.u64.bits n &&& BitVec.ofInt IntKind.u64.bits 4294967295).toNat:Int)=n:=by
  obtain ⟨m,rfl⟩:=qlf h0;have e:(BitVec.ofInt IntKind.u64.bits (m:Int) &&& BitVec.ofInt IntKind.u64.bits 4294967295).toNat=m:=by
    show (BitVec.ofInt 64 (m:Int) &&& BitVec.ofInt 64 4294967295).toNat=m;rw [BitVec.toNat_and];have h1:(BitVec.ofInt 64 (m:Int)).toNat=m:=by simp [BitVec.toNat_ofInt];omega
    have h2:(BitVec.ofInt 64 4294967295).toNat=2 ^ 32 - 1:=by decide
    rw [h1,h2,Nat.and_two_pow_sub_one_eq_mod];omega
  rw [e,wrapU (by omega) (by omega)]
theorem shr32 {n:Int} (h0:0≤n) (h:n < 4294967296):n.fdiv (2 ^ min (Int.toNat 32) IntKind.u64.bits)=0:=by
  have:min (Int.toNat 32) IntKind.u64.bits=32:=by decide
  rw [this,Int.fdiv_eq_ediv_of_nonneg _ (by decide)];omega
theorem mul64_con (n:Int) (h0:0≤n) (hn:n≤1048576):Con Tryz.prog 101 [.int .u64 1,.int .u64 n] [] (.tup [.int .u64 0,.int .u64 n]) []:=by
 have a1:=andMask (n:=1) (by omega) (by omega);have a0:=andMask (n:=0) (by omega) (by omega);have an:=andMask (n:=n) (by omega) (by omega);have s1:=shr32 (n:=1) (by omega) (by omega);have s0:=shr32 (n:=0) (by omega) (by omega);have sn:=shr32 (n:=n) (by omega) (by omega);have m1:IntKind.u64.wrap (1 * n)=n:=by rw [Int.one_mul];exact wrapU (by omega) (by omega)
 have m2:IntKind.u64.wrap (0 * n)=0:=by rw [Int.zero_mul];rfl
 have m3:IntKind.u64.wrap (0+0)=0:=rfl;have m4:IntKind.u64.wrap (1 * 0)=0:=rfl;have m5:IntKind.u64.wrap (0 * 0)=0:=rfl;refine v_con [.tmp 4,.tmp 5] [] Tryz.func101 rfl rfl rfl (by simp [Tryz.ntmps101]) ?_;intro Q0 n0 r0;simp only [Tryz.ntmps101,envFrom,Nat.reduceAdd];have T:=Tys.mk (ai Ty.t48 Ty.t110);have F:=Fc.mk True.intro;have F:=Fc.mk (ai a1 (ai a0 (ai an (ai s1 (ai s0 (ai sn (ai m1 (ai m2 (ai m3 (ai m4 m5))))))))));refine yR [0,1] ⟨?_⟩;refine yR [0,1,6] ⟨?_⟩;refine yR [0,1,6,7] ⟨?_⟩;refine yR [0,1,6,7,8] ⟨?_⟩;refine yR [0,1,6,7,8,9] ⟨?_⟩;refine yR [0,1,6,7,8,9,10] ⟨?_⟩;refine yR [0,1,6,7,9,11] ⟨?_⟩;refine yR [0,1,6,7,9,11,12] ⟨?_⟩;refine yR [0,1,6,7,9,12,13] ⟨?_⟩;refine yR [0,1,7,9,12,13] ⟨?_⟩;refine yR [0,1,4] ⟨?_⟩;refine yR [4,5] ⟨?_⟩;refine zr ⟨?_⟩;exact ret_pure rfl rfl (.inl rfl)
theorem mulU_con (n:Int) (h0:0≤n) (hn:n≤1048576):Con Tryz.prog 90 [.int .u64 1,.int .u64 n] [] (.tup [.int .u64 0,.int .u64 n]) []:=by
 refine v_con [.tmp 4,.tmp 5] [] Tryz.func90 rfl rfl rfl (by simp [Tryz.ntmps90]) ?_;intro Q0 n0 r0;simp only [Tryz.ntmps90,envFrom,Nat.reduceAdd];have T:=Tys.mk (ai Ty.t48 Ty.t110);have F:=Fc.mk True.intro;refine yR [0,1] ⟨?_⟩;refine v_seq ?_;intros;refine v_cond _ rfl ?_ ?_
 ·intro hc0;exfalso;cases hc0
 ·intro hc0;try simp only [zC,reduceCtorEq] at hc0
  refine zn [0,1] ⟨?_⟩;refine yRc [8,9] (mul64_con n h0 hn) ⟨?_⟩;refine yR [4,5] ⟨?_⟩;refine zr ⟨?_⟩;exact ret_pure rfl rfl (.inl rfl)
def repTo (c:Int) (N m:Nat):List V:=List.replicate m (V.int .i64 c)++List.replicate (N - m) (V.int .i64 0)
theorem repTo_len {c:Int} {N m:Nat} (h:m≤N):(repTo c N m).length=N:=by simp [repTo];omega
theorem repTo_cells {c:Int} {N m:Nat}:∀x∈repTo c N m,x.cells.length=1:=by
  intro x hx;rw [repTo,qll] at hx;rcases hx with h | h<;>rw [List.eq_of_mem_replicate h]<;>rfl
theorem repTo_step {c:Int} {N m k:Nat} (h:m≤N) (hk:k=min m (N - m)):(repTo c N m).take m++((repTo c N m).take m).take k++(repTo c N m).drop (m+k)=repTo c N (m+k):=by
  have h1:(repTo c N m).take m=List.replicate m (V.int .i64 c):=by rw [repTo,List.take_left' (by simp)]
  have h2:(repTo c N m).drop (m+k)=List.replicate (N - (m+k)) (V.int .i64 0):=by
    rw [repTo,List.drop_append,qlt (by simp),List.length_replicate,List.nil_append,List.drop_replicate]
    congr 1;omega
  rw [h1,h2,List.take_replicate,List.replicate_append_replicate,repTo]
  congr 3;omega
theorem repeat_con (c:Int) (N:Nat) (h1:1≤N) (hN:N≤1048576):Con Tryz.prog 73 [.sl [.int .i64 c],.int .i64 N] [] (.ref 0) [.arr ((List.replicate N c).map (V.int .i64)) .flat]:=by
 have u1:IntKind.u64.wrap 1=1:=rfl;have un:IntKind.u64.wrap (N:Int)=N:=wrapU (by omega) (by omega);have wn:IntKind.i64.wrap (N:Int)=N:=by simp (disch:=omega) only [wrap64]
 refine v_con [.tmp 4] [] Tryz.func73 rfl rfl rfl (by simp [Tryz.ntmps73]) ?_;intro Q0 n0 r0;simp only [Tryz.ntmps73,envFrom,Nat.reduceAdd];have T:=Tys.mk (ai Ty.t3 (ai Ty.t28 Ty.t110));have F:=Fc.mk True.intro;have F:=Fc.mk (ai u1 (ai un wn));refine yR [0,1] ⟨?_⟩;refine v_seq ?_;intros;refine yR [0,1,10] ⟨?_⟩;refine v_cond _ rfl ?_ ?_
 ·intro hc0;exfalso;simp at hc0;omega
 ·intro hc0;try simp only [zC,reduceCtorEq] at hc0
  refine zn [0,1] ⟨?_⟩;refine yRc [0,5,6] (mulU_con (N:Int) (by omega) (by omega)) ⟨?_⟩;refine v_seq ?_;intros;refine yR [0,6,26] ⟨?_⟩;refine v_cond _ rfl ?_ ?_
  ·intro hc1;exfalso;simp at hc1;omega
  ·intro hc1;try simp only [zC,reduceCtorEq] at hc1
   refine zn [0,6] ⟨?_⟩;refine yR [0,7] ⟨?_⟩;refine yR [7,8] ⟨?_⟩;refine v_seq ?_;intros;refine v_block ?_;intros;refine v_loop (fun m=>⟨[(7,.ref 0),(8,.int .i64 (Nat.cast m))],[.arr (repTo c N m) .flat],false,48,0⟩) (fun m=>1≤m∧m≤N) (fun m=>N - m) 1 ?_ ?_ ?_
   ·refine weak_bothS [7,8] [1] ⟨?_⟩;simp only [List.length_replicate,show min 1 N=1 by omega];rw [show List.take 1 [V.int .i64 c]++List.drop 1 (List.replicate N (V.int .i64 0))=repTo c N 1 by rw [repTo,List.drop_replicate];rfl]
   ·exact ⟨qlu _,h1⟩
   ·rintro m hok13 Q13 n13 e13 r13;obtain ⟨hm1,hm2⟩:=hok13;refine v_seq ?_;intros;refine yR [7,8,37] ⟨?_⟩;refine v_condS _ rfl ?_ ?_
    ·intro hc2;have hrl:=repTo_len (c:=c) (N:=N) hm2;have hlt:m < N:=by rw [hrl] at hc2;omega
     refine zn [7,8] ⟨?_⟩;refine v_block ?_;intro Q17 n17 x17 e17 r17;refine v_draw (by kernel_rfl) ?_;intro K18 q18 k18;show aAny _ _ _ _ 10 (Array.replicate 10 false) _;have F:=Fc.mk (ai u1 (ai un (ai wn hrl)));refine zdMove q18 false 0 38 ?_;refine zdMove q18 true 1 39 ?_;refine zdMove q18 true 2 40 ?_;refine aAny_take q18 true 3 41 rfl rfl (by kernel_rfl) (by kernel_rfl) ?_;apply Exists.intro;apply And.intro
     ·intro t hn gx ho K' k';have g39:=gx 39 (by decide);have g40:=gx 40 (by decide);simp only [get_mk,look_cons,look_nil,set_some,Nat.reduceEqDiff,reduceIte] at g39 g40;first | have row0:=grow_row (i:=0) (ho rfl) rfl | have row0:t.n+0=t.n:=rfl
      first | have row1:=grow_row (i:=1) (ho rfl) rfl | have row1:t.n+0=t.n:=rfl
      first | have row2:=grow_row (i:=2) (ho rfl) rfl | have row2:t.n+0=t.n:=rfl
      have hdl:41 < t.n:=by rw [hn];show 41 < 48;decide
      clear hn;refine .inl ?_;simp only [zE,zL,zN,hdl,aStepM,optable,Nat.reduceEqDiff,reduceIte,implies_true,forall_const,reduceCtorEq,V.ofValue,V.ofScalar,V.un,V.gd,aExec,aop,g39,g40,row0,row1,row2,List.set_cons_zero,List.set_cons_succ,aSlice,forall_eq',bound,ElemsOK,Option.map_none,Option.isNone_none,row_mk,Blk.row,TypeDesc.slice.injEq,List.forall_mem_map,List.length_map,Go.Vm.V.cells,Int.toNat_natCast,Int.reduceToNat,←List.map_take,←List.map_drop,List.take_length,Nat.reduceAdd,Nat.reduceLeDiff,Nat.reduceLT,Nat.reduceMul,Tryz.underlying3,Ty.c3,Ty.a3,Tryz.underlying28,Ty.c28,Ty.a28,u1,un,wn,hrl];repeat (refine ai (by first | omega | exact repTo_cells | exact ⟨by omega,repTo_cells,fun y hy=>repTo_cells y (ql3 hy)⟩ | (intros;omega) | (intros;simp_all;done) | (intros;simp_all;omega)) ?_)
      exact k'
     simp only [set_some];refine zdMove q18 true 4 42 ?_;refine zdMove q18 true 5 43 ?_;refine aAny_take q18 true 6 44 rfl rfl (by kernel_rfl) (by kernel_rfl) ?_;apply Exists.intro;apply And.intro
     ·intro t hn gx ho K' k';have g42:=gx 42 (by decide);have g43:=gx 43 (by decide);simp only [get_mk,look_cons,look_nil,set_some,Nat.reduceEqDiff,reduceIte] at g42 g43;first | have row0:=grow_row (i:=0) (ho rfl) rfl | have row0:t.n+0=t.n:=rfl
      first | have row1:=grow_row (i:=1) (ho rfl) rfl | have row1:t.n+0=t.n:=rfl
      first | have row2:=grow_row (i:=2) (ho rfl) rfl | have row2:t.n+0=t.n:=rfl
      have hdl:44 < t.n:=by rw [hn];show 44 < 48;decide
      clear hn;refine .inl ?_;simp only [zE,zL,zN,hdl,aStepM,optable,Nat.reduceEqDiff,reduceIte,implies_true,forall_const,reduceCtorEq,V.ofValue,V.ofScalar,V.un,V.gd,aExec,aop,g42,g43,row0,row1,row2,List.set_cons_zero,List.set_cons_succ,aSlice,forall_eq',bound,ElemsOK,Option.map_none,Option.isNone_none,row_mk,Blk.row,TypeDesc.slice.injEq,List.forall_mem_map,List.length_map,Go.Vm.V.cells,Int.toNat_natCast,Int.reduceToNat,←List.map_take,←List.map_drop,List.take_length,Nat.reduceAdd,Nat.reduceLeDiff,Nat.reduceLT,Nat.reduceMul,Tryz.underlying3,Ty.c3,Ty.a3,Tryz.underlying28,Ty.c28,Ty.a28,u1,un,wn,hrl];repeat (refine ai (by first | omega | exact repTo_cells | exact ⟨by omega,repTo_cells,fun y hy=>repTo_cells y (ql3 hy)⟩ | (intros;omega) | (intros;simp_all;done) | (intros;simp_all;omega)) ?_)
      exact k'
     simp only [set_some];refine aAny_only 7 rfl (by kernel_rfl) ?_;intro K k;simp only [zE,zL,zO,zN,aStepM,optable,set_some,Nat.reduceEqDiff,reduceIte,Nat.reduceLT,implies_true,forall_const,reduceCtorEq,V.ofValue,V.ofScalar,V.un,V.gd,aExec,aop,aCopy,dstRng,srcOf,row_mk,Blk.row,join_ff,join_fv,join_s,join_d,join_t,List.set_cons_zero,List.set_cons_succ,List.forall_mem_map,List.length_map,Go.Vm.V.cells,V.noSl,List.size_toArray,List.getD_eq_getElem?_getD,Array.getD_eq_getD_getElem?,Option.getD_some,TypeDesc.slice.injEq,Nat.reduceAdd,Nat.reduceLeDiff,Nat.reduceMul,Tryz.underlying3,Ty.c3,Ty.a3,Ty.b3,Ty.s3,Tryz.underlying28,Ty.c28,Ty.a28,Ty.b28,Ty.s28,u1,un,wn,hrl];repeat (refine ai (by first | omega | exact repTo_cells | exact ⟨by omega,repTo_cells,fun y hy=>repTo_cells y (ql3 hy)⟩ | (intros;omega) | (intros;simp_all;done) | (intros;simp_all;omega)) ?_)
     refine k _ ?_;clear k K;refine zdBinOpW q18 true 8 46 ?_;refine zoAssign 9 ⟨?_⟩;refine aAny_done (by kernel_rfl) ?_;refine k18 _ ?_;refine n17 _ ?_;refine n13 _ (m+min m (N - m)) ?_ ?_ ?_
     ·refine weak_bothS [7,8] [0] ⟨?_⟩;simp only [Nat.sub_zero,List.length_take,repTo_len hm2,show min m N=m by omega,←Int.natCast_add];rw [repTo_step hm2 rfl]
     ·exact ⟨by omega,by omega⟩
     ·show _ < _;omega
    ·intro hc2;refine zn [7] ⟨?_⟩;refine yR [4] ⟨?_⟩;refine zr ⟨?_⟩;have hend:m=N:=by rw [repTo_len hm2] at hc2;omega
     exact ret_refK rfl rfl (by rw [hend,repTo,Nat.sub_self,List.map_replicate];simp)
end Go.Proofs.YtmhaafinhpopmaaGreat
