/- What functions compute. No condition. -/
import Derived.Test.YtcdpeopiajgljaaGreatDoorUz
import Derived.Test.YtcdpeopiajgljaaGreatDoorUty
import Derived.Test.YtcdpeopiajgljaaGreatDoorUmG
import Derived.Test.YtcdpeopiajgljaaGreatDoorX5
set_option linter.unusedSimpArgs false
set_option linter.unusedVariables false
set_option linter.defProp false
namespace Go.Proofs.YtcdpeopiajgljaaGreatDoor
open Go Go.Vm
set_option maxHeartbeats 8000000
set_option maxRecDepth 8000 in
theorem spoilt_con (code:List Int) (a s:Int) (t wi:ByteArray) (ht:t.size≤1000000) (hw:1≤wi.size∧wi.size≤100) (hcode:∀x∈code,0≤x∧x≤255) (hcl:code.length≤9223372036854775807) (ha:0≤a∧a < 17000000000):ConX Tryz.prog 49 [.ptr 0 0 0,.str t,.str wi] [.box (.agg [.sl (code.map (V.int .u8)),.int .i64 a,.int .u64 s]) .shal] (fun r O'=>∃(v:ByteArray) (a' s':Int),(v.size≤t.size+2)∧(a≤a'∧a'≤a+20)∧r=.str v∧O'=[.box (.agg [.sl (code.map (V.int .u8)),.int .i64 a',.int .u64 s']) .shal]):=by
 refine v_conX [.tmp 6] [(43,[0])] Tryz.func49 rfl rfl rfl (by simp [Tryz.ntmps49]) ?_
 intro Q0 n0 r0
 simp only [Tryz.ntmps49,envFrom,Nat.reduceAdd]
 have T:=Tys.mk (ai Ty.t3 (ai Ty.t5 (ai Ty.t9 (ai Ty.t22 (ai Ty.t51 (ai Ty.t52 Ty.t54))))))
 have F:=Fc.mk True.intro
 refine yR [0,1,2] ⟨?_⟩;refine v_seq ?_;intros;refine v_seqR [0,1,2,7] ?_;intro K3 k3;refine zMove ⟨?_⟩;refine v_op ?_;intro K k
 simp only [zE,zM,aStepM,optable,set_some,Nat.reduceEqDiff,reduceIte,Nat.reduceLT,implies_true,forall_const,reduceCtorEq,V.ofValue,V.ofScalar,V.un,V.gd,aExec,lentIds,lendOf,‹Tys _›.h,‹Fc _›.h]
 repeat (refine andC ?_)
 refine aCall_lentXA (pick_con code a s (2) hcode hcl (by omega)) ?_
 rintro _ _ ⟨v11,a11,s11,h11,k11,rfl,rfl⟩
 refine ⟨_,_,rfl,by first | exact .inr (List.all_eq_true.1 rfl) | exact .inl ⟨rfl,by simp [Blk.kindIs,fillK_fd,thK_fd]⟩,?_⟩;refine k _ ?_;clear k K
 simp only [zY,zW,set_some,Nat.reduceEqDiff,reduceIte,rho_one,rho_s,rho2_s,rho2_0,rho2_1,V.ren,V.renL,List.set_cons_zero,List.set_cons_succ,rho,Nat.reduceAdd,Nat.add_zero]
 refine zBinOpW ⟨?_⟩;refine zAssign ⟨?_⟩;refine k3 _ ?_;refine zk ⟨?_⟩;refine v_block ?_;intros;refine v_loop (fun p=>⟨[(0,.ptr 0 0 0),(1,.str p.1),(2,.str wi),(7,.int .i64 p.2.1)],[.box (.agg [.sl (code.map (V.int .u8)),.int .i64 p.2.2.1,.int .u64 p.2.2.2]) .shal],false,68,0⟩) (fun p=>(p.1.size:Int)+p.2.1≤t.size+2∧0≤p.2.1∧p.2.1≤2∧a≤p.2.2.1∧p.2.2.1+6 * p.2.1≤a+14) (fun p=>p.2.1.toNat) ((t,1+v11,a11,s11):ByteArray×Int×Int×Int) ?_ ?_ ?_
 ·refine weak_both [0,1,2,7] [0] (by decide) (by simp) ?_ ?_ ?_
  ·simp [keep_mk,keepE_nil,keepE_cons,look_cons,V.only,V.onlyL,idx]<;>(first | rfl | decide)
  ·simp [Blk.kindIs,fillK_mix,thK_mix]
  simp only [keep_mk,keepE_nil,keepE_cons,look_cons,look_nil,Nat.reduceEqDiff,reduceIte,St.comp,List.map_cons,List.map_nil,V.ren,V.renL,idx,List.getD_cons_zero,List.getD_cons_succ,Nat.reduceBEq,cond_true,cond_false,Option.map_some,Option.getD_some,Nat.reduceAdd,Nat.beq_eq_true_eq]
  all_goals rfl
 ·exact ⟨by show (t.size:Int)+(1+v11)≤_;omega,by show 0≤1+v11;omega,by show 1+v11≤2;omega,by show a≤a11;omega,by show a11+6 * (1+v11)≤a+14;omega⟩
 ·rintro ⟨tt,n,a2,s2⟩ hok5 Q5 n5 e5 r5
  obtain ⟨hsz,hn0,hn2,ha2,ha3⟩:=hok5
  simp only [] at hsz hn0 hn2 ha2 ha3⊢
  refine v_seq ?_;intros;refine yR [0,1,2,7,19] ⟨?_⟩;refine v_condS _ rfl ?_ ?_
  ·intro hc0
   have hn1:0 < n∧0 < (tt.size:Int):=by first | exact hc0 | (simp at hc0;omega)
   have hw1:∀x,(strOf [x]).size=1:=fun _=>rfl
   refine zn [0,1,2,7] ⟨?_⟩;refine v_seq ?_;intro Q9 n9 e9 r9;refine v_block ?_;intro Q10 n10 x10 e10 r10;refine v_seqR [0,1,2,7,8] ?_;intro K11 k11
   have F:=Fc.mk (ai @ByteArray.size_append (ai @ByteArray.size_extract hw1))
   refine zq2 ⟨?_⟩;refine zLen ⟨?_⟩;refine v_op ?_;intro K k
   simp only [zE,zM,aStepM,optable,set_some,Nat.reduceEqDiff,reduceIte,Nat.reduceLT,implies_true,forall_const,reduceCtorEq,V.ofValue,V.ofScalar,V.un,V.gd,aExec,lentIds,lendOf,‹Tys _›.h,‹Fc _›.h]
   repeat (refine andC ?_)
   refine aCall_lentXA (pick_con code a2 s2 ((tt.size:Int)) hcode hcl (by omega)) ?_
   rintro _ _ ⟨v25,a25,s25,h25,k25,rfl,rfl⟩
   refine ⟨_,_,rfl,by first | exact .inr (List.all_eq_true.1 rfl) | exact .inl ⟨rfl,by simp [Blk.kindIs,fillK_fd,thK_fd]⟩,?_⟩;refine k _ ?_;clear k K
   simp only [zY,zW,set_some,Nat.reduceEqDiff,reduceIte,rho_one,rho_s,rho2_s,rho2_0,rho2_1,V.ren,V.renL,List.set_cons_zero,List.set_cons_succ,rho,Nat.reduceAdd,Nat.add_zero]
   refine zAssign ⟨?_⟩;refine k11 _ ?_;refine zk ⟨?_⟩;refine v_seqR [0,1,2,7,8,9] ?_;intro K12 k12;refine zq2 ⟨?_⟩;refine zMove ⟨?_⟩;refine zLen ⟨?_⟩;refine v_op ?_;intro K k
   simp only [zE,zM,aStepM,optable,set_some,Nat.reduceEqDiff,reduceIte,Nat.reduceLT,implies_true,forall_const,reduceCtorEq,V.ofValue,V.ofScalar,V.un,V.gd,aExec,lentIds,lendOf,‹Tys _›.h,‹Fc _›.h]
   repeat (refine andC ?_)
   refine aCall_lentXA (pick_con code a25 s25 ((wi.size:Int)) hcode hcl (by omega)) ?_
   rintro _ _ ⟨v30,a30,s30,h30,k30,rfl,rfl⟩
   refine ⟨_,_,rfl,by first | exact .inr (List.all_eq_true.1 rfl) | exact .inl ⟨rfl,by simp [Blk.kindIs,fillK_fd,thK_fd]⟩,?_⟩;refine k _ ?_;clear k K
   simp only [zY,zW,set_some,Nat.reduceEqDiff,reduceIte,rho_one,rho_s,rho2_s,rho2_0,rho2_1,V.ren,V.renL,List.set_cons_zero,List.set_cons_succ,rho,Nat.reduceAdd,Nat.add_zero]
   refine zIndex ⟨?_⟩;refine zBuildSlice ⟨?_⟩;refine zConvert ⟨?_⟩;refine zAssign ⟨?_⟩;refine k12 _ ?_;refine zk ⟨?_⟩;refine v_seqR [0,1,2,7,8,9,35] ?_;intro K13 k13;refine zMove ⟨?_⟩;refine v_op ?_;intro K k
   simp only [zE,zM,aStepM,optable,set_some,Nat.reduceEqDiff,reduceIte,Nat.reduceLT,implies_true,forall_const,reduceCtorEq,V.ofValue,V.ofScalar,V.un,V.gd,aExec,lentIds,lendOf,‹Tys _›.h,‹Fc _›.h]
   repeat (refine andC ?_)
   refine aCall_lentXA (pick_con code a30 s30 (3) hcode hcl (by omega)) ?_
   rintro _ _ ⟨v35,a35,s35,h35,k35,rfl,rfl⟩
   refine ⟨_,_,rfl,by first | exact .inr (List.all_eq_true.1 rfl) | exact .inl ⟨rfl,by simp [Blk.kindIs,fillK_fd,thK_fd]⟩,?_⟩;refine k _ ?_;clear k K
   simp only [zY,zW,set_some,Nat.reduceEqDiff,reduceIte,rho_one,rho_s,rho2_s,rho2_0,rho2_1,V.ren,V.renL,List.set_cons_zero,List.set_cons_succ,rho,Nat.reduceAdd,Nat.add_zero]
   refine k13 _ ?_;refine zk ⟨?_⟩;refine v_block ?_;intro Q14 n14 x14 e14 r14;refine yR [0,1,2,7,8,9,35,44] ⟨?_⟩;refine v_condS _ rfl ?_ ?_
   ·intro hc1
    refine v_draw (by kernel_rfl) ?_;intro K17 q17 k17
    show aAny _ _ _ _ 10 (Array.replicate 10 false) _
    refine zdMove q17 true 0 46 ?_;refine zdMove q17 true 1 47 ?_;refine zdSlice q17 true 2 48 ?_;refine zdMove q17 true 3 49 ?_;refine zdBinOpW q17 true 4 50 ?_;refine zdMove q17 true 5 51 ?_;refine zdMove q17 true 6 52 ?_;refine zdSlice q17 true 7 53 ?_;refine zdBinOpW q17 true 8 54 ?_;refine zoAssign 9 ⟨?_⟩;refine aAny_done (by kernel_rfl) ?_;refine k17 _ ?_;refine n14 _ ?_;refine n10 _ ?_;refine n9 _ _ (weak_keep [0,1,2,7] _) ?_;refine zk ⟨?_⟩;refine yV ⟨?_⟩;refine n5 _ ((tt.extract 0 v25.toNat++strOf [byteAt wi v30.toNat]++tt.extract v25.toNat tt.size),n - 1,a35,s35) ?_ ?_ ?_
    ·exact weak_same [0,1,2,7] [0]
    ·exact ⟨by show (((tt.extract 0 v25.toNat++strOf [byteAt wi v30.toNat]++tt.extract v25.toNat tt.size)).size:Int)+(n - 1)≤_;simp only [ByteArray.size_append,ByteArray.size_extract,hw1];omega,by show 0≤n - 1;omega,by show n - 1≤2;omega,by show a≤a35;omega,by show a35+6 * (n - 1)≤a+14;omega⟩
    ·show _ < _;show (n - 1).toNat < n.toNat;omega
   ·intro hc1
    refine yR [0,1,2,7,8,9,55] ⟨?_⟩;refine v_condS _ rfl ?_ ?_
    ·intro hc2
     refine v_draw (by kernel_rfl) ?_;intro K21 q21 k21
     show aAny _ _ _ _ 11 (Array.replicate 11 false) _
     refine zdMove q21 true 0 57 ?_;refine zdMove q21 true 1 58 ?_;refine zdSlice q21 true 2 59 ?_;refine zdMove q21 true 3 60 ?_;refine zdBinOpW q21 true 4 61 ?_;refine zdMove q21 true 5 62 ?_;refine zdMove q21 true 6 63 ?_;refine zdBinOpW q21 true 7 64 ?_;refine zdSlice q21 true 8 65 ?_;refine zdBinOpW q21 true 9 66 ?_;refine zoAssign 10 ⟨?_⟩;refine aAny_done (by kernel_rfl) ?_;refine k21 _ ?_;refine n14 _ ?_;refine n10 _ ?_;refine n9 _ _ (weak_keep [0,1,2,7] _) ?_;refine zk ⟨?_⟩;refine yV ⟨?_⟩;refine n5 _ ((tt.extract 0 v25.toNat++strOf [byteAt wi v30.toNat]++tt.extract (v25+1).toNat tt.size),n - 1,a35,s35) ?_ ?_ ?_
     ·exact weak_same [0,1,2,7] [0]
     ·exact ⟨by show (((tt.extract 0 v25.toNat++strOf [byteAt wi v30.toNat]++tt.extract (v25+1).toNat tt.size)).size:Int)+(n - 1)≤_;simp only [ByteArray.size_append,ByteArray.size_extract,hw1];omega,by show 0≤n - 1;omega,by show n - 1≤2;omega,by show a≤a35;omega,by show a35+6 * (n - 1)≤a+14;omega⟩
     ·show _ < _;show (n - 1).toNat < n.toNat;omega
    ·intro hc2
     refine v_draw (by kernel_rfl) ?_;intro K23 q23 k23
     show aAny _ _ _ _ 9 (Array.replicate 9 false) _
     refine zdMove q23 true 0 36 ?_;refine zdMove q23 true 1 37 ?_;refine zdSlice q23 true 2 38 ?_;refine zdMove q23 true 3 39 ?_;refine zdMove q23 true 4 40 ?_;refine zdBinOpW q23 true 5 41 ?_;refine zdSlice q23 true 6 42 ?_;refine zdBinOpW q23 true 7 43 ?_;refine zoAssign 8 ⟨?_⟩;refine aAny_done (by kernel_rfl) ?_;refine k23 _ ?_;refine n14 _ ?_;refine n10 _ ?_;refine n9 _ _ (weak_keep [0,1,2,7] _) ?_;refine zk ⟨?_⟩;refine yV ⟨?_⟩;refine n5 _ ((tt.extract 0 v25.toNat++tt.extract (v25+1).toNat tt.size),n - 1,a35,s35) ?_ ?_ ?_
     ·exact weak_same [0,1,2,7] [0]
     ·exact ⟨by show (((tt.extract 0 v25.toNat++tt.extract (v25+1).toNat tt.size)).size:Int)+(n - 1)≤_;simp only [ByteArray.size_append,ByteArray.size_extract,hw1];omega,by show 0≤n - 1;omega,by show n - 1≤2;omega,by show a≤a35;omega,by show a35+6 * (n - 1)≤a+14;omega⟩
     ·show _ < _;show (n - 1).toNat < n.toNat;omega
  ·intro hc0
   refine zn [1] ⟨?_⟩;refine yR [6] ⟨?_⟩;refine zr ⟨?_⟩;refine ret_viewX ?_
   exact ⟨_,_,_,by omega,by omega,rfl,rfl⟩
end Go.Proofs.YtcdpeopiajgljaaGreatDoor
