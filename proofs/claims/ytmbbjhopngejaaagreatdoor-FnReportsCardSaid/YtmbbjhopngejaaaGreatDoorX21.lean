/- What functions compute. No condition. -/
import Derived.Test.YtmbbjhopngejaaaGreatDoorX20
set_option linter.unusedSimpArgs false
set_option linter.unusedVariables false
set_option linter.defProp false
namespace Go.Proofs.YtmbbjhopngejaaaGreatDoor
open Go Go.Vm
set_option maxHeartbeats 8000000
theorem c6n (l:List ByteArray) (g:Nat) (caps:List V) (p:ByteArray→Bool) (hl:l.length≤1048576) (hc:Caps caps) (hg:∀x0,x0∈l→Con Tryz.prog g (V.str x0::caps) [] (.bool (p x0)) []):Con Tryz.prog 184 [.sl (l.map V.str),.fn g caps] [] (.int .i64 (b3b p 0 l)) []:=by
 refine zcn [.tmp 4] [] Tryz.func184 Tryz.ntmps184 ⟨?_⟩;intro Q0 n0 r0;have T:=tq4 Ty.t3 Ty.t4 Ty.t9 Ty.t32;have F:=Fc.mk True.intro;refine yR [0,1] ⟨?_⟩;refine b0e ?_;intros;refine yR [0,1,7,8] ⟨?_⟩;refine b0i ?_;intros;refine b08 (fun i=>⟨[(0,.sl (l.map V.str)),(1,.fn g caps),(7,.int .i64 l.length),(8,.int .i64 (Nat.cast i))],[],false,19,0⟩) (fun i=>i≤l.length∧b3b p i (l.drop i)=b3b p 0 l) (fun i=>l.length - i) 0 ?_ ?_ ?_
 ·refine b2a [0,1,7,8] ?_;simp only [b02,b0n,b0l,b0j,b0u,Nat.reduceEqDiff,reduceIte];rfl
 ·exact ⟨qle _,rfl⟩
 ·rintro i hok5 Q5 n5 e5 r5;obtain ⟨hi1,hR⟩:=hok5;refine yR [0,1,7,8,9] ⟨?_⟩;refine b0e ?_;intros;refine b0a _ rfl ?_ ?_
  ·intro hc0;have hlt:i < l.length:=by omega
   obtain ⟨x0,hx⟩:∃x:ByteArray,l[i]? =some x:=⟨l[i]'(by omega),qla (by omega)⟩;have hst:=b50 (p:=p) hx;refine zn [0,1,7,8] ⟨?_⟩;refine b0e ?_;intros;refine b0i ?_;intros;have F:=Fc.mk (gdm hx);refine yR [0,1,5,7,8] ⟨?_⟩;refine b1l [0,1,5,7,8,16] ?_;intro K12 k12;refine zq5 ⟨?_⟩;refine b15 ⟨?_⟩;refine f7z ⟨?_⟩;refine zcc (hg x0 (qlb hx)) ⟨?_⟩;refine k12 _ ?_;refine zk ⟨?_⟩;refine b0a _ rfl ?_ ?_
   ·intro hc1;refine yR [4] ⟨?_⟩;refine zr ⟨?_⟩;exact b0g rfl (by rw [←hR,hst,if_pos hc1]) (.inl rfl)
   ·intro hc1;refine zn [0,1,7,8] ⟨?_⟩;refine yV ⟨?_⟩;refine n5 _ (i+1) ?_ ?_ ?_
    ·refine b8a [0,1,7,8] [] ⟨?_⟩;rfl
    ·exact ⟨by omega,by rw [←hR,hst,if_neg (by simp [hc1])]⟩
    ·show _ < _;omega
  ·intro hc0;refine zn [] ⟨?_⟩;refine yR [4] ⟨?_⟩;refine zr ⟨?_⟩;exact b0g rfl (by rw [←hR,b7h (by omega)]) (.inl rfl)
theorem c4s (l:List ByteArray) (g:Nat) (caps:List V) (p:ByteArray→Bool) (hl:l.length≤1048576) (hc:Caps caps) (hg:∀x0,x0∈l→Con Tryz.prog g (V.str x0::caps) [] (.bool (p x0)) []):Con Tryz.prog 151 [.ref 0,.fn g caps] [.arr (l.map V.str) .thin] (.ref 1) [.dead,.arr ((l.filter (fun x=> !p x)).map V.str) .thin]:=by
 refine zcn [.tmp 4] [] Tryz.func151 Tryz.ntmps151 ⟨?_⟩;intro Q0 n0 r0;have T:=tq4 Ty.t3 Ty.t4 Ty.t9 Ty.t32;have F:=Fc.mk True.intro;refine yR [0,1] ⟨?_⟩;refine b1l [0,1,5] ?_;intro K2 k2;refine zq5 ⟨?_⟩;refine zcc (c6n l g caps p hl hc hg) ⟨?_⟩;refine b2l ⟨?_⟩;refine k2 _ ?_;refine zk ⟨?_⟩;refine b0e ?_;intros;refine yR [0,1,5,12] ⟨?_⟩;refine b0a _ rfl ?_ ?_
 ·intro hc0;have hfil:=d0s hc0;refine b0e ?_;intro Q6 n6 e6 r6;refine yV ⟨?_⟩;apply n6
  ·apply b00 (b0f [4] _);simp only [b02,b0n,b0l,b0j,b0u,Nat.reduceEqDiff,reduceIte];exact d2v 0 4 (l.map V.str) .thin (by simp) rfl (.inr rfl) rfl
  try simp only [b2f,b2q,Nat.reduceEqDiff,reduceIte,List.set_cons_zero,List.set_cons_succ]
  refine zr ⟨?_⟩;rw [hfil];exact d1p rfl (by simp [b44,b6a,c0q,c16]) (by simp) rfl (by simp [b44,b6a,c0q,c16]) (by simp [Blk.kindIs]) rfl
 ·intro hc0;obtain ⟨k0,hk1,hk2,hk3,_⟩:=c1w hc0;rw [Nat.zero_add] at hk2;refine zn [0,1,5] ⟨?_⟩;refine b0e ?_;intros;have F:=Fc.mk hk2;refine yR [0,1,5,6] ⟨?_⟩;refine b0i ?_;intros;refine b08 (fun q=>⟨[(0,.ref 0),(1,.fn g caps),(5,.int .i64 (Nat.cast q.1)),(6,.int .i64 (Nat.cast q.2.1))],[.arr (q.2.2.map V.str) .thin],false,42,0⟩) (fun q=>q.1≤q.2.1∧q.2.1≤l.length∧q.2.2.length=l.length∧q.2.2.take q.1=(l.take q.2.1).filter (fun x=> !p x)∧q.2.2.drop q.2.1=l.drop q.2.1) (fun q=>l.length - q.2.1) ((k0,k0+1,l):Nat×Nat×List ByteArray) ?_ ?_ ?_
  ·refine b8a [0,1,5,6] [0] ⟨?_⟩;rfl
  ·exact ⟨Nat.le_succ _,hk1,rfl,hk3.symm,rfl⟩
  ·rintro ⟨i,j,ys⟩ hok11 Q11 n11 e11 r11;obtain ⟨hi1,hi2,hyl,hR,hD⟩:=hok11;simp only [] at hi1 hi2 hyl hR hD⊢;refine b0e ?_;intros;refine yR [0,1,5,6,19] ⟨?_⟩;refine b0a _ rfl ?_ ?_
   ·intro hc1;have hlt:j < l.length:=by rw [←hyl];simpa using hc1
    obtain ⟨x0,hx⟩:∃x:ByteArray,l[j]? =some x:=⟨l[j]'(by omega),qla (by omega)⟩;have hy:=f64 hx hD;obtain ⟨y0,hyi⟩:∃x:ByteArray,ys[i]? =some x:=⟨ys[i]'(by omega),qla (by omega)⟩;have hsm:(ys.map V.str).set i (.str x0)=(ys.set i x0).map V.str:=by rw [qmn]
    refine zn [0,1,5,6] ⟨?_⟩;refine b0e ?_;intros;refine b0i ?_;intros;have F:=fq3 hk2 (gdm hy) (gdm hyi);refine yR [0,1,5,6,7] ⟨?_⟩;refine b1l [0,1,5,6,7,29] ?_;intro K18 k18;refine zq5 ⟨?_⟩;refine zcc (hg x0 (qlb hx)) ⟨?_⟩;refine f4l ⟨?_⟩;refine k18 _ ?_;refine zk ⟨?_⟩;refine b0a _ rfl ?_ ?_
    ·intro hc2;refine yR [0,1,5,6] ⟨?_⟩;refine yQ [0,1,5,6] ⟨?_⟩;refine yV ⟨?_⟩;refine n11 _ (i+1,j+1,ys.set i x0) ?_ ?_ ?_
     ·refine b8a [0,1,5,6] [0] ⟨?_⟩;rw [hsm];rfl
     ·exact ⟨Nat.succ_le_succ hi1,hlt,by rw [qlp];exact hyl,(d7c hi1 hyl hx hc2 hR hD).1,(d7c hi1 hyl hx hc2 hR hD).2⟩
     ·show _ < _;show l.length - (j+1) < l.length - j;omega
    ·intro hc2;refine zn [0,1,5,6] ⟨?_⟩;refine yV ⟨?_⟩;refine n11 _ (i,j+1,ys) ?_ ?_ ?_
     ·refine b8a [0,1,5,6] [0] ⟨?_⟩;rfl
     ·exact ⟨Nat.le_succ_of_le hi1,hlt,hyl,(d8h hx hc2 hR hD).1,(d8h hx hc2 hR hD).2⟩
     ·show _ < _;show l.length - (j+1) < l.length - j;omega
   ·intro hc1;have hjl:l.length≤j:=by rw [←hyl];simpa using hc1
    have hend:=f7m (by omega) hjl hR;have hil:=hend.1;refine zn [0,5] ⟨?_⟩;refine b1l [0,5] ?_;intro K24 k24;refine zq5 ⟨?_⟩;refine b6g ?_;intro K k;simp only [zE,zL,zN,b0w,b0s,b0k,Nat.reduceEqDiff,reduceIte,Nat.reduceLT,implies_true,forall_const,reduceCtorEq,V.ofValue,V.ofScalar,V.un,V.gd,b07,aop,List.set_cons_zero,List.set_cons_succ,b9p,forall_eq',c0w,c0g,Option.map_none,Option.isNone_none,b1n,Blk.row,TypeDesc.slice.injEq,List.forall_mem_map,List.length_map,Go.Vm.V.cells,Int.toNat_natCast,Int.reduceToNat,←List.map_take,←List.map_drop,List.take_length,Nat.reduceAdd,Nat.reduceLeDiff,Nat.reduceMul,Tryz.underlying9,Ty.c9,Ty.a9,Tryz.underlying32,Ty.c32,Ty.a32,hk2];repeat (refine ai (by first | omega | (intro x hx;simp only [List.mem_append,List.mem_map,List.mem_replicate] at hx;rcases hx with (⟨_,_,rfl⟩ | ⟨_,rfl⟩) | ⟨_,_,rfl⟩<;>rfl) | (simp;omega)) ?_)
    refine k _ ?_;clear k K;refine f6p ⟨?_⟩;refine k24 _ ?_;refine zk ⟨?_⟩;refine b0e ?_;intro Q25 n25 e25 r25;refine b2m ?_;intro K26 k26;refine zq5 ⟨?_⟩;refine b6g ?_;intro K k;simp only [zE,zL,zN,b0w,b0s,b0k,Nat.reduceEqDiff,reduceIte,Nat.reduceLT,implies_true,forall_const,reduceCtorEq,V.ofValue,V.ofScalar,V.un,V.gd,b07,aop,List.set_cons_zero,List.set_cons_succ,b9p,forall_eq',c0w,c0g,Option.map_none,Option.isNone_none,b1n,Blk.row,TypeDesc.slice.injEq,List.forall_mem_map,List.length_map,Go.Vm.V.cells,Int.toNat_natCast,Int.reduceToNat,←List.map_take,←List.map_drop,List.take_length,Nat.reduceAdd,Nat.reduceLeDiff,Nat.reduceMul,Tryz.underlying9,Ty.c9,Ty.a9,Tryz.underlying32,Ty.c32,Ty.a32,hk2];repeat (refine ai (by first | omega | (intro x hx;simp only [List.mem_append,List.mem_map,List.mem_replicate] at hx;rcases hx with (⟨_,_,rfl⟩ | ⟨_,rfl⟩) | ⟨_,_,rfl⟩<;>rfl) | (simp;omega)) ?_)
    refine k _ ?_;clear k K;refine b2l ⟨?_⟩;refine k26 _ ?_;apply n25
    ·apply b00 (b0f [4] _);simp only [b02,b0n,b0l,b0j,b0u,Nat.reduceEqDiff,reduceIte];exact c8r 0 _ 4 _ .thin (by simp) rfl (.inr rfl) rfl
    try simp only [b2f,b2q,Nat.reduceEqDiff,reduceIte,List.set_cons_zero,List.set_cons_succ]
    refine zr ⟨?_⟩;exact d1p rfl (by simp [b44,b6a,c0q,c16]) (by simp) rfl (by simp [b44,b6a,c0q,c16,hend.2,←hend.1]) (by simp [Blk.kindIs]) rfl
theorem d2j (x:Int):Con Tryz.prog 150 [.int .i64 x] [] (.ref 0) [.arr ((b8u x).map (V.int .i64)) .flat]:=by
 refine zcn [.tmp 2] [] Tryz.func150 Tryz.ntmps150 ⟨?_⟩;intro Q0 n0 r0;have T:=tq2 Ty.t3 Ty.t35;have F:=Fc.mk True.intro;refine yR [0] ⟨?_⟩;refine b0e ?_;intros;refine yR [3] ⟨?_⟩;refine b0i ?_;intros;refine yR [3,4] ⟨?_⟩;refine b0a _ rfl ?_ ?_
 ·intro hc0;refine yR [2] ⟨?_⟩;refine zr ⟨?_⟩;rw [show b8u x=[1,5] from by simp [b8u,hc0]];exact b6i rfl (.inl rfl)
 ·intro hc0;refine yR [3,7] ⟨?_⟩;refine b0a _ rfl ?_ ?_
  ·intro hc1;refine yR [2] ⟨?_⟩;refine zr ⟨?_⟩;rw [show b8u x=[2,0] from by simp [b8u,hc0,hc1]];exact b6i rfl (.inl rfl)
  ·intro hc1;refine yR [3,10] ⟨?_⟩;refine b0a _ rfl ?_ ?_
   ·intro hc2;refine yR [2] ⟨?_⟩;refine zr ⟨?_⟩;rw [show b8u x=[3,4] from by simp [b8u,hc0,hc1,hc2]];exact b6i rfl (.inl rfl)
   ·intro hc2;refine yR [3,13] ⟨?_⟩;refine b0a _ rfl ?_ ?_
    ·intro hc3;refine yR [2] ⟨?_⟩;refine zr ⟨?_⟩;rw [show b8u x=[4] from by simp [b8u,hc0,hc1,hc2,hc3]];exact b6i rfl (.inl rfl)
    ·intro hc3;refine yR [16] ⟨?_⟩;refine b0a _ rfl ?_ ?_
     ·intro hc4;refine yR [2] ⟨?_⟩;refine zr ⟨?_⟩;rw [show b8u x=[0,1,5] from by simp [b8u,hc0,hc1,hc2,hc3,hc4]];exact b6i rfl (.inl rfl)
     ·intro hc4;refine zn [] ⟨?_⟩;refine yR [2] ⟨?_⟩;refine zr ⟨?_⟩;rw [show b8u x=[0] from by simp [b8u,hc0,hc1,hc2,hc3,hc4]];exact b6i rfl (.inl rfl)
theorem d0d (x:Int):Con Tryz.prog 52 [.int .i64 x] [] (.ref 0) [.arr ((b7o x).map (V.int .i64)) .flat]:=by
 refine zcn [.tmp 2] [] Tryz.func52 Tryz.ntmps52 ⟨?_⟩;intro Q0 n0 r0;have T:=tq2 Ty.t3 Ty.t35;have F:=Fc.mk True.intro;refine yR [0] ⟨?_⟩;refine b0e ?_;intros;refine yR [3] ⟨?_⟩;refine b0i ?_;intros;refine yR [3,4] ⟨?_⟩;refine b0a _ rfl ?_ ?_
 ·intro hc0;refine yR [2] ⟨?_⟩;refine zr ⟨?_⟩;rw [show b7o x=[1,5] from by simp [b7o,hc0]];exact b6i rfl (.inl rfl)
 ·intro hc0;refine yR [3,7] ⟨?_⟩;refine b0a _ rfl ?_ ?_
  ·intro hc1;refine yR [2] ⟨?_⟩;refine zr ⟨?_⟩;rw [show b7o x=[0,2] from by simp [b7o,hc0,hc1]];exact b6i rfl (.inl rfl)
  ·intro hc1;refine yR [3,10] ⟨?_⟩;refine b0a _ rfl ?_ ?_
   ·intro hc2;refine yR [2] ⟨?_⟩;refine zr ⟨?_⟩;rw [show b7o x=[3,4] from by simp [b7o,hc0,hc1,hc2]];exact b6i rfl (.inl rfl)
   ·intro hc2;refine yR [3,13] ⟨?_⟩;refine b0a _ rfl ?_ ?_
    ·intro hc3;refine yR [2] ⟨?_⟩;refine zr ⟨?_⟩;rw [show b7o x=[4] from by simp [b7o,hc0,hc1,hc2,hc3]];exact b6i rfl (.inl rfl)
    ·intro hc3;refine yR [16] ⟨?_⟩;refine b0a _ rfl ?_ ?_
     ·intro hc4;refine yR [2] ⟨?_⟩;refine zr ⟨?_⟩;rw [show b7o x=[0,1,5] from by simp [b7o,hc0,hc1,hc2,hc3,hc4]];exact b6i rfl (.inl rfl)
     ·intro hc4;refine zn [] ⟨?_⟩;refine yR [2] ⟨?_⟩;refine zr ⟨?_⟩;rw [show b7o x=[0] from by simp [b7o,hc0,hc1,hc2,hc3,hc4]];exact b6i rfl (.inl rfl)
theorem f2q (a b:Int):Con Tryz.prog 156 [.int .i64 a,.int .i64 b] [] (.bool (decide (b∈b8u a))) []:=by
 refine zcn [.tmp 4] [] Tryz.func156 Tryz.ntmps156 ⟨?_⟩;intro Q0 n0 r0;have T:=tq3 Ty.t3 Ty.t4 Ty.t35;have F:=Fc.mk True.intro;refine yR [0,1] ⟨?_⟩;refine f86 [4] (d0d a) (d4t (b7o a) b (by have:=d7s a;omega)) ⟨?_⟩;refine zr ⟨?_⟩;exact b0g rfl (by rw [decide_eq_decide.2 (f47 a b)]) (.inl rfl)
set_option maxRecDepth 8000 in
theorem c9w (fl:List TA) (s:ByteArray) (t:Int) (hl:fl.length≤1048576) (hls:∀t∈fl,t.1.size≤9223372036854775807) (hF:b4x fl=true):Con Tryz.prog 104 [sQ rQa fl,.str s,.int .i64 t] [] (.tup [.ref 0,.bool (c4i fl s t)]) [aQ rQa (b3j (c4i fl s t) (d7k fl s t))]:=by
 refine zcn [.tmp 6,.tmp 7] [] Tryz.func104 Tryz.ntmps104 ⟨?_⟩;intro Q0 n0 r0;have T:=tq6 Ty.t3 Ty.t4 Ty.t9 Ty.t27 Ty.t35 Ty.t53;have F:=Fc.mk True.intro;rcases d3o fl s t with ⟨ha1,hA⟩ | ⟨k,⟨a0,a1,a2,a3,a4⟩,ha1,ha2,hq,hA⟩ | ⟨k,⟨a0,a1,a2,a3,a4⟩,ha1,ha2,hq,hA⟩
 ·skip;have hnk:decide ((-1:Int) < 0)=true:=rfl;have F:=fq3 hF ha1 hnk;refine yR [0,1,2] ⟨?_⟩;refine yRc [0,2,8] (b3y fl s hl) ⟨?_⟩;refine b0e ?_;intros;refine b1l [0,2,8,35] ?_;intro K4 k4;refine b15 ⟨?_⟩;refine zc (b5u fl hl hls) ⟨?_⟩;refine f70 ⟨?_⟩;refine zgc (c0f t) ⟨?_⟩;refine f7u ⟨?_⟩;refine zPs ⟨?_⟩;refine b82 ⟨?_⟩;refine zPs ⟨?_⟩;refine f5t ⟨?_⟩;refine k4 _ ?_;refine zk ⟨?_⟩;refine b18 _ rfl ?_ ?_
  ·intro hc0;try simp only [zC,reduceCtorEq] at hc0
   have hB:(c4i fl s t)=false:=by
    first
    |exact hA
    |(rw [hA];simpa using hc0)
   refine yR [6,7] ⟨?_⟩;refine zr ⟨?_⟩;simp only [aQ,fQ,hB,b2s,List.map_nil];exact b47 rfl rfl rfl (.inl rfl)
  ·intro hc0;exfalso;simp at hc0
 ·skip;have hkl:k < fl.length:=(qlc.1 ha2).1;have hnk:decide ((k:Int) < (0:Int))=false:=decide_eq_false (by omega);have F:=fq4 hF ha1 hnk hq;refine yR [0,1,2] ⟨?_⟩;refine yRc [0,2,8] (b3y fl s hl) ⟨?_⟩;refine b0e ?_;intros;refine b1l [0,2,8,35] ?_;intro K10 k10;refine b15 ⟨?_⟩;refine zc (b5u fl hl hls) ⟨?_⟩;refine f70 ⟨?_⟩;refine zgc (c0f t) ⟨?_⟩;refine f7u ⟨?_⟩;refine zPs ⟨?_⟩;refine b82 ⟨?_⟩;refine zPs ⟨?_⟩;refine f5t ⟨?_⟩;refine k10 _ ?_;refine zk ⟨?_⟩;refine b18 _ rfl ?_ ?_
  ·intro hc0;try simp only [zC,reduceCtorEq] at hc0
   have hB:(c4i fl s t)=false:=by
    first
    |exact hA
    |(rw [hA];simpa using hc0)
   refine yR [6,7] ⟨?_⟩;refine zr ⟨?_⟩;simp only [aQ,fQ,hB,b2s,List.map_nil];exact b47 rfl rfl rfl (.inl rfl)
  ·intro hc0;exfalso;simp at hc0
 ·skip;have hkl:k < fl.length:=(qlc.1 ha2).1;have hnk:decide ((k:Int) < (0:Int))=false:=decide_eq_false (by omega);simp only [] at hA;have hcf:=d2d (t:=t) ha1 ha2;simp only [] at hcf;have hsm:(fl.map rQa).set k (V.agg [V.str a0,V.int .i64 a1,V.int .i64 a2,V.int .i64 a3,V.int .i64 t])=(fl.set k (a0,a1,a2,a3,t)).map rQa:=by have q:=qmn (f:=rQa) (l:=fl) (i:=k) (a:=(a0,a1,a2,a3,t));exact q.symm
  have F:=fq7 hF ha1 hnk hq @qli (gdm ha2) hsm;refine yR [0,1,2] ⟨?_⟩;refine yRc [0,2,8] (b3y fl s hl) ⟨?_⟩;refine b0e ?_;intros;refine b1l [0,2,8,35] ?_;intro K16 k16;refine b15 ⟨?_⟩;refine zc (b5u fl hl hls) ⟨?_⟩;refine f70 ⟨?_⟩;refine zgc (c0f t) ⟨?_⟩;refine f7u ⟨?_⟩;refine ztc (d2j a4) ⟨?_⟩;refine b82 ⟨?_⟩;refine ztc (c9o (b8u a4) t (by have:=d7s a4;omega)) ⟨?_⟩;refine f5t ⟨?_⟩;refine k16 _ ?_;refine zk ⟨?_⟩;refine b0a _ rfl ?_ ?_
  ·intro hc0;have hB:(c4i fl s t)=false:=by
    first
    |exact hA
    |(rw [hA];simpa using hc0)
   refine yR [6,7] ⟨?_⟩;refine zr ⟨?_⟩;simp only [aQ,fQ,hB,b2s,List.map_nil];exact b47 rfl rfl rfl (.inl rfl)
  ·intro hc0;have hB:(c4i fl s t)=true:=by
    rw [hA];simpa using hc0
   refine zn [0,2,8] ⟨?_⟩;refine yRc [2,8,9] (b42 fl hl) ⟨?_⟩;refine yR [9] ⟨?_⟩;refine yR [6,7] ⟨?_⟩;refine zr ⟨?_⟩;simp only [hB,b2r,hcf];exact b47 rfl rfl rfl (.inl rfl)
set_option maxRecDepth 8000 in
theorem c9e (fl:List TA) (s:ByteArray) (t:Int) (hl:fl.length≤1048576) (hls:∀t∈fl,t.1.size≤9223372036854775807) (hF:b4x fl=true):Con Tryz.prog 116 [sQ rQa fl,.str s,.int .i64 t] [] (.tup [.ref 0,.bool (c4i fl s t)]) [aQ rQa (b3j (c4i fl s t) (d7k fl s t))]:=by
 refine zcn [.tmp 6,.tmp 7] [] Tryz.func116 Tryz.ntmps116 ⟨?_⟩;intro Q0 n0 r0;have T:=tq5 Ty.t3 Ty.t4 Ty.t9 Ty.t27 Ty.t53;have F:=Fc.mk True.intro;rcases d3o fl s t with ⟨ha1,hA⟩ | ⟨k,⟨a0,a1,a2,a3,a4⟩,ha1,ha2,hq,hA⟩ | ⟨k,⟨a0,a1,a2,a3,a4⟩,ha1,ha2,hq,hA⟩
 ·skip;have hnk:decide ((-1:Int) < 0)=true:=rfl;have F:=fq3 hF ha1 hnk;refine yR [0,1,2] ⟨?_⟩;refine yRc [0,2,8] (b5e fl s hl) ⟨?_⟩;refine b0e ?_;intros;refine b1l [0,2,8,34] ?_;intro K4 k4;refine b15 ⟨?_⟩;refine zc (b8p fl hl hls) ⟨?_⟩;refine f70 ⟨?_⟩;refine zgc (b8q t) ⟨?_⟩;refine f7u ⟨?_⟩;refine b82 ⟨?_⟩;refine zPs ⟨?_⟩;refine f5t ⟨?_⟩;refine k4 _ ?_;refine zk ⟨?_⟩;refine b18 _ rfl ?_ ?_
  ·intro hc0;try simp only [zC,reduceCtorEq] at hc0
   have hB:(c4i fl s t)=false:=by
    first
    |exact hA
    |(rw [hA];simpa using hc0)
   refine yR [6,7] ⟨?_⟩;refine zr ⟨?_⟩;simp only [aQ,fQ,hB,b2s,List.map_nil];exact b47 rfl rfl rfl (.inl rfl)
  ·intro hc0;exfalso;simp at hc0
 ·skip;have hkl:k < fl.length:=(qlc.1 ha2).1;have hnk:decide ((k:Int) < (0:Int))=false:=decide_eq_false (by omega);have F:=fq4 hF ha1 hnk hq;refine yR [0,1,2] ⟨?_⟩;refine yRc [0,2,8] (b5e fl s hl) ⟨?_⟩;refine b0e ?_;intros;refine b1l [0,2,8,34] ?_;intro K10 k10;refine b15 ⟨?_⟩;refine zc (b8p fl hl hls) ⟨?_⟩;refine f70 ⟨?_⟩;refine zgc (b8q t) ⟨?_⟩;refine f7u ⟨?_⟩;refine b82 ⟨?_⟩;refine zPs ⟨?_⟩;refine f5t ⟨?_⟩;refine k10 _ ?_;refine zk ⟨?_⟩;refine b18 _ rfl ?_ ?_
  ·intro hc0;try simp only [zC,reduceCtorEq] at hc0
   have hB:(c4i fl s t)=false:=by
    first
    |exact hA
    |(rw [hA];simpa using hc0)
   refine yR [6,7] ⟨?_⟩;refine zr ⟨?_⟩;simp only [aQ,fQ,hB,b2s,List.map_nil];exact b47 rfl rfl rfl (.inl rfl)
  ·intro hc0;exfalso;simp at hc0
 ·skip;have hkl:k < fl.length:=(qlc.1 ha2).1;have hnk:decide ((k:Int) < (0:Int))=false:=decide_eq_false (by omega);simp only [] at hA;have hcf:=d2d (t:=t) ha1 ha2;simp only [] at hcf;have hsm:(fl.map rQa).set k (V.agg [V.str a0,V.int .i64 a1,V.int .i64 a2,V.int .i64 a3,V.int .i64 t])=(fl.set k (a0,a1,a2,a3,t)).map rQa:=by have q:=qmn (f:=rQa) (l:=fl) (i:=k) (a:=(a0,a1,a2,a3,t));exact q.symm
  have F:=fq7 hF ha1 hnk hq @qli (gdm ha2) hsm;refine yR [0,1,2] ⟨?_⟩;refine yRc [0,2,8] (b5e fl s hl) ⟨?_⟩;refine b0e ?_;intros;refine b1l [0,2,8,34] ?_;intro K16 k16;refine b15 ⟨?_⟩;refine zc (b8p fl hl hls) ⟨?_⟩;refine f70 ⟨?_⟩;refine zgc (b8q t) ⟨?_⟩;refine f7u ⟨?_⟩;refine b82 ⟨?_⟩;refine ztc (f2q a4 t) ⟨?_⟩;refine f5t ⟨?_⟩;refine k16 _ ?_;refine zk ⟨?_⟩;refine b0a _ rfl ?_ ?_
  ·intro hc0;have hB:(c4i fl s t)=false:=by
    first
    |exact hA
    |(rw [hA];simpa using hc0)
   refine yR [6,7] ⟨?_⟩;refine zr ⟨?_⟩;simp only [aQ,fQ,hB,b2s,List.map_nil];exact b47 rfl rfl rfl (.inl rfl)
  ·intro hc0;have hB:(c4i fl s t)=true:=by
    rw [hA];simpa using hc0
   refine zn [0,2,8] ⟨?_⟩;refine yR [0,2,8,9] ⟨?_⟩;refine yR [0,8,9] ⟨?_⟩;refine yRc [6,7] (c4x fl k a0 a1 a2 a3 t hl hkl) ⟨?_⟩;refine zr ⟨?_⟩;simp only [hB,b2r,hcf];exact b47 rfl rfl rfl (.inl rfl)
theorem d5x (a s:ByteArray):Con Tryz.prog 152 [.str a,.pv [.str s] 0 0] [] (.bool (decide (a=s))) []:=by
 refine zcn [.tmp 3] [] Tryz.func152 Tryz.ntmps152 ⟨?_⟩;intro Q0 n0 r0;have T:=Tys.mk Ty.t9;have F:=Fc.mk True.intro;refine yR [0,1] ⟨?_⟩;refine yR [3] ⟨?_⟩;refine zr ⟨?_⟩;exact b0g rfl (by first | rfl | simp) (.inl rfl)
set_option maxRecDepth 8000 in
theorem f0o (l:List TI) (i:Nat) (s:ByteArray) (x0:Int) (x1:Int) (x2:Bool) (x3:List ByteArray) (hx:l[i]? =some (x0,x1,x2,x3)) (hne:x3≠[]) (hnl:x3.length≤1048576):Con Tryz.prog 105 [.ptr 0 i 0,.str s] [.arr (l.map rQb) .deep] (.tup []) [.arr ((l.set i (x0,x1,x2,(x3.filter fun y=> !decide (y=s)))).map rQb) .deep]:=by
 have hil:=(qlc.1 hx).1;have hix:(l.map rQb)[i]? =some (V.agg ([V.int .i64 x0,V.int .i64 x1,V.bool x2]++[V.sl (x3.map V.str)])):=by rw [List.getElem?_map,hx];rfl
 have hg:((l.map rQb).set i (V.agg [V.int .i64 x0,V.int .i64 x1,V.bool x2,V.ref 1])).getD i .any=V.agg [V.int .i64 x0,V.int .i64 x1,V.bool x2,V.ref 1]:=by rw [qlm,qlo (by rw [qmj];exact hil)];rfl
 have hfin:(l.map rQb).set i (V.agg [V.int .i64 x0,V.int .i64 x1,V.bool x2,V.sl ((x3.filter fun y=> !decide (y=s)).map V.str)])=(l.set i (x0,x1,x2,(x3.filter fun y=> !decide (y=s)))).map rQb:=by have q:=qmn (f:=rQb) (l:=l) (i:=i) (a:=(x0,x1,x2,(x3.filter fun y=> !decide (y=s))));exact q.symm
 refine f8b [] [(151,[0])] Tryz.func105 rfl rfl rfl (by simp [Tryz.ntmps105]) _ (b00 (f25 0 i _ [V.int .i64 x0,V.int .i64 x1,V.bool x2] (x3.map V.str) .deep .flat rfl (.inl rfl) hix (by simpa using hne) (.inr ⟨rfl,by rw [List.all_map,qlf];intro a _;rfl⟩) rfl) (f31 1 _ rfl)) ?_;intro Q0 n0 r0;simp only [aQ,fQ,Tryz.ntmps105,b59,Nat.reduceAdd,List.set_cons_zero,List.set_cons_succ,List.cons_append,List.nil_append,List.length_cons,List.length_nil];have T:=tq5 Ty.t3 Ty.t4 Ty.t9 Ty.t32 Ty.t55;have F:=Fc.mk True.intro;have F:=fq3 hg @List.set_set.{0} @qlp.{0};refine yR [0,3] ⟨?_⟩;refine yVl (c4s x3 _ _ (fun y=>decide (y=s)) hnl (.pv _ .nil) (fun y0 _=>d5x y0 s)) ⟨?_⟩;refine n0 _ _ (f66 0 _ _ _ rfl (.inl ⟨rfl,rfl⟩) (by rw [hfin,List.all_map,qlf];intro a _;rfl)) ?_;try simp only [aQ,fQ,List.set_cons_zero,List.set_cons_succ,List.cons_append,List.nil_append,List.length_cons,List.length_nil,Nat.reduceAdd]
 refine zf ⟨?_⟩;rw [hfin];exact d1p rfl (by simp [b44,b6a,c0q,c16]) (by simp) rfl (by simp [b44,b6a,c0q,c16]) (by simp [Blk.kindIs]) rfl
theorem d35 {n:Int} {ss:List TS} {fl:List TA} {ins:List TI} {ws:List TW} (h:b2o n ss fl ins ws=true):b4x fl=true:=by
  simp only [b2o,c9f,dsB,Bool.and_eq_true] at h;exact h.1.1.1.1.1.1.2
theorem f1f {l:List ByteArray} {s:ByteArray} {j:Nat} {y:ByteArray} (h:l[j]? =some y):(l.take (j+1)).filter (fun z=> !decide (z=s))=if y=s then (l.take j).filter (fun z=> !decide (z=s)) else (l.take j).filter (fun z=> !decide (z=s))++[y]:=by
  rw [ql2,h,Option.toList_some,List.filter_append]
  by_cases q:y=s<;>simp [q]
set_option maxRecDepth 8000 in
theorem d9a (l:List TI) (k:Nat) (s:ByteArray) (x0:Int) (x1:Int) (x2:Bool) (x3:List ByteArray) (hl:l.length≤1048576) (hli:∀x∈l,x.2.2.2.length≤1048576) (hk:l[k]? =some (x0,x1,x2,x3)):Con Tryz.prog 117 [sQ rQb l,.int .i64 (Nat.cast k),.str s] [] (.ref 0) [.arr ((l.set k (x0,x1,x2,(x3.filter fun y=> !decide (y=s)))).map rQb) .deep]:=by
 have hkl:=(qlc.1 hk).1;have hnl:=hli _ (qlb hk);simp only [] at hnl;have hfin:(l.map rQb).set k (V.agg [V.int .i64 x0,V.int .i64 x1,V.bool x2,V.sl ((x3.filter fun y=> !decide (y=s)).map V.str)])=(l.set k (x0,x1,x2,(x3.filter fun y=> !decide (y=s)))).map rQb:=by have q:=qmn (f:=rQb) (l:=l) (i:=k) (a:=(x0,x1,x2,(x3.filter fun y=> !decide (y=s))));exact q.symm
 refine zcn [.tmp 6] [] Tryz.func117 Tryz.ntmps117 ⟨?_⟩;intro Q0 n0 r0;have T:=tq6 Ty.t3 Ty.t4 Ty.t9 Ty.t28 Ty.t32 Ty.t55;have F:=Fc.mk True.intro;have F:=fq2 @qli (gdm hk);refine yR [0,1,2] ⟨?_⟩;refine b0e ?_;intro Q2 n2 e2 r2;refine yVc (b3v l hl hli) ⟨?_⟩;apply n2
 ·apply b00 (b0f [0,1,2,7] _);simp only [b02,b0n,b0l,b0j,b0u,Nat.reduceEqDiff,reduceIte];exact b00 (d13 1 l.length _ rfl) c33
 try simp only [b2f,b2q,Nat.reduceEqDiff,reduceIte,List.set_cons_zero,List.set_cons_succ]
 refine yR [0,1,2,7,8] ⟨?_⟩;refine yR [0,1,2,7,8] ⟨?_⟩;refine b0e ?_;intros;refine yR [1,2,7,8,22,23,24] ⟨?_⟩;refine b0i ?_;intros;refine b08 (fun j=>⟨[(1,.int .i64 (Nat.cast k)),(2,.str s),(7,.ref 0),(8,.ptr 1 0 0),(22,.sl (x3.map V.str)),(23,.int .i64 x3.length),(24,.int .i64 (Nat.cast j))],[.arr (l.map rQb) .deep,.box (.agg [.int .i64 x0,.int .i64 x1,.bool x2,.ref 2]) .mix,.arr (((x3.take j).filter fun z=> !decide (z=s)).map V.str) .flat],true,43,0⟩) (fun j=>j≤x3.length) (fun j=>x3.length - j) 0 ?_ ?_ ?_
 ·refine b1o [1,2,7,8,22,23,24] [1,3,4] ⟨?_⟩;rfl
 ·exact qle _
 ·rintro j hok9 Q9 n9 e9 r9;have hj1:j≤x3.length:=hok9;refine yR [1,2,7,8,22,23,24,25] ⟨?_⟩;refine b0e ?_;intros;refine b0a _ rfl ?_ ?_
  ·intro hc0;have hlt:j < x3.length:=by omega
   obtain ⟨y,hy⟩:∃y,x3[j]? =some y:=⟨_,qla hlt⟩;have hst:=f1f (s:=s) hy;have hfl:((x3.take j).filter fun z=> !decide (z=s)).length≤1048576:=ql6 (List.length_filter_le ..) (by rw [qlr];omega);refine zn [1,2,7,8,22,23,24] ⟨?_⟩;refine b0e ?_;intros;refine b0i ?_;intros;have F:=fq3 @qli (gdm hk) (gdm hy);refine yR [1,2,7,8,10,22,23,24] ⟨?_⟩;refine yR [1,2,7,8,10,22,23,24,30] ⟨?_⟩;refine b0a _ rfl ?_ ?_
   ·intro hc1;have hst2:((x3.take j).filter fun z=> !decide (z=s)).map V.str++[V.str y]=((x3.take (j+1)).filter fun z=> !decide (z=s)).map V.str:=by rw [hst,if_neg (by simpa using hc1)];simp only [aQ,fQ,List.map_append];try rfl
    refine yQ [1,2,7,8,22,23,24] ⟨?_⟩;refine yV ⟨?_⟩;refine n9 _ (j+1) ?_ ?_ ?_
    ·refine b1o [1,2,7,8,22,23,24] [0,1,4] ⟨?_⟩;rw [←hst2];rfl
    ·exact hlt
    ·show _ < _;omega
   ·intro hc1;have hst2:((x3.take j).filter fun z=> !decide (z=s))=((x3.take (j+1)).filter fun z=> !decide (z=s)):=by rw [hst,if_pos (by simpa using hc1)]
    refine zn [1,2,7,8,22,23,24] ⟨?_⟩;refine yV ⟨?_⟩;refine n9 _ (j+1) ?_ ?_ ?_
    ·refine b1o [1,2,7,8,22,23,24] [0,1,2] ⟨?_⟩;rw [←hst2];rfl
    ·exact hlt
    ·show _ < _;omega
  ·intro hc0;have hje:x3.take j=x3:=qlx (by omega);rw [hje];refine zn [1,7,8] ⟨?_⟩;have F:=fq3 @qli (gdm hk) hfin;refine yR [7] ⟨?_⟩;refine yR [6] ⟨?_⟩;refine zr ⟨?_⟩;exact rta
set_option maxRecDepth 100000 in
theorem c1g (n:Int) (ss:List TS) (fl:List TA) (ins:List TI) (ws:List TW) (s:ByteArray) (t:Int) (hl:fl.length≤1048576) (hil:ins.length≤1048576) (hin:∀x∈ins,x.2.2.2.length≤1048576) (hwl:ws.length≤1048576) (hwn:∀x∈ws,x.2.length≤1048576) (hls:∀t∈fl,t.1.size≤9223372036854775807) (hB:(b2o n ss fl ins ws)=true):Con Tryz.prog 43 [.pv [kQ fl ins ws] 0 0,.str s,.int .i64 t] [] (.tup [.agg [.ref 0,.ref 1,.ref 2],.bool (c18 fl s t)]) [aQ rQa (b3j (c18 fl s t) (d7k fl s t)),fQ rQb (b3j (c18 fl s t) (c9m ins s t)),fQ rQc (b3j (c18 fl s t) ws)]:=by
 have hF:=d35 hB;refine zcn [.cell 6 31,.tmp 7] [(105,[0])] Tryz.func43 Tryz.ntmps43 ⟨?_⟩;intro Q0 n0 r0;have T:=Tys.mk (ai Ty.t3 (ai Ty.t4 (ai Ty.t9 (ai Ty.t27 (ai Ty.t28 (ai Ty.t29 (ai Ty.t31 (ai Ty.t32 (ai Ty.t35 (ai Ty.t53 (ai Ty.t55 (ai Ty.t79 Ty.t91))))))))))));have F:=Fc.mk True.intro;refine yR [0,1,2,6] ⟨?_⟩;refine yRc [0,1,2,6,8,9] (c9w fl s t hl hls hF) ⟨?_⟩;refine b0e ?_;intros;refine yR [0,1,2,6,8,27] ⟨?_⟩;refine b0a _ rfl ?_ ?_
 ·intro hc0;have hA:(c18 fl s t)=false:=by
   rw [c18]
   by_cases q:t=1<;>cases q2:c4i fl s t<;>simp [q,q2] at hc0⊢
  refine yR [6,7] ⟨?_⟩;refine zq1 ⟨?_⟩;simp only [aQ,fQ,hA,b2s,List.map_nil,List.length_nil,b41];exact rta
 ·intro hc0;have hA:(c18 fl s t)=true:=by
   rw [c18]
   by_cases q:t=1<;>cases q2:c4i fl s t<;>simp [q,q2] at hc0⊢
  have hch:c4i fl s t=true:=by rw [c18,qld] at hA;exact hA.1
  simp only [hch,b2r];refine zn [0,1,2,6,8] ⟨?_⟩;refine yRc [0,1,2,6,8,10] (b8f fl ins ws hl hil hin hwl hwn) ⟨?_⟩;refine yR [0,1,2,6,10] ⟨?_⟩;refine yRc [1,2,6,10,11] (b37 ins s hil hin) ⟨?_⟩;refine b0e ?_;intro Q10 n10 e10 r10;refine b0e ?_;intro Q11 n11 e11 r11;refine yVg (c4t .empty 0 0 0 t) ⟨?_⟩;apply n11
  ·apply b00 (b0f [1,6,10,11,46] _);simp only [b02,b0n,b0l,b0j,b0u,Nat.reduceEqDiff,reduceIte];exact d13 6 ins.length _ rfl
  try simp only [b2f,b2q,Nat.reduceEqDiff,reduceIte,List.set_cons_zero,List.set_cons_succ]
  refine b0a _ rfl ?_ ?_
  ·intro hc1;have hcm:0≤b4v ins s∧¬(1≤t∧t≤3):=by
    have h:=hc1
    by_cases q:0≤b4v ins s<;>by_cases q2:1≤t<;>by_cases q3:t≤3<;>simp [b7u,q,q2,q3] at h⊢<;>(first | done | omega)
   obtain ⟨m,⟨x0,x1,x2,x3⟩,hm1,hm2,hm3⟩:=b64 hcm.1;simp only [] at hm2;have hml:=(qlc.1 hm1).1;have hnl:=hin _ (qlb hm1);simp only [] at hnl;have hRI:=d6v hcm.2 hm3 hm1;simp only [] at hRI;refine b2m ?_;intro K14 k14;have F:=fq3 hm3 @qli (gdm hm1);refine f0s ⟨?_⟩;refine b15 ⟨?_⟩;refine b78 ⟨?_⟩;refine b15 ⟨?_⟩;refine b6g ?_;intro K k;simp only [zE,zM,b0w,b0s,b0k,Nat.reduceEqDiff,reduceIte,Nat.reduceLT,implies_true,forall_const,reduceCtorEq,V.ofValue,V.ofScalar,V.un,V.gd,b07,b4i,b43,Tryz.underlying3,Ty.c3,Ty.a3,Ty.b3,Ty.s3,Tryz.underlying4,Ty.c4,Ty.a4,Ty.b4,Ty.s4,Tryz.underlying9,Ty.c9,Ty.a9,Ty.b9,Ty.s9,Tryz.underlying32,Ty.c32,Ty.a32,Ty.b32,Ty.s32,Tryz.underlying55,Ty.c55,Ty.a55,Ty.b55,Ty.s55];repeat (refine ai (by first | rfl | (intros;simp_all;done)) ?_)
   refine c4m _ (f0o ins m s x0 x1 x2 x3 hm1 (f77 hm2) hnl) (d52 rfl rfl) rfl ⟨by simp [Blk.kindIs,b05,b1s],by simp⟩ (by first | exact .inl rfl | exact .inr (by simp [Blk.kindIs])) ⟨rfl,by simp [Blk.kindIs,b5d,c0h]⟩ ?_;refine k _ ?_;clear k K;simp only [zY,zW,b0k,Nat.reduceEqDiff,reduceIte,c4p,d82,V.ren,V.renL,List.set_cons_zero,List.set_cons_succ,Nat.reduceAdd];refine k14 _ ?_;refine n10 _ _ (b0f [6,10] _) ?_;refine zk ⟨?_⟩;refine b0e ?_;intro Q15 n15 e15 r15;refine yV ⟨?_⟩;apply n15
   ·apply b00 (b0f [6,7] _);simp only [b02,b0n,b0l,b0j,b0u,Nat.reduceEqDiff,reduceIte];exact d5k 6 _ (ins.set m (x0,x1,x2,x3.filter fun y=> !decide (y=s))).length rfl (qmj _)
   try simp only [b2f,b2q,Nat.reduceEqDiff,reduceIte,List.set_cons_zero,List.set_cons_succ]
   refine zq1 ⟨?_⟩;simp only [hA,b2r];rw [hRI];exact rta
  ·intro hc1;have hno:¬(0≤b4v ins s∧¬(1≤t∧t≤3)):=by
    intro hcm;have h:=hc1
    by_cases q:0≤b4v ins s<;>by_cases q2:1≤t<;>by_cases q3:t≤3<;>simp [b7u,q,q2,q3] at h hcm<;>(first | done | omega)
   have hRI:=d54 hno;refine zn [6,10] ⟨?_⟩;refine b0e ?_;intro Q17 n17 e17 r17;refine yV ⟨?_⟩;apply n17
   ·apply b00 (b0f [6,7] _);simp only [b02,b0n,b0l,b0j,b0u,Nat.reduceEqDiff,reduceIte];exact d5k 6 _ ins.length rfl (qmj _)
   try simp only [b2f,b2q,Nat.reduceEqDiff,reduceIte,List.set_cons_zero,List.set_cons_succ]
   refine zq1 ⟨?_⟩;simp only [hA,b2r];rw [hRI];exact rta
set_option maxRecDepth 100000 in
theorem c5y (n:Int) (ss:List TS) (fl:List TA) (ins:List TI) (ws:List TW) (s:ByteArray) (t:Int) (hl:fl.length≤1048576) (hil:ins.length≤1048576) (hin:∀x∈ins,x.2.2.2.length≤1048576) (hwl:ws.length≤1048576) (hwn:∀x∈ws,x.2.length≤1048576) (hls:∀t∈fl,t.1.size≤9223372036854775807) (hB:(b2o n ss fl ins ws)=true):Con Tryz.prog 54 [kQ fl ins ws,.str s,.int .i64 t] [] (.tup [.agg [.ref 0,.ref 1,.ref 2],.bool (c18 fl s t)]) [aQ rQa (b3j (c18 fl s t) (d7k fl s t)),fQ rQb (b3j (c18 fl s t) (c9m ins s t)),fQ rQc (b3j (c18 fl s t) ws)]:=by
 have hF:=d35 hB;refine zcn [.cell 6 31,.tmp 7] [] Tryz.func54 Tryz.ntmps54 ⟨?_⟩;intro Q0 n0 r0;have T:=f72 Ty.t3 Ty.t4 Ty.t9 Ty.t27 Ty.t28 Ty.t29 Ty.t31 Ty.t32 Ty.t35 Ty.t53 Ty.t55 Ty.t91;have F:=Fc.mk True.intro;refine yR [1,2,3,6] ⟨?_⟩;refine yRc [1,2,3,6,8,9] (c9e fl s t hl hls hF) ⟨?_⟩;refine b0e ?_;intros;refine yR [1,2,3,6,8,25] ⟨?_⟩;refine b0a _ rfl ?_ ?_
 ·intro hc0;have hA:(c18 fl s t)=false:=by
   rw [c18]
   by_cases q:t=1<;>cases q2:c4i fl s t<;>simp [q,q2] at hc0⊢
  refine yR [6,7] ⟨?_⟩;refine zq1 ⟨?_⟩;simp only [aQ,fQ,hA,b2s,List.map_nil,List.length_nil,b41];exact rta
 ·intro hc0;have hA:(c18 fl s t)=true:=by
   rw [c18]
   by_cases q:t=1<;>cases q2:c4i fl s t<;>simp [q,q2] at hc0⊢
  have hch:c4i fl s t=true:=by rw [c18,qld] at hA;exact hA.1
  simp only [hch,b2r];refine zn [1,2,3,6,8] ⟨?_⟩;refine yRc [1,2,3,6,8,10] (c1a fl ins ws hl hil hin hwl hwn) ⟨?_⟩;refine yR [1,2,3,6,10] ⟨?_⟩;refine b0e ?_;intros;refine yRc [1,2,3,6,10,11] (c34 ins s hil hin) ⟨?_⟩;refine yRg [1,3,6,10,11,41] (c13 t) ⟨?_⟩;refine b0a _ rfl ?_ ?_
  ·intro hc1;have hcm:0≤b4v ins s∧¬(1≤t∧t≤3):=by
    have h:=hc1
    by_cases q:0≤b4v ins s<;>by_cases q2:1≤t<;>by_cases q3:t≤3<;>simp [b7u,q,q2,q3] at h⊢<;>(first | done | omega)
   obtain ⟨m,⟨x0,x1,x2,x3⟩,hm1,hm2,hm3⟩:=b64 hcm.1;simp only [] at hm2;have hml:=(qlc.1 hm1).1;have hnl:=hin _ (qlb hm1);simp only [] at hnl;have hRI:=d6v hcm.2 hm3 hm1;simp only [] at hRI;have F:=fq3 hm3 @qli (gdm hm1);refine yQc [6,10] (d9a ins m s x0 x1 x2 x3 hil hin hm1) ⟨?_⟩;refine b0e ?_;intro Q14 n14 e14 r14;refine yV ⟨?_⟩;apply n14
   ·apply b00 (b0f [6,7] _);simp only [b02,b0n,b0l,b0j,b0u,Nat.reduceEqDiff,reduceIte];exact d5k 13 _ (ins.set m (x0,x1,x2,x3.filter fun y=> !decide (y=s))).length rfl (qmj _)
   try simp only [b2f,b2q,Nat.reduceEqDiff,reduceIte,List.set_cons_zero,List.set_cons_succ]
   refine zq1 ⟨?_⟩;simp only [hA,b2r];rw [hRI];exact rta
  ·intro hc1;have hno:¬(0≤b4v ins s∧¬(1≤t∧t≤3)):=by
    intro hcm;have h:=hc1
    by_cases q:0≤b4v ins s<;>by_cases q2:1≤t<;>by_cases q3:t≤3<;>simp [b7u,q,q2,q3] at h hcm<;>(first | done | omega)
   have hRI:=d54 hno;refine zn [6,10] ⟨?_⟩;refine yR [6,7] ⟨?_⟩;refine zq1 ⟨?_⟩;simp only [hA,b2r];rw [hRI];exact rta
set_option maxRecDepth 100000 in
theorem c9l (n:Int) (ss:List TS) (fl:List TA) (ins:List TI) (ws:List TW) (s:ByteArray) (t:Int) (hs:ss.length≤1048576) (hl:fl.length≤1048576) (hls:∀t∈fl,t.1.size≤9223372036854775807) (hil:ins.length≤1048576) (hin:∀x∈ins,x.2.2.2.length≤1048576) (his:∀x∈ins,∀s∈x.2.2.2,s.size≤9223372036854775807) (hwl:ws.length≤1048576) (hwn:∀x∈ws,x.2.length≤1048576):Con Tryz.prog 13 [tQ n ss,kQ fl ins ws,.str s,.int .i64 t] [] (.tup [.agg [.ref 0,.ref 1,.ref 2],.bool (d2s n ss fl ins ws s t)]) [aQ rQa (b3j (d2s n ss fl ins ws s t) (d7k fl s t)),fQ rQb (b3j (d2s n ss fl ins ws s t) (c9m ins s t)),fQ rQc (b3j (d2s n ss fl ins ws s t) ws)]:=by
 refine zcn [.cell 8 31,.tmp 9] [] Tryz.func13 Tryz.ntmps13 ⟨?_⟩;intro Q0 n0 r0;have T:=Tys.mk (ai Ty.t3 (ai Ty.t4 (ai Ty.t9 (ai Ty.t24 (ai Ty.t26 (ai Ty.t27 (ai Ty.t28 (ai Ty.t29 (ai Ty.t31 (ai Ty.t32 (ai Ty.t35 (ai Ty.t53 (ai Ty.t55 (ai Ty.t77 (ai Ty.t79 (ai Ty.t91 Ty.t127))))))))))))))));have F:=Fc.mk True.intro;refine yR [2,3,4,5,8] ⟨?_⟩;refine b0e ?_;intros;refine d2w [2,3,5,8,15] (b4z n ss hs) (b4s n ss fl ins ws hs hl hls hil hin his hwl hwn) ⟨?_⟩;refine b0a _ rfl ?_ ?_
 ·intro hc0;have hB:(b2o n ss fl ins ws)=false:=by
   cases hq:(b2o n ss fl ins ws) with
   |false=>rfl
   |true=>(have ht:=b6f hq;simp [hq,ht] at hc0)
  have hV:(d2s n ss fl ins ws s t)=false:=by rw [d2s,hB];rfl
  refine yR [8,9] ⟨?_⟩;refine zq1 ⟨?_⟩;simp only [aQ,fQ,hV,b2s,List.map_nil,List.length_nil,b41];exact rta
 ·intro hc0;have hB:(b2o n ss fl ins ws)=true:=by
   cases hq:(b2o n ss fl ins ws) with
   |true=>rfl
   |false=>simp [hq] at hc0
  have hc:=b4f hB;have hV:(d2s n ss fl ins ws s t)=(c18 fl s t):=by rw [d2s,hB];rfl
  refine zn [2,3,5,8] ⟨?_⟩;refine yRc [8,9] (c1g n ss fl ins ws s t hl hil hin hwl hwn hls hB) ⟨?_⟩;refine zq1 ⟨?_⟩;rw [hV];exact rta
set_option maxRecDepth 100000 in
theorem c9g (n:Int) (ss:List TS) (fl:List TA) (ins:List TI) (ws:List TW) (s:ByteArray) (t:Int) (hs:ss.length≤1048576) (hl:fl.length≤1048576) (hls:∀t∈fl,t.1.size≤9223372036854775807) (hil:ins.length≤1048576) (hin:∀x∈ins,x.2.2.2.length≤1048576) (his:∀x∈ins,∀s∈x.2.2.2,s.size≤9223372036854775807) (hwl:ws.length≤1048576) (hwn:∀x∈ws,x.2.length≤1048576):Con Tryz.prog 14 [tQ n ss,kQ fl ins ws,.str s,.int .i64 t] [] (.tup [.agg [.ref 0,.ref 1,.ref 2],.bool (d2s n ss fl ins ws s t)]) [aQ rQa (b3j (d2s n ss fl ins ws s t) (d7k fl s t)),fQ rQb (b3j (d2s n ss fl ins ws s t) (c9m ins s t)),fQ rQc (b3j (d2s n ss fl ins ws s t) ws)]:=by
 refine zcn [.cell 8 31,.tmp 9] [] Tryz.func14 Tryz.ntmps14 ⟨?_⟩;intro Q0 n0 r0;have T:=Tys.mk (ai Ty.t3 (ai Ty.t4 (ai Ty.t9 (ai Ty.t24 (ai Ty.t26 (ai Ty.t27 (ai Ty.t28 (ai Ty.t29 (ai Ty.t31 (ai Ty.t32 (ai Ty.t35 (ai Ty.t53 (ai Ty.t55 (ai Ty.t91 Ty.t127))))))))))))));have F:=Fc.mk True.intro;refine yR [2,3,4,5,8] ⟨?_⟩;refine b0e ?_;intros;refine yRc [2,3,5,8,13] (b4c n ss fl ins ws hs hl hls hil hin his hwl hwn) ⟨?_⟩;refine b0a _ rfl ?_ ?_
 ·intro hc0;have hB:(b2o n ss fl ins ws)=false:=by
   cases hq:(b2o n ss fl ins ws) with
   |false=>rfl
   |true=>simp [hq] at hc0
  have hV:(d2s n ss fl ins ws s t)=false:=by rw [d2s,hB];rfl
  refine yR [8,9] ⟨?_⟩;refine zq1 ⟨?_⟩;simp only [aQ,fQ,hV,b2s,List.map_nil,List.length_nil,b41];exact rta
 ·intro hc0;have hB:(b2o n ss fl ins ws)=true:=by
   cases hq:(b2o n ss fl ins ws) with
   |true=>rfl
   |false=>simp [hq] at hc0
  have hc:=b4f hB;have hV:(d2s n ss fl ins ws s t)=(c18 fl s t):=by rw [d2s,hB];rfl
  refine zn [2,3,5,8] ⟨?_⟩;refine yRc [8,9] (c5y n ss fl ins ws s t hl hil hin hwl hwn hls hB) ⟨?_⟩;refine zq1 ⟨?_⟩;rw [hV];exact rta
end Go.Proofs.YtmbbjhopngejaaaGreatDoor
