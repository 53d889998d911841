/- What functions compute. No condition. -/
import Derived.Test.YtmbbjhopngejaaaGreatDoorX14
import Derived.Test.YtmbbjhopngejaaaGreatDoorX31
set_option linter.unusedSimpArgs false
set_option linter.unusedVariables false
set_option linter.defProp false
namespace Go.Proofs.YtmbbjhopngejaaaGreatDoor
open Go Go.Vm
set_option maxHeartbeats 8000000
theorem c2i (l:List (ByteArray)) (hl:l.length≤1048576):Con Tryz.prog 32 [.sl (l.map V.str),.sl (l.map V.str)] [] (.bool true) []:=by
 refine zcn [.tmp 4] [] Tryz.func32 Tryz.ntmps32 ⟨?_⟩;intro Q0 n0 r0;have T:=tq3 Ty.t3 Ty.t9 Ty.t32;have F:=Fc.mk True.intro;refine yR [0,1] ⟨?_⟩;refine b0e ?_;intros;refine yR [0,1,10] ⟨?_⟩;refine b18 _ rfl ?_ ?_
 ·intro hc0;exfalso;simp at hc0
 ·intro hc0;try simp only [zC,reduceCtorEq] at hc0
  refine zn [0,1] ⟨?_⟩;refine b0e ?_;intros;refine yR [0,1,12,13] ⟨?_⟩;refine b0i ?_;intros;refine b08 (fun i=>⟨[(0,.sl (l.map V.str)),(1,.sl (l.map V.str)),(12,.int .i64 l.length),(13,.int .i64 (Nat.cast i))],[],false,26,0⟩) (fun i=>i≤l.length) (fun i=>l.length - i) 0 ?_ ?_ ?_
  ·refine b2a [0,1,12,13] ?_;simp only [b02,b0n,b0l,b0j,b0u,Nat.reduceEqDiff,reduceIte];rfl
  ·exact qle _
  ·rintro i hok8 Q8 n8 e8 r8;have hi1:i≤l.length:=hok8;refine yR [0,1,12,13,14] ⟨?_⟩;refine b0e ?_;intros;refine b0a _ rfl ?_ ?_
   ·intro hc1;have hlt:i < l.length:=by omega
    obtain ⟨x,hx⟩:∃x,l[i]? =some x:=⟨l[i],qla hlt⟩;refine zn [0,1,12,13] ⟨?_⟩;refine b0e ?_;intros;refine b0i ?_;intros;have F:=Fc.mk (gdm hx);refine yR [0,1,5,12,13] ⟨?_⟩;refine b0e ?_;intro Q15 n15 e15 r15;refine b1f (by kernel_rfl) ?_;intro K16 q16 k16;show b1r _ _ _ _ 9 (Array.replicate 9 false) _;refine b0t q16 true 0 16 ?_;refine b0t q16 true 1 17 ?_;refine b1z q16 true 2 18 ?_;refine b1d q16 true 3 19 ?_;refine b0t q16 true 4 20 ?_;refine b0t q16 true 5 21 ?_;refine b1z q16 true 6 22 ?_;refine b1d q16 true 7 23 ?_;refine b19 q16 true 8 24 ?_;refine b0b (by kernel_rfl) ?_;refine k16 _ ?_;refine n15 _ _ (b0f [0,1,12,13,24] _) ?_;refine zk ⟨?_⟩;refine b18 _ rfl ?_ ?_
    ·intro hc2;exfalso;simp at hc2
    ·intro hc2;try simp only [zC,reduceCtorEq] at hc2
     refine zn [0,1,12,13] ⟨?_⟩;refine yV ⟨?_⟩;refine n8 _ (i+1) ?_ ?_ ?_
     ·refine b0d [0,1,12,13] [] ⟨?_⟩;rfl
     ·exact hlt
     ·show _ < _;omega
   ·intro hc1;refine zn [] ⟨?_⟩;refine yR [4] ⟨?_⟩;refine zr ⟨?_⟩;exact b0g rfl rfl (.inl rfl)
theorem c9i (l:List TA) (hl:l.length≤1048576):Con Tryz.prog 47 [sQ rQa l,sQ rQa l] [] (.bool true) []:=by
 refine zcn [.tmp 4] [] Tryz.func47 Tryz.ntmps47 ⟨?_⟩;intro Q0 n0 r0;have T:=tq4 Ty.t3 Ty.t9 Ty.t27 Ty.t53;have F:=Fc.mk True.intro;refine yR [0,1] ⟨?_⟩;refine b0e ?_;intros;refine yR [0,1,10] ⟨?_⟩;refine b18 _ rfl ?_ ?_
 ·intro hc0;exfalso;simp at hc0
 ·intro hc0;try simp only [zC,reduceCtorEq] at hc0
  refine zn [0,1] ⟨?_⟩;refine b0e ?_;intros;refine yR [0,1,12,13] ⟨?_⟩;refine b0i ?_;intros;refine b08 (fun i=>⟨[(0,sQ rQa l),(1,sQ rQa l),(12,.int .i64 l.length),(13,.int .i64 (Nat.cast i))],[],false,26,0⟩) (fun i=>i≤l.length) (fun i=>l.length - i) 0 ?_ ?_ ?_
  ·refine b2a [0,1,12,13] ?_;simp only [b02,b0n,b0l,b0j,b0u,Nat.reduceEqDiff,reduceIte];rfl
  ·exact qle _
  ·rintro i hok8 Q8 n8 e8 r8;have hi1:i≤l.length:=hok8;refine yR [0,1,12,13,14] ⟨?_⟩;refine b0e ?_;intros;refine b0a _ rfl ?_ ?_
   ·intro hc1;have hlt:i < l.length:=by omega
    obtain ⟨⟨x0,x1,x2,x3,x4⟩,hx⟩:∃x:TA,l[i]? =some x:=⟨l[i]'(by omega),qla (by omega)⟩;refine zn [0,1,12,13] ⟨?_⟩;refine b0e ?_;intros;refine b0i ?_;intros;have F:=Fc.mk (gdm hx);refine yR [0,1,5,12,13] ⟨?_⟩;refine b0e ?_;intro Q15 n15 e15 r15;refine b1f (by kernel_rfl) ?_;intro K16 q16 k16;show b1r _ _ _ _ 9 (Array.replicate 9 false) _;refine b0t q16 true 0 16 ?_;refine b0t q16 true 1 17 ?_;refine b1z q16 true 2 18 ?_;refine b1d q16 true 3 19 ?_;refine b0t q16 true 4 20 ?_;refine b0t q16 true 5 21 ?_;refine b1z q16 true 6 22 ?_;refine b1d q16 true 7 23 ?_;refine b19 q16 true 8 24 ?_;refine b0b (by kernel_rfl) ?_;refine k16 _ ?_;refine n15 _ _ (b0f [0,1,12,13,24] _) ?_;refine zk ⟨?_⟩;refine b18 _ rfl ?_ ?_
    ·intro hc2;exfalso;simp at hc2
    ·intro hc2;try simp only [zC,reduceCtorEq] at hc2
     refine zn [0,1,12,13] ⟨?_⟩;refine yV ⟨?_⟩;refine n8 _ (i+1) ?_ ?_ ?_
     ·refine b0d [0,1,12,13] [] ⟨?_⟩;rfl
     ·exact hlt
     ·show _ < _;omega
   ·intro hc1;refine zn [] ⟨?_⟩;refine yR [4] ⟨?_⟩;refine zr ⟨?_⟩;exact b0g rfl rfl (.inl rfl)
theorem c5d (x0 x1:Int) (x2:Bool) (x3:List ByteArray) (hn:x3.length≤1048576):Con Tryz.prog 113 [.agg [.int .i64 x0,.int .i64 x1,.bool x2,.sl (x3.map V.str)],.agg [.int .i64 x0,.int .i64 x1,.bool x2,.sl (x3.map V.str)]] [] (.bool true) []:=by
 have hd0:decide (x0=x0)=true:=decide_eq_true rfl;have hd1:decide (x1=x1)=true:=decide_eq_true rfl;have hd2:(x2 == x2)=true:=beq_self_eq_true x2;have hd3:decide (x2=x2)=true:=decide_eq_true rfl;refine zcn [.tmp 4] [] Tryz.func113 Tryz.ntmps113 ⟨?_⟩;intro Q0 n0 r0;have T:=tq5 Ty.t3 Ty.t4 Ty.t9 Ty.t32 Ty.t55;have F:=Fc.mk True.intro;have F:=fq4 hd0 hd1 hd2 hd3;refine yR [2,3] ⟨?_⟩;refine yRg [4] (c2i x3 hn) ⟨?_⟩;refine zr ⟨?_⟩;exact b0g rfl rfl (.inl rfl)
theorem c4a (l:List TI) (hl:l.length≤1048576) (hls:∀t∈l,t.2.2.2.length≤1048576):Con Tryz.prog 48 [sQ rQb l,sQ rQb l] [] (.bool true) []:=by
 refine zcn [.tmp 4] [] Tryz.func48 Tryz.ntmps48 ⟨?_⟩;intro Q0 n0 r0;have T:=tq6 Ty.t3 Ty.t4 Ty.t9 Ty.t28 Ty.t32 Ty.t55;have F:=Fc.mk True.intro;refine yR [0,1] ⟨?_⟩;refine b0e ?_;intros;refine yR [0,1,10] ⟨?_⟩;refine b18 _ rfl ?_ ?_
 ·intro hc0;exfalso;simp at hc0
 ·intro hc0;try simp only [zC,reduceCtorEq] at hc0
  refine zn [0,1] ⟨?_⟩;refine b0e ?_;intros;refine yR [0,1,12,13] ⟨?_⟩;refine b0i ?_;intros;refine b08 (fun i=>⟨[(0,sQ rQb l),(1,sQ rQb l),(12,.int .i64 l.length),(13,.int .i64 (Nat.cast i))],[],false,27,0⟩) (fun i=>i≤l.length) (fun i=>l.length - i) 0 ?_ ?_ ?_
  ·refine b2a [0,1,12,13] ?_;simp only [b02,b0n,b0l,b0j,b0u,Nat.reduceEqDiff,reduceIte];rfl
  ·exact qle _
  ·rintro i hok8 Q8 n8 e8 r8;have hi1:i≤l.length:=hok8;refine yR [0,1,12,13,14] ⟨?_⟩;refine b0e ?_;intros;refine b0a _ rfl ?_ ?_
   ·intro hc1;have hlt:i < l.length:=by omega
    obtain ⟨⟨x0,x1,x2,x3⟩,hx⟩:∃x,l[i]? =some x:=⟨l[i],qla hlt⟩;have hlx:=hls _ (qlb hx);refine zn [0,1,12,13] ⟨?_⟩;refine b0e ?_;intros;refine b0i ?_;intros;have F:=Fc.mk (gdm hx);refine yR [0,1,5,12,13] ⟨?_⟩;refine b0e ?_;intro Q15 n15 e15 r15;refine b1f (by kernel_rfl) ?_;intro K16 q16 k16;show b1r _ _ _ _ 10 (Array.replicate 10 false) _;refine b0t q16 true 0 16 ?_;refine b0t q16 true 1 17 ?_;refine b1z q16 true 2 18 ?_;refine b1d q16 true 3 19 ?_;refine b0t q16 true 4 20 ?_;refine b0t q16 true 5 21 ?_;refine b1z q16 true 6 22 ?_;refine b1d q16 true 7 23 ?_;refine zoc 8 (c5d x0 x1 x2 x3 hlx) ⟨?_⟩;refine b9r q16 true 9 25 ?_;refine b0b (by kernel_rfl) ?_;refine k16 _ ?_;refine n15 _ _ (b0f [0,1,12,13,25] _) ?_;refine zk ⟨?_⟩;refine b18 _ rfl ?_ ?_
    ·intro hc2;exfalso;simp at hc2
    ·intro hc2;try simp only [zC,reduceCtorEq] at hc2
     refine zn [0,1,12,13] ⟨?_⟩;refine yV ⟨?_⟩;refine n8 _ (i+1) ?_ ?_ ?_
     ·refine b0d [0,1,12,13] [] ⟨?_⟩;rfl
     ·exact hlt
     ·show _ < _;omega
   ·intro hc1;refine zn [] ⟨?_⟩;refine yR [4] ⟨?_⟩;refine zr ⟨?_⟩;exact b0g rfl rfl (.inl rfl)
def cmB (l:List TI) (s:ByteArray):Bool:=b8d l && b4t s && decide (0≤b4v l s)
def cmN (l:List TI) (s:ByteArray):Int:=match l[(b4v l s).toNat]? with
  | some x=>bif cmB l s then x.1 else 0
  | none=>0
theorem f78 {l:List TI} {s:ByteArray} (h:cmB l s=false):cmN l s=0:=by
  rw [cmN,h];split<;>rfl
theorem f5b {l:List TI} {s:ByteArray} {k:Nat} {x:TI} (h:cmB l s=true) (h1:b4v l s=(k:Int)) (h2:l[k]? =some x):cmN l s=x.1:=by
  rw [cmN,h,h1,qli,h2];rfl
def fdB (fl:List TA) (s:ByteArray):Bool:=b4x fl && decide (0≤b3o fl s)
theorem c50 (l:List TI) (s:ByteArray) (hl:l.length≤1048576) (hli:∀x∈l,x.2.2.2.length≤1048576) (hls:∀x∈l,∀s∈x.2.2.2,s.size≤9223372036854775807) (hs:s.size≤9223372036854775807):Con Tryz.prog 15 [sQ rQb l,.str s] [] (.tup [.int .i64 (cmN l s),.bool (cmB l s)]) []:=by
 refine zcn [.tmp 4,.tmp 5] [] Tryz.func15 Tryz.ntmps15 ⟨?_⟩;intro Q0 n0 r0;have T:=tq6 Ty.t3 Ty.t4 Ty.t9 Ty.t28 Ty.t32 Ty.t55;have F:=Fc.mk True.intro;refine yR [0,1] ⟨?_⟩;refine b0e ?_;intros;refine c6c [0,1,19] (c0k l hl hli hls) (c1y s hs) (b37 l s hl hli) ⟨?_⟩;refine b0a _ rfl ?_ ?_
 ·intro hc0;have hB:cmB l s=false:=by
   cases q:cmB l s with
   |false=>rfl
   |true=>
    exfalso;rw [cmB,qld,qld,decide_eq_true_eq] at q;simp [q.1.1,q.1.2] at hc0;omega
  refine yR [4,5] ⟨?_⟩;refine zr ⟨?_⟩;rw [hB,f78 hB];exact b0g rfl rfl (.inl rfl)
 ·intro hc0;have hq:b8d l=true∧b4t s=true∧0≤b4v l s:=by
   cases q1:b8d l<;>cases q2:b4t s<;>simp [q1,q2] at hc0⊢<;>omega
  have hB:cmB l s=true:=by rw [cmB,hq.1,hq.2.1,decide_eq_true hq.2.2];rfl
  obtain ⟨k,⟨x0,x1,x2,x3⟩,hx,_,hk⟩:=b64 hq.2.2;have hkl:k < l.length:=(qlc.1 hx).1;refine zn [0,1] ⟨?_⟩;have F:=fq3 hk @qli (gdm hx);refine yRc [4,5] (b37 l s hl hli) ⟨?_⟩;refine zr ⟨?_⟩;rw [hB,f5b hB hk hx];exact b0g rfl rfl (.inl rfl)
theorem d4e (l:List TI) (s:ByteArray) (hl:l.length≤1048576) (hli:∀x∈l,x.2.2.2.length≤1048576) (hls:∀x∈l,∀s∈x.2.2.2,s.size≤9223372036854775807) (hs:s.size≤9223372036854775807):Con Tryz.prog 19 [sQ rQb l,.str s] [] (.tup [.int .i64 (cmN l s),.bool (cmB l s)]) []:=by
 refine zcn [.tmp 4,.tmp 5] [] Tryz.func19 Tryz.ntmps19 ⟨?_⟩;intro Q0 n0 r0;have T:=tq6 Ty.t3 Ty.t4 Ty.t9 Ty.t28 Ty.t32 Ty.t55;have F:=Fc.mk True.intro;refine yR [0,1] ⟨?_⟩;refine b0e ?_;intros;refine c6c [0,1,19] (b9s l hl hli hls) (c4k s hs) (c34 l s hl hli) ⟨?_⟩;refine b0a _ rfl ?_ ?_
 ·intro hc0;have hB:cmB l s=false:=by
   cases q:cmB l s with
   |false=>rfl
   |true=>
    exfalso;rw [cmB,qld,qld,decide_eq_true_eq] at q;simp [q.1.1,q.1.2] at hc0;omega
  refine yR [4,5] ⟨?_⟩;refine zr ⟨?_⟩;rw [hB,f78 hB];exact b0g rfl rfl (.inl rfl)
 ·intro hc0;have hq:b8d l=true∧b4t s=true∧0≤b4v l s:=by
   cases q1:b8d l<;>cases q2:b4t s<;>simp [q1,q2] at hc0⊢<;>omega
  have hB:cmB l s=true:=by rw [cmB,hq.1,hq.2.1,decide_eq_true hq.2.2];rfl
  obtain ⟨k,⟨x0,x1,x2,x3⟩,hx,_,hk⟩:=b64 hq.2.2;have hkl:k < l.length:=(qlc.1 hx).1;refine zn [0,1] ⟨?_⟩;have F:=fq3 hk @qli (gdm hx);refine yRc [4,5] (c34 l s hl hli) ⟨?_⟩;refine zr ⟨?_⟩;rw [hB,f5b hB hk hx];exact b0g rfl rfl (.inl rfl)
theorem d47 (fl:List TA) (s:ByteArray) (hl:fl.length≤1048576) (hls:∀t∈fl,t.1.size≤9223372036854775807):Con Tryz.prog 20 [sQ rQa fl,.str s] [] (.tup [.int .i64 (bif fdB fl s then b3o fl s else 0),.bool (fdB fl s)]) []:=by
 refine zcn [.tmp 4,.tmp 5] [] Tryz.func20 Tryz.ntmps20 ⟨?_⟩;intro Q0 n0 r0;have T:=tq5 Ty.t3 Ty.t4 Ty.t9 Ty.t27 Ty.t53;have F:=Fc.mk True.intro;refine yR [0,1] ⟨?_⟩;refine b0e ?_;intros;refine d2w [0,1,14] (b8p fl hl hls) (b5e fl s hl) ⟨?_⟩;refine b0a _ rfl ?_ ?_
 ·intro hc0;have hB:fdB fl s=false:=by
   cases q:fdB fl s with
   |false=>rfl
   |true=>
    exfalso;rw [fdB,qld,decide_eq_true_eq] at q;simp [q.1] at hc0;omega
  refine yR [4,5] ⟨?_⟩;refine zr ⟨?_⟩;rw [hB];exact b0g rfl rfl (.inl rfl)
 ·intro hc0;have hB:fdB fl s=true:=by
   rw [fdB];cases q1:b4x fl<;>simp [q1] at hc0⊢<;>omega
  refine zn [0,1] ⟨?_⟩;refine yRc [4,5] (b5e fl s hl) ⟨?_⟩;refine zr ⟨?_⟩;rw [hB];exact b0g rfl rfl (.inl rfl)
theorem d6x (code:List Int) (a s:Int) (hcode:∀x∈code,0≤x∧x≤255) (hcl:code.length≤9223372036854775807) (ha:0≤a∧a < 17000000000):b74 Tryz.prog 53 [.ptr 0 0 0] [cQ code a s] (fun r O'=>∃(v:Int) (a' s':Int),(-1≤v∧v≤6)∧(a≤a'∧a'≤a+4)∧r=.int .i64 v∧O'=[cQ code a' s']):=by
 refine zcx [.tmp 2] [(85,[0,1])] Tryz.func53 Tryz.ntmps53 ⟨?_⟩;intro Q0 n0 r0;have T:=tq7 Ty.t3 Ty.t5 Ty.t22 Ty.t35 Ty.t68 Ty.t69 Ty.t71;have F:=Fc.mk True.intro;refine yR [0] ⟨?_⟩;refine b1l [2] ?_;intro K2 k2;refine zq5 ⟨?_⟩;refine b4q ⟨?_⟩;refine zxt (b3n code a s [-1,6] (by simp) hcode hcl (by omega)) ⟨?_⟩;rintro _ _ ⟨v6,a6,s6,h6,k6,rfl,rfl⟩;refine zEt ⟨?_⟩;simp only [List.mem_cons,List.not_mem_nil,or_false] at h6;refine b4q ⟨?_⟩;refine zxt (b3n code a6 s6 [0,1,2,3,4,5,v6] (by simp) hcode hcl (by omega)) ⟨?_⟩;rintro _ _ ⟨v8,a8,s8,h8,k8,rfl,rfl⟩;refine zEt ⟨?_⟩;simp only [List.mem_cons,List.not_mem_nil,or_false] at h8;refine b2l ⟨?_⟩;refine k2 _ ?_;refine zq2 ⟨?_⟩;refine b1a ?_;exact ⟨_,_,_,by omega,by omega,rfl,rfl⟩
set_option maxRecDepth 8000 in
theorem c5t (code:List Int) (a s:Int) (l:List TA) (hl:l.length≤1048576) (hsz:∀x∈l,x.1.size≤9) (hcode:∀x∈code,0≤x∧x≤255) (hcl:code.length≤9223372036854775807) (ha:0≤a∧a < 14000000000):b74 Tryz.prog 36 [.ptr 0 0 0,sQ rQa l] [cQ code a s] (fun r O'=>∃(v:ByteArray) (a' s':Int),(v.size≤12)∧(a≤a'∧a'≤a+(10+2 * (l.length:Int)))∧r=.str v∧O'=[cQ code a' s']):=by
 refine zcx [.tmp 4] [(85,[0,1]),(34,[0]),(35,[0]),(91,[0,1]),(49,[0])] Tryz.func36 Tryz.ntmps36 ⟨?_⟩;intro Q0 n0 r0;have T:=f82 Ty.t3 Ty.t4 Ty.t5 Ty.t9 Ty.t22 Ty.t27 Ty.t32 Ty.t53 Ty.t68 Ty.t69 Ty.t71;have F:=Fc.mk True.intro;refine yR [0,1] ⟨?_⟩;refine b1l [0,1,5] ?_;intro K2 k2;refine zq5 ⟨?_⟩;refine zxl (c1l code a s l hl hsz hcode hcl (by omega)) ⟨?_⟩;rintro _ _ ⟨v10,a10,s10,h10,k10,rfl,rfl⟩;refine f6u ⟨?_⟩;refine k2 _ ?_;refine zk ⟨?_⟩;refine b0e ?_;intros;refine yR [0,5,11,12,13] ⟨?_⟩;refine b0i ?_;intros;refine b08 (fun p=>⟨[(0,.ptr 0 0 0),(5,.str v10),(11,sQ rQa l),(12,.int .i64 l.length),(13,.int .i64 (Nat.cast p.1))],[cQ code p.2.1 p.2.2],false,46,0⟩) (fun p=>p.1≤l.length∧a10≤p.2.1∧p.2.1≤a10+2 * (p.1:Int)) (fun p=>l.length - p.1) ((0,a10,s10):Nat×Int×Int) ?_ ?_ ?_
 ·refine b7e [0,5,11,12,13] [0] (by decide) (by simp) ?_ ?_ ?_
  ·simp [b02,b0n,b0l,b0j,V.only,V.onlyL,idx]<;>(first | rfl | decide)
  ·simp [Blk.kindIs,b05,b1s]
  simp only [aQ,fQ,b02,b0n,b0l,b0j,b0u,Nat.reduceEqDiff,reduceIte,St.comp,List.map_cons,List.map_nil,V.ren,V.renL,idx,List.getD_cons_zero,List.getD_cons_succ,Nat.reduceBEq,cond_true,cond_false,Option.map_some,Option.getD_some,Nat.reduceAdd,Nat.beq_eq_true_eq];all_goals rfl
 ·exact ⟨qle _,by simp⟩
 ·rintro ⟨i,a2,s2⟩ hok6 Q6 n6 e6 r6;obtain ⟨hi1,ha2⟩:=hok6;simp only [] at hi1 ha2⊢;refine yR [0,5,11,12,13,14] ⟨?_⟩;refine b0e ?_;intros;refine b0a _ rfl ?_ ?_
  ·intro hc0;have hs1:(⟨#[32]⟩:ByteArray).size=1:=rfl;have hlt:i < l.length:=by omega
   obtain ⟨⟨x0,x1,x2,x3,x4⟩,hx⟩:∃x:TA,l[i]? =some x:=⟨l[i]'(by omega),qla (by omega)⟩;have hz0:x0.size≤9:=hsz _ (qlb hx);refine zn [0,5,11,12,13] ⟨?_⟩;refine b0e ?_;intros;refine b0i ?_;intros;have F:=Fc.mk (gdm hx);refine yR [0,5,7,11,12,13] ⟨?_⟩;refine b1l [0,5,7,11,12,13,30] ?_;intro K13 k13;refine f0s ⟨?_⟩;refine b15 ⟨?_⟩;refine c0m ⟨?_⟩;refine b15 ⟨?_⟩;refine zq4 ⟨?_⟩;refine zgc (c13 x4) ⟨?_⟩;refine f9y ⟨?_⟩;refine zgx (b6c code a2 s2 (4) hcode hcl (by omega)) (⟨_,true,a2,s2,trivial,by omega,rfl,rfl⟩) ⟨?_⟩;rintro _ _ ⟨v28,a28,s28,h28,k28,rfl,rfl⟩;refine zEg ⟨?_⟩;refine f5t ⟨?_⟩;refine k13 _ ?_;refine zk ⟨?_⟩;refine b0a _ rfl ?_ ?_
   ·intro hc1;have hst:x4=1∨x4=2∨x4=3:=by
     omega
    have hl4:([V.str (⟨#[]⟩:ByteArray),V.str (⟨#[50]⟩:ByteArray),V.str (⟨#[97,116]⟩:ByteArray),V.str (⟨#[52]⟩:ByteArray)]:List V).length=4:=rfl;obtain ⟨tx,htx,hzt⟩:∃tx,([V.str (⟨#[]⟩:ByteArray),V.str (⟨#[50]⟩:ByteArray),V.str (⟨#[97,116]⟩:ByteArray),V.str (⟨#[52]⟩:ByteArray)]:List V).getD x4.toNat .any=.str tx∧tx.size≤2:=by
     rcases hst with e | e | e<;>subst e<;>exact ⟨_,rfl,by decide⟩
    have F:=fq3 (gdm hx) hl4 htx;refine yR [4] ⟨?_⟩;refine zr ⟨?_⟩;refine b1a ?_;exact ⟨_,_,_,by simp only [ByteArray.size_append];omega,by omega,rfl,rfl⟩
   ·intro hc1;refine zn [0,5,11,12,13] ⟨?_⟩;refine yV ⟨?_⟩;refine n6 _ (i+1,a28,s28) ?_ ?_ ?_
    ·refine b7e [0,5,11,12,13] [0] (by decide) (by simp) ?_ ?_ ?_
     ·simp [b02,b0n,b0l,b0j,V.only,V.onlyL,idx]<;>(first | rfl | decide)
     ·simp [Blk.kindIs,b05,b1s]
     simp only [aQ,fQ,b02,b0n,b0l,b0j,b0u,Nat.reduceEqDiff,reduceIte,St.comp,List.map_cons,List.map_nil,V.ren,V.renL,idx,List.getD_cons_zero,List.getD_cons_succ,Nat.reduceBEq,cond_true,cond_false,Option.map_some,Option.getD_some,Nat.reduceAdd,Nat.beq_eq_true_eq];all_goals rfl
    ·exact ⟨by show i+1≤l.length;omega,by show a10≤a28∧a28≤a10+2 * ((i+1:Nat):Int);omega⟩
    ·show _ < _;show l.length - (i+1) < l.length - i;omega
  ·intro hc0;have hs1:((⟨#[32]⟩:ByteArray)).size=1:=rfl;refine zn [0,5] ⟨?_⟩;refine b1l [4] ?_;intro K17 k17;have F:=Fc.mk hs1;refine b15 ⟨?_⟩;refine b6z ⟨?_⟩;refine d7a ⟨?_⟩;refine zxt (d8b code a2 s2 [(⟨#[48]⟩:ByteArray),(⟨#[50]⟩:ByteArray),(⟨#[51]⟩:ByteArray),(⟨#[52]⟩:ByteArray),(⟨#[53]⟩:ByteArray),(⟨#[97,116]⟩:ByteArray),(⟨#[49]⟩:ByteArray),(⟨#[54]⟩:ByteArray),(⟨#[48,50]⟩:ByteArray),(⟨#[120]⟩:ByteArray),.empty] (by simp) hcode hcl (by omega)) ⟨?_⟩;rintro _ _ ⟨v44,a44,s44,h44,k44,rfl,rfl⟩;have hz44:v44.size≤2:=by
    simp only [List.mem_cons,List.not_mem_nil,or_false] at h44;rcases h44 with e | e | e | e | e | e | e | e | e | e | e<;>(rw [e];decide)
   refine zEt ⟨?_⟩;refine b6z ⟨?_⟩;refine b2l ⟨?_⟩;refine k17 _ ?_;refine zq2 ⟨?_⟩;refine b1a ?_;exact ⟨_,_,_,by simp only [ByteArray.size_append];omega,by omega,rfl,rfl⟩
end Go.Proofs.YtmbbjhopngejaaaGreatDoor
