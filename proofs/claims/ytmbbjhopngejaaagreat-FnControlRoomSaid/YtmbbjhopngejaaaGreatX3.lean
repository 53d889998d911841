/- What functions compute. No condition. -/
import Derived.Test.YtmbbjhopngejaaaGreatX1
set_option linter.all false
open List renaming replicate → Za, forall_mem_map → Zc, set_cons_zero → Zd, set_cons_succ → Ze, length_map → Zg, drop_replicate → Zh
open Array renaming replicate → Zb
open Go.Vm.V renaming int → Zf
namespace Go.Proofs.YtmbbjhopngejaaaGreat
open Go Go.Vm Tryz
set_option maxHeartbeats 8000000
theorem f9f {n:Int} (h0:0≤n) (h:n < 18446744073709551616):IntKind.u64.wrap n=n:=by
  simp [IntKind.wrap,IntKind.signed,IntKind.bits];omega
theorem d7i {n:Int} (h0:0≤n) (h:n < 4294967296):IntKind.u64.wrap ((BitVec.ofInt IntKind.u64.bits n &&& BitVec.ofInt IntKind.u64.bits 4294967295).toNat:Int)=n:=by
  obtain ⟨m,rfl⟩:=qlw h0;have e:(BitVec.ofInt IntKind.u64.bits (m:Int) &&& BitVec.ofInt IntKind.u64.bits 4294967295).toNat=m:=by
    show (BitVec.ofInt 64 (m:Int) &&& BitVec.ofInt 64 4294967295).toNat=m;rw [BitVec.toNat_and];have h1:(BitVec.ofInt 64 (m:Int)).toNat=m:=by simp [BitVec.toNat_ofInt];omega
    have h2:(BitVec.ofInt 64 4294967295).toNat=2 ^ 32 - 1:=by decide
    rw [h1,h2,Nat.and_two_pow_sub_one_eq_mod];omega
  rw [e,f9f (by omega) (by omega)]
theorem f9d {n:Int} (h0:0≤n) (h:n < 4294967296):n.fdiv (2 ^ min (Int.toNat 32) IntKind.u64.bits)=0:=by
  have:min (Int.toNat 32) IntKind.u64.bits=32:=by decide
  rw [this,Int.fdiv_eq_ediv_of_nonneg _ (by decide)];omega
theorem f3w (n:Int) (h0:0≤n) (hn:n≤1048576):Con prog 200 [.int .u64 1,.int .u64 n] [] (.tup [.int .u64 0,.int .u64 n]) []:=by
 have a1:=d7i (n:=1) (by omega) (by omega);have a0:=d7i (n:=0) (by omega) (by omega);have an:=d7i (n:=n) (by omega) (by omega);have s1:=f9d (n:=1) (by omega) (by omega);have s0:=f9d (n:=0) (by omega) (by omega);have sn:=f9d (n:=n) (by omega) (by omega);have m1:IntKind.u64.wrap (1 * n)=n:=by rw [Int.one_mul];exact f9f (by omega) (by omega)
 have m2:IntKind.u64.wrap (0 * n)=0:=by rw [Int.zero_mul];rfl
 have m3:IntKind.u64.wrap (0+0)=0:=rfl;have m4:IntKind.u64.wrap (1 * 0)=0:=rfl;have m5:IntKind.u64.wrap (0 * 0)=0:=rfl;apply zcn [.tmp 4,.tmp 5] [] func200 ntmps200;intro _ _ _;have T:=tq2 Y61 f8y;have F:=Fc.mk True.intro;have F:=g0a a1 a0 an s1 s0 sn m1 m2 m3 m4 m5;apply yR [0,1];apply yR [0,1,6];apply yR [0,1,6,7];apply yR [0,1,6,7,8];apply yR [0,1,6,7,8,9];apply yR [0,1,6,7,8,9,10];apply yR [0,1,6,7,9,11];apply yR [0,1,6,7,9,11,12];apply yR [0,1,6,7,9,12,13];apply yR [0,1,7,9,12,13];apply yR [0,1,4];apply yR [4,5];apply (zr);exact b0h rfl rfl (.inl rfl)
theorem f8h (n:Int) (h0:0≤n) (hn:n≤1048576):Con prog 194 [.int .u64 1,.int .u64 n] [] (.tup [.int .u64 0,.int .u64 n]) []:=by
 apply zcn [.tmp 4,.tmp 5] [] func194 ntmps194;intro _ _ _;have T:=tq2 Y61 f8y;have F:=Fc.mk True.intro;apply yR [0,1];apply b0e;intros;apply b2a _ rfl
 ·intro hc0;exfalso;cases hc0
 ·intro hc0;try simp only [zC,reduceCtorEq] at hc0
  apply zn [0,1];apply yRc [8,9] (f3w n h0 hn);apply yR [4,5];apply (zr);exact b0h rfl rfl (.inl rfl)
def c1j (c:Int) (N m:Nat):List V:=Za m (Zf .i64 c)++Za (N - m) (Zf .i64 0)
theorem c9d {c:Int} {N m:Nat} (h:m≤N):(c1j c N m).length=N:=by simp [c1j];omega
theorem b4w {c:Int} {N m:Nat}:∀x∈c1j c N m,x.cells.length=1:=by
  intro x hx;rw [c1j,qll] at hx;rcases hx with h | h<;>rw [qmf h]<;>rfl
theorem d9x {c:Int} {N m k:Nat} (h:m≤N) (hk:k=min m (N - m)):(c1j c N m).take m++((c1j c N m).take m).take k++(c1j c N m).drop (m+k)=c1j c N (m+k):=by
  have h1:(c1j c N m).take m=Za m (Zf .i64 c):=by rw [c1j,List.take_left' (by simp)]
  have h2:(c1j c N m).drop (m+k)=Za (N - (m+k)) (Zf .i64 0):=by
    rw [c1j,List.drop_append,ql4 (by simp),qmh,List.nil_append,Zh]
    congr 1;omega
  rw [h1,h2,List.take_replicate,List.replicate_append_replicate,c1j]
  congr 3;omega
theorem d9y (c:Int) (N:Nat) (h1:1≤N) (hN:N≤1048576):Con prog 184 [.sl [.int .i64 c],.int .i64 N] [] (.ref 0) [.arr ((Za N c).map (Zf .i64)) .flat]:=by
 have u1:IntKind.u64.wrap 1=1:=rfl;have un:IntKind.u64.wrap (N:Int)=N:=f9f (by omega) (by omega);have wn:IntKind.i64.wrap (N:Int)=N:=by simp (disch:=omega) only [c3k]
 apply zcn [.tmp 4] [] func184 ntmps184;intro _ _ _;have T:=tq3 Y3 Y41 f8y;have F:=Fc.mk True.intro;have F:=fq3 u1 un wn;apply yR [0,1];apply b0e;intros;apply yR [0,1,10];apply b2a _ rfl
 ·intro hc0;exfalso;simp at hc0;omega
 ·intro hc0;try simp only [zC,reduceCtorEq] at hc0
  apply zn [0,1];apply yRc [0,5,6] (f8h (N:Int) (by omega) (by omega));apply b0e;intros;apply yR [0,6,26];apply b2a _ rfl
  ·intro hc1;exfalso;simp at hc1;omega
  ·intro hc1;try simp only [zC,reduceCtorEq] at hc1
   apply zn [0,6];apply yR [0,7];apply yR [7,8];apply b0e;intros;apply b0g;intros;apply b05 (fun m=>⟨[(7,.ref 0),(8,.int .i64 (Nat.cast m))],[.arr (c1j c N m) .flat],false,48,0⟩) (fun m=>1≤m∧m≤N) (fun m=>N - m) 1
   ·apply b0d [7,8] [1];simp only [List.length_replicate,show min 1 N=1 by omega];rw [show List.take 1 [Zf .i64 c]++List.drop 1 (Za N (Zf .i64 0))=c1j c N 1 by rw [c1j,Zh];rfl]
   ·exact ⟨qly _,h1⟩
   ·rintro m hok13 Q13 n13 e13 r13;obtain ⟨hm1,hm2⟩:=hok13;apply b0e;intros;apply yR [7,8,37];apply b0c _ rfl
    ·intro hc2;have hrl:=c9d (c:=c) (N:=N) hm2;have hlt:m < N:=by rw [hrl] at hc2;omega
     apply zn [7,8];apply b0g;intro _ n17 _ _ _;apply b1b (by kernel_rfl);intro _ q18 k18;show b13 _ _ _ _ 10 (Zb 10 false) _;have F:=fq4 u1 un wn hrl;refine zdU q18 false 0 38 ?_;refine zdU q18 true 1 39 ?_;refine zdU q18 true 2 40 ?_;apply b2l q18 true 3 41 rfl rfl (by kernel_rfl) (by kernel_rfl);apply Exists.intro;apply And.intro
     ·intro t hn gx ho K' k';have g39:=gx 39 (by decide);have g40:=gx 40 (by decide);simp only [c3m,b0f,b0n,b0j,Nat.reduceEqDiff,reduceIte] at g39 g40;first | have row0:=b0v (i:=0) (ho rfl) rfl | have row0:t.n+0=t.n:=rfl
      first | have row1:=b0v (i:=1) (ho rfl) rfl | have row1:t.n+0=t.n:=rfl
      first | have row2:=b0v (i:=2) (ho rfl) rfl | have row2:t.n+0=t.n:=rfl
      have hdl:41 < t.n:=by rw [hn];show 41 < 48;decide
      clear hn;refine .inl ?_;simp only [zE,zL,zN,hdl,b0x,b0s,Nat.reduceEqDiff,reduceIte,implies_true,forall_const,reduceCtorEq,V.ofValue,V.ofScalar,V.un,V.gd,b1c,aop,g39,g40,row0,row1,row2,Zd,Ze,b82,forall_eq',c09,b9n,Option.map_none,Option.isNone_none,b1k,Blk.row,TypeDesc.slice.injEq,Zc,Zg,Go.Vm.V.cells,Int.toNat_natCast,Int.reduceToNat,←List.map_take,←List.map_drop,List.take_length,Nat.reduceAdd,Nat.reduceLeDiff,Nat.reduceLT,Nat.reduceMul,underlying3,Ty.c3,Ty.a3,underlying41,Ty.c41,Ty.a41,u1,un,wn,hrl];repeat (refine ai (by first | omega | exact b4w | exact ⟨by omega,b4w,fun y hy=>b4w y (qlz hy)⟩ | (intros;omega) | (intros;simp_all;done) | (intros;simp_all;omega)) ?_)
      exact k'
     simp only [b0j];refine zdU q18 true 4 42 ?_;refine zdU q18 true 5 43 ?_;apply b2l q18 true 6 44 rfl rfl (by kernel_rfl) (by kernel_rfl);apply Exists.intro;apply And.intro
     ·intro t hn gx ho K' k';have g42:=gx 42 (by decide);have g43:=gx 43 (by decide);simp only [c3m,b0f,b0n,b0j,Nat.reduceEqDiff,reduceIte] at g42 g43;first | have row0:=b0v (i:=0) (ho rfl) rfl | have row0:t.n+0=t.n:=rfl
      first | have row1:=b0v (i:=1) (ho rfl) rfl | have row1:t.n+0=t.n:=rfl
      first | have row2:=b0v (i:=2) (ho rfl) rfl | have row2:t.n+0=t.n:=rfl
      have hdl:44 < t.n:=by rw [hn];show 44 < 48;decide
      clear hn;refine .inl ?_;simp only [zE,zL,zN,hdl,b0x,b0s,Nat.reduceEqDiff,reduceIte,implies_true,forall_const,reduceCtorEq,V.ofValue,V.ofScalar,V.un,V.gd,b1c,aop,g42,g43,row0,row1,row2,Zd,Ze,b82,forall_eq',c09,b9n,Option.map_none,Option.isNone_none,b1k,Blk.row,TypeDesc.slice.injEq,Zc,Zg,Go.Vm.V.cells,Int.toNat_natCast,Int.reduceToNat,←List.map_take,←List.map_drop,List.take_length,Nat.reduceAdd,Nat.reduceLeDiff,Nat.reduceLT,Nat.reduceMul,underlying3,Ty.c3,Ty.a3,underlying41,Ty.c41,Ty.a41,u1,un,wn,hrl];repeat (refine ai (by first | omega | exact b4w | exact ⟨by omega,b4w,fun y hy=>b4w y (qlz hy)⟩ | (intros;omega) | (intros;simp_all;done) | (intros;simp_all;omega)) ?_)
      exact k'
     simp only [b0j];apply b4j 7 rfl (by kernel_rfl);intro K k;simp only [zE,zL,zO,zN,b0x,b0s,b0j,Nat.reduceEqDiff,reduceIte,Nat.reduceLT,implies_true,forall_const,reduceCtorEq,V.ofValue,V.ofScalar,V.un,V.gd,b1c,aop,c7r,d0p,c5p,b1k,Blk.row,c1h,c15,c7n,c7m,c25,Zd,Ze,Zc,Zg,Go.Vm.V.cells,V.noSl,List.size_toArray,List.getD_eq_getElem?_getD,Array.getD_eq_getD_getElem?,Option.getD_some,TypeDesc.slice.injEq,Nat.reduceAdd,Nat.reduceLeDiff,Nat.reduceMul,underlying3,Ty.c3,Ty.a3,Ty.b3,Ty.s3,underlying41,Ty.c41,Ty.a41,Ty.b41,Ty.s41,u1,un,wn,hrl];repeat (refine ai (by first | omega | exact b4w | exact ⟨by omega,b4w,fun y hy=>b4w y (qlz hy)⟩ | (intros;omega) | (intros;simp_all;done) | (intros;simp_all;omega)) ?_)
     apply k _;clear k K;refine b7u q18 true 8 46 ?_;apply b0q 9;apply b0b (by kernel_rfl);apply k18 _;apply n17 _;apply n13 _ (m+min m (N - m))
     ·apply b0d [7,8] [0];simp only [Nat.sub_zero,List.length_take,c9d hm2,show min m N=m by omega,←Int.natCast_add];rw [d9x hm2 rfl]
     ·exact ⟨by omega,by omega⟩
     ·show _ < _;omega
    ·intro hc2;apply zn [7];apply yR [4];apply (zr);have hend:m=N:=by rw [c9d hm2] at hc2;omega
     exact b1q rfl rfl (by rw [hend,c1j,qmz,List.map_replicate];simp)
def c3f (x:TA):Bool:=b6a x.1 && (decide (0≤x.2.1) && decide (x.2.1≤3)) && (decide (0≤x.2.2.1) && decide (x.2.2.1≤13)) && (decide (1≤x.2.2.2.1) && decide (x.2.2.2.1≤9)) && (decide (0≤x.2.2.2.2) && decide (x.2.2.2.2≤5))
def c59 (x y:TA):Bool:=b2v x.1 y.1
def b6e (l:List TA):Bool:=b11 c3f c59 l 0 && decide ((l.length:Int)≤12)
theorem f3p {l:List TA} (h:b6e l=true):l.length≤12:=by
  simp only [b6e,Bool.and_eq_true,decide_eq_true_eq] at h;omega
theorem b8f (n:Int):Con prog 125 [.int .i64 n] [] (.bool (decide (0≤n) && decide (n≤5))) []:=by
 apply zcn [.tmp 2] [] func125 ntmps125;intro _ _ _;have T:=tq2 Y3 Y4;have F:=Fc.mk True.intro;apply yR [0];apply yRc [2] (b21 _ _ _);apply (zr);exact b0h rfl (by first | rfl | simp) (.inl rfl)
theorem d6r (n:Int):Con prog 183 [.int .i64 n] [] (.bool (decide (0≤n) && decide (n≤5))) []:=by
 apply zcn [.tmp 2] [] func183 ntmps183;intro _ _ _;have T:=tq2 Y3 Y4;have F:=Fc.mk True.intro;apply yR [0];apply yRc [2] (b2p _ _ _);apply (zr);exact b0h rfl (by first | rfl | simp) (.inl rfl)
theorem c6q (n:Int):Con prog 107 [.int .i64 n] [] (.bool (decide (0≤n) && decide (n≤13))) []:=by
 apply zcn [.tmp 2] [] func107 ntmps107;intro _ _ _;have T:=tq2 Y3 Y4;have F:=Fc.mk True.intro;apply yR [0];apply yRc [2] (b21 _ _ _);apply (zr);exact b0h rfl (by first | rfl | simp) (.inl rfl)
section
variable (x0:ByteArray) (x1:Int) (x2:Int) (x3:Int) (x4:Int) (hs:x0.size≤9223372036854775807)
include x0 x1 x2 x3 x4 hs
theorem d08:Con prog 178 [.agg [V.str x0,Zf .i64 x1,Zf .i64 x2,Zf .i64 x3,Zf .i64 x4]] [] (.bool (c3f (x0,x1,x2,x3,x4))) []:=by
 apply zcn [.tmp 2] [] func178 ntmps178;intro _ _ _;have T:=tq4 Y3 Y4 Y9 Y98;have F:=Fc.mk True.intro;apply yR [1];apply b1l [2];intro _ k2;apply (g4b);apply zc (d04 _ hs);apply (zq4);apply (c0e);apply zgc (b21 _ _ _);apply (zq6);apply zgc (c6q _);apply (zq6);apply zgc (b21 _ _ _);apply (zq6);apply zgc (b8f _);apply (c74);apply (b2h);apply k2 _;apply (zq1);exact b0h rfl (by first | rfl | simp [c3f,Bool.and_assoc]) (.inl rfl)
theorem c2d:Con prog 157 [.agg [V.str x0,Zf .i64 x1,Zf .i64 x2,Zf .i64 x3,Zf .i64 x4]] [] (.bool (c3f (x0,x1,x2,x3,x4))) []:=by
 apply zcn [.tmp 2] [] func157 ntmps157;intro _ _ _;have T:=tq4 Y3 Y4 Y9 Y98;have F:=Fc.mk True.intro;apply yR [1];apply b1l [2];intro _ k2;apply (g4b);apply zc (c54 _ hs);apply (zq4);apply (c0e);apply zgc (b2p _ _ _);apply (zq6);apply zgc (b2p _ _ _);apply (zq6);apply zgc (b2p _ _ _);apply (zq6);apply zgc (d6r _);apply (c74);apply (b2h);apply k2 _;apply (zq1);exact b0h rfl (by first | rfl | simp [c3f,Bool.and_assoc]) (.inl rfl)
end
section
variable (fl:List TA) (hl:fl.length≤1048576) (hls:∀t∈fl,t.1.size≤9223372036854775807)
include fl hl hls
theorem c0p:Con prog 145 [sQ rQa fl] [] (.bool (b6e fl)) []:=by
 apply zcn [.tmp 2] [] func145 ntmps145;intro _ _ _;have T:=tq5 Y3 Y4 Y9 Y28 Y98;have F:=Fc.mk True.intro;apply yR [0];apply b0e;intros;apply yR [0,5,6,7];apply b0g;intro _ _ x4 _ _;apply b05 (fun i=>⟨[(0,sQ rQa fl),(5,sQ rQa fl),(6,.int .i64 fl.length),(7,.int .i64 (Nat.cast i))],[],false,34,0⟩) (fun i=>i≤fl.length∧b11 c3f c59 fl i=b11 c3f c59 fl 0) (fun i=>fl.length - i) 0
 ·refine b18 [0,5,6,7] ?_;simp only [b0r,b0k,b0i,b0f,b0n,Nat.reduceEqDiff,reduceIte];rfl
 ·exact ⟨qle _,rfl⟩
 ·rintro i hok5 Q5 n5 e5 r5;obtain ⟨hi1,hR⟩:=hok5;apply yR [0,5,6,7,8];apply b0e;intros;apply b0c _ rfl
  ·intro hc0;have hlt:i < fl.length:=by omega
   obtain ⟨⟨x0,x1,x2,x3,x4⟩,hx⟩:∃x:TA,fl[i]? =some x:=⟨fl[i]'(by omega),qla (by omega)⟩;have hsx:=hls _ (qlb hx);simp only [] at hsx;rcases ql8 i with h0 | h0
   ·skip;have hi0:¬((0:Int) < (i:Int)):=by omega
    have hst:b11 c3f c59 fl i=(c3f (x0,x1,x2,x3,x4) && b11 c3f c59 fl (i+1)):=by subst h0;exact b77 hx
    apply zn [0,5,6,7];apply b0e;intros;apply b0g;intros;have F:=fq4 (gdm hx) hi0 @decide_false @qmo;apply yR [0,3,4,5,6,7];apply b0e;intro _ n12 _ _;apply b1b (by kernel_rfl);intro _ q13 k13;show b13 _ _ _ _ 18 (Zb 18 false) _;refine b08 q13 true 0 12 ?_;apply zoc 1 (d08 x0 x1 x2 x3 x4 hsx);refine zdU q13 true 2 14 ?_;refine zdU q13 true 3 15 ?_;refine b1n q13 true 4 16 ?_;refine b0y q13 true 5 17 ?_;refine b1n q13 true 6 18 ?_;refine b1n q13 true 7 19 ?_;refine b1n q13 true 8 20 ?_;refine b2s q13 true 9 21 ?_;refine b0u q13 true 10 22 ?_;refine b1n q13 true 11 23 ?_;refine b0p q13 true 12 24 ?_;refine b1n q13 true 13 25 ?_;refine b0p q13 true 14 26 ?_;refine b0y q13 true 15 27 ?_;refine b4s q13 true 16 28 ?_;refine b1s q13 true 17 29 ?_;apply b0b (by kernel_rfl);apply k13 _;apply n12 _ _ (b0a [0,5,6,7,29] _);apply (zk);apply b0c _ rfl
    ·intro hc1;apply yR [2];apply (zr);exact b0h rfl (by rw [b6e,←hR,hst];clear hR hst;(try simp at hc1);first | (simp [hc1];done) | (rcases hc1 with h | h<;>simp [h,c59];done) | (simp_all [c59];done)) (.inl rfl)
    ·intro hc1;apply zn [0,5,6,7];apply (yV);apply n5 _ (i+1)
     ·apply b0d [0,5,6,7] [];rfl
     ·exact ⟨by omega,by rw [←hR,hst];clear hR hst;(try simp at hc1);first | (simp [hc1];done) | (simp_all [c59];done)⟩
     ·show _ < _;omega
   ·skip;obtain ⟨⟨y0,y1,y2,y3,y4⟩,hy⟩:∃x:TA,fl[i - 1]? =some x:=⟨fl[i - 1]'(by omega),qla (by omega)⟩;have hi0:(0:Int) < i:=by omega
    have hk:((i:Int) - 1).toNat=i - 1:=by omega
    have hst:=b78 (ok:=c3f) (bf:=c59) h0 hy hx;apply zn [0,5,6,7];apply b0e;intros;apply b0g;intros;have F:=fq6 (gdm hx) hi0 hk (gdm hy) @decide_true @qm0;apply yR [0,3,4,5,6,7];apply b0e;intro _ n20 _ _;apply b1b (by kernel_rfl);intro _ q21 k21;show b13 _ _ _ _ 18 (Zb 18 false) _;refine b08 q21 true 0 12 ?_;apply zoc 1 (d08 x0 x1 x2 x3 x4 hsx);refine zdU q21 true 2 14 ?_;refine zdU q21 true 3 15 ?_;refine b1n q21 true 4 16 ?_;refine b0y q21 true 5 17 ?_;refine b1n q21 true 6 18 ?_;refine b1n q21 true 7 19 ?_;refine b1n q21 true 8 20 ?_;refine b2s q21 true 9 21 ?_;refine b0u q21 true 10 22 ?_;refine b1n q21 true 11 23 ?_;refine b0p q21 true 12 24 ?_;refine b1n q21 true 13 25 ?_;refine b0p q21 true 14 26 ?_;refine b0y q21 true 15 27 ?_;refine b4s q21 true 16 28 ?_;refine b1s q21 true 17 29 ?_;apply b0b (by kernel_rfl);apply k21 _;apply n20 _ _ (b0a [0,5,6,7,29] _);apply (zk);apply b0c _ rfl
    ·intro hc1;apply yR [2];apply (zr);exact b0h rfl (by rw [b6e,←hR,hst];clear hR hst;(try simp at hc1);first | (simp [hc1];done) | (rcases hc1 with h | h<;>simp [h,c59];done) | (simp_all [c59];done)) (.inl rfl)
    ·intro hc1;apply zn [0,5,6,7];apply (yV);apply n5 _ (i+1)
     ·apply b0d [0,5,6,7] [];rfl
     ·exact ⟨by omega,by rw [←hR,hst];clear hR hst;(try simp at hc1);first | (simp [hc1];done) | (simp_all [c59];done)⟩
     ·show _ < _;omega
  ·intro hc0;apply zn [0];apply yR [2];apply (zr);exact b0h rfl (by rw [b6e,←hR,b9u (by omega)];simp) (.inl rfl)
theorem c0x:Con prog 130 [sQ rQa fl] [] (.bool (b6e fl)) []:=by
 apply zcn [.tmp 2] [] func130 ntmps130;intro _ _ _;have T:=tq5 Y3 Y4 Y9 Y28 Y98;have F:=Fc.mk True.intro;apply yR [0];apply b0e;intros;apply yR [0,5,6,7];apply b0g;intro _ _ x4 _ _;apply b05 (fun i=>⟨[(0,sQ rQa fl),(5,sQ rQa fl),(6,.int .i64 fl.length),(7,.int .i64 (Nat.cast i))],[],false,34,0⟩) (fun i=>i≤fl.length∧b11 c3f c59 fl i=b11 c3f c59 fl 0) (fun i=>fl.length - i) 0
 ·refine b18 [0,5,6,7] ?_;simp only [b0r,b0k,b0i,b0f,b0n,Nat.reduceEqDiff,reduceIte];rfl
 ·exact ⟨qle _,rfl⟩
 ·rintro i hok5 Q5 n5 e5 r5;obtain ⟨hi1,hR⟩:=hok5;apply yR [0,5,6,7,8];apply b0e;intros;apply b0c _ rfl
  ·intro hc0;have hlt:i < fl.length:=by omega
   obtain ⟨⟨x0,x1,x2,x3,x4⟩,hx⟩:∃x:TA,fl[i]? =some x:=⟨fl[i]'(by omega),qla (by omega)⟩;have hsx:=hls _ (qlb hx);simp only [] at hsx;rcases ql8 i with h0 | h0
   ·skip;have hi0:¬((0:Int) < (i:Int)):=by omega
    have hst:b11 c3f c59 fl i=(c3f (x0,x1,x2,x3,x4) && b11 c3f c59 fl (i+1)):=by subst h0;exact b77 hx
    apply zn [0,5,6,7];apply b0e;intros;apply b0g;intros;have F:=fq4 (gdm hx) hi0 @decide_false @qmo;apply yR [0,3,4,5,6,7];apply b0e;intro _ n12 _ _;apply b1b (by kernel_rfl);intro _ q13 k13;show b13 _ _ _ _ 18 (Zb 18 false) _;refine b08 q13 true 0 12 ?_;apply zoc 1 (c2d x0 x1 x2 x3 x4 hsx);refine zdU q13 true 2 14 ?_;refine zdU q13 true 3 15 ?_;refine b1n q13 true 4 16 ?_;refine b0y q13 true 5 17 ?_;refine b1n q13 true 6 18 ?_;refine b1n q13 true 7 19 ?_;refine b1n q13 true 8 20 ?_;refine b2s q13 true 9 21 ?_;refine b0u q13 true 10 22 ?_;refine b1n q13 true 11 23 ?_;refine b0p q13 true 12 24 ?_;refine b1n q13 true 13 25 ?_;refine b0p q13 true 14 26 ?_;refine b0y q13 true 15 27 ?_;refine b4s q13 true 16 28 ?_;refine b1s q13 true 17 29 ?_;apply b0b (by kernel_rfl);apply k13 _;apply n12 _ _ (b0a [0,5,6,7,29] _);apply (zk);apply b0c _ rfl
    ·intro hc1;apply yR [2];apply (zr);exact b0h rfl (by rw [b6e,←hR,hst];clear hR hst;(try simp at hc1);first | (simp [hc1];done) | (rcases hc1 with h | h<;>simp [h,c59];done) | (simp_all [c59];done)) (.inl rfl)
    ·intro hc1;apply zn [0,5,6,7];apply (yV);apply n5 _ (i+1)
     ·apply b0d [0,5,6,7] [];rfl
     ·exact ⟨by omega,by rw [←hR,hst];clear hR hst;(try simp at hc1);first | (simp [hc1];done) | (simp_all [c59];done)⟩
     ·show _ < _;omega
   ·skip;obtain ⟨⟨y0,y1,y2,y3,y4⟩,hy⟩:∃x:TA,fl[i - 1]? =some x:=⟨fl[i - 1]'(by omega),qla (by omega)⟩;have hi0:(0:Int) < i:=by omega
    have hk:((i:Int) - 1).toNat=i - 1:=by omega
    have hst:=b78 (ok:=c3f) (bf:=c59) h0 hy hx;apply zn [0,5,6,7];apply b0e;intros;apply b0g;intros;have F:=fq6 (gdm hx) hi0 hk (gdm hy) @decide_true @qm0;apply yR [0,3,4,5,6,7];apply b0e;intro _ n20 _ _;apply b1b (by kernel_rfl);intro _ q21 k21;show b13 _ _ _ _ 18 (Zb 18 false) _;refine b08 q21 true 0 12 ?_;apply zoc 1 (c2d x0 x1 x2 x3 x4 hsx);refine zdU q21 true 2 14 ?_;refine zdU q21 true 3 15 ?_;refine b1n q21 true 4 16 ?_;refine b0y q21 true 5 17 ?_;refine b1n q21 true 6 18 ?_;refine b1n q21 true 7 19 ?_;refine b1n q21 true 8 20 ?_;refine b2s q21 true 9 21 ?_;refine b0u q21 true 10 22 ?_;refine b1n q21 true 11 23 ?_;refine b0p q21 true 12 24 ?_;refine b1n q21 true 13 25 ?_;refine b0p q21 true 14 26 ?_;refine b0y q21 true 15 27 ?_;refine b4s q21 true 16 28 ?_;refine b1s q21 true 17 29 ?_;apply b0b (by kernel_rfl);apply k21 _;apply n20 _ _ (b0a [0,5,6,7,29] _);apply (zk);apply b0c _ rfl
    ·intro hc1;apply yR [2];apply (zr);exact b0h rfl (by rw [b6e,←hR,hst];clear hR hst;(try simp at hc1);first | (simp [hc1];done) | (rcases hc1 with h | h<;>simp [h,c59];done) | (simp_all [c59];done)) (.inl rfl)
    ·intro hc1;apply zn [0,5,6,7];apply (yV);apply n5 _ (i+1)
     ·apply b0d [0,5,6,7] [];rfl
     ·exact ⟨by omega,by rw [←hR,hst];clear hR hst;(try simp at hc1);first | (simp [hc1];done) | (simp_all [c59];done)⟩
     ·show _ < _;omega
  ·intro hc0;apply zn [0];apply yR [2];apply (zr);exact b0h rfl (by rw [b6e,←hR,b9u (by omega)];simp) (.inl rfl)
end
end Go.Proofs.YtmbbjhopngejaaaGreat
