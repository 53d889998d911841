/- What functions compute. No condition. -/
import Derived.Test.YtmbbjhopngejaaaGreatX22
set_option linter.all false
open List renaming not_mem_nil → Za, mem_cons → Zb, getElem?_eq_some_iff → Zd
open Go.Vm.V renaming int → Zc, onlyL → Zf, renL → Zh, only → Zi
open Go.Vm.Blk renaming box → Ze, arr → Zg
namespace Go.Proofs.YtmbbjhopngejaaaGreat
open Go Go.Vm Tryz
set_option maxHeartbeats 8000000
set_option maxRecDepth 8000 in
theorem c7l (code:List Int) (a s:Int) (hcode:∀x∈code,0≤x∧x≤255) (hcl:code.length≤9223372036854775807) (ha:0≤a∧a < 16000000000):b76 prog 76 [.ptr 0 0 0] [cQ code a s] (fun r O'=>∃(l:List Int) (a' s':Int),(3≤l.length∧l.length≤4)∧(a≤a'∧a'≤a+20)∧r=.ref 1∧O'=[cQ code a' s',.arr (l.map (Zc .i64)) .flat]):=by
 apply zcx [.tmp 2] [(75,[0,1]),(70,[0]),(73,[0])] func76 ntmps76;intro _ _ _;have T:=tq7 Y3 Y5 Y22 Y41 Y60 Y61 Y63;have F:=Fc.mk True.intro;apply yR [0];apply b1l [0,3];intro _ k2;apply (zq7);apply zxt (b16 code a s [1,1,2,3,6] (by simp) hcode hcl (by omega));rintro _ _ ⟨v6,a6,s6,h6,k6,rfl,rfl⟩;apply (zEt);simp only [Zb,Za,or_false] at h6;apply (zU);apply zxl (b1t code a6 s6 (2) hcode hcl (by omega));rintro _ _ ⟨v8,a8,s8,h8,k8,rfl,rfl⟩;apply (zEl);apply (zU);apply zxl (b1t code a8 s8 (2) hcode hcl (by omega));rintro _ _ ⟨v10,a10,s10,h10,k10,rfl,rfl⟩;apply (zEl);apply (zq7);apply zxt (b16 code a10 s10 [0,0,1,2] (by simp) hcode hcl (by omega));rintro _ _ ⟨v13,a13,s13,h13,k13,rfl,rfl⟩;apply (zEt);simp only [Zb,Za,or_false] at h13;apply (b2c);apply (b2h);apply k2 _;apply (zk);apply b0e;intro _ n3 _ _;apply b1l [0,3,16];intro _ k4;apply (zU);apply zxl (b1t code a13 s13 (60) hcode hcl (by omega));rintro _ _ ⟨v16,a16,s16,h16,k16,rfl,rfl⟩;apply (zEl);apply k4 _;apply (zk);apply b0g;intro _ n5 _ _ _;apply yR [0,3,16,17];apply b0c _ rfl
 ·intro hc0;apply b2u;intro _ k8;apply (zq2);apply zxl (b1t code a16 s16 (4) hcode hcl (by omega));rintro _ _ ⟨v21,a21,s21,h21,k21,rfl,rfl⟩;obtain ⟨y,hy⟩:∃y,([v6,v8,v10,v13]:List Int)[v21.toNat]? =some y:=⟨_,qla (by simp;omega)⟩;have hy2:([Zc .i64 v6,Zc .i64 v8,Zc .i64 v10,Zc .i64 v13]:List V).getD v21.toNat .any=Zc .i64 y:=by
   have q:=b3u (f:=Zc .i64) hy;simpa only [List.map_cons,List.map_nil] using q
  apply (zEl);have F:=Fc.mk hy2;apply (zq7);apply zxt (b16 code a21 s21 [-1,7] (by simp) hcode hcl (by omega));rintro _ _ ⟨v24,a24,s24,h24,k24,rfl,rfl⟩;apply (zEt);simp only [Zb,Za,or_false] at h24;apply (b8e);apply (b55);apply k8 _;apply n5 _;apply n3 _ _ (b0a [3] _);apply (zk);apply yR [2];apply (zr);refine b1g ?_;exact ⟨[v6,v8,v10,v13].set v21.toNat v24,a24,s24,by simp,by omega,rfl,by first | rfl | (rw [qmx];rfl)⟩
 ·intro hc0;apply yR [3,26];apply b0c _ rfl
  ·intro hc1;have hl4:([Zc .i64 v6,Zc .i64 v8,Zc .i64 v10,Zc .i64 v13]:List V).length=4:=rfl;apply b0e;intro _ n12 _ _;apply b2u;intro _ k13;have F:=Fc.mk hl4;apply (zU);apply b5y;intro K k;simp only [zE,zL,zN,b0x,b0s,b0j,Nat.reduceEqDiff,reduceIte,Nat.reduceLT,implies_true,forall_const,reduceCtorEq,V.ofValue,V.ofScalar,V.un,V.gd,b1c,aop,List.set_cons_zero,List.set_cons_succ,b82,forall_eq',c09,b9n,Option.map_none,Option.isNone_none,b1k,Blk.row,TypeDesc.slice.injEq,List.forall_mem_map,List.length_map,Go.Vm.V.cells,Int.toNat_natCast,Int.reduceToNat,←List.map_take,←List.map_drop,List.take_length,Nat.reduceAdd,Nat.reduceLeDiff,Nat.reduceMul,underlying3,Ty.c3,Ty.a3,underlying41,Ty.c41,Ty.a41,hl4];repeat (refine ai (by first | omega | (simp;done) | (intro x hx;simp at hx;rcases hx with rfl | rfl | rfl | rfl<;>rfl)) ?_)
   apply k _;clear k K;apply (b2h);apply k13 _;apply n12
   ·apply b0m (b0a [2] _);simp only [b0r,b0k,b0i,b0f,b0n,Nat.reduceEqDiff,reduceIte];exact b0m (f4n 4 _ rfl) (b0m (c7c 4 3 2 _ (by simp) rfl (by decide) rfl rfl) (g3k 5 _ rfl rfl))
   try simp only [b04,b09,Nat.reduceEqDiff,reduceIte,List.set_cons_zero,List.set_cons_succ]
   apply (zr);refine b1g ?_;exact ⟨[v6,v8,v10],_,_,by simp,by omega,rfl,rfl⟩
  ·intro hc1;apply zn [3];apply yR [2];apply (zr);refine b1g ?_;exact ⟨[v6,v8,v10,v13],_,_,by simp,by omega,rfl,rfl⟩
set_option maxRecDepth 8000 in
theorem d9r (code:List Int) (a s:Int) (n:Int) (ss:List TS) (hcode:∀x∈code,0≤x∧x≤255) (hcl:code.length≤9223372036854775807) (ha:0≤a∧a < 16000000000):b76 prog 29 [.ptr 0 0 0,tQ n ss] [cQ code a s] (fun r O'=>∃(v:Int) (a' s':Int),(True)∧(a≤a'∧a'≤a+20)∧r=.int .i64 v∧O'=[cQ code a' s']):=by
 obtain ⟨lo,hlo⟩:∃lo,lo=if n < 14 then n else 14:=⟨_,rfl⟩;obtain ⟨hi,hhi⟩:∃hi,hi=if lo > 1 then lo else 1:=⟨_,rfl⟩;have c1:=c3v 14 n;have c2:=c53 1 lo;rw [←hlo] at c1;rw [←hhi] at c2;have hib:1≤hi∧hi≤14:=by constructor<;>(rw [hhi,hlo];split<;>(try split)<;>omega)
 apply zcx [.tmp 4] [(75,[0,1]),(70,[0]),(73,[0])] func29 ntmps29;intro _ _ _;have T:=g1m Y3 Y5 Y22 Y24 Y26 Y41 Y60 Y61 Y63 b7w;have F:=Fc.mk True.intro;apply yR [0,3];apply g2c [0,5] (c1) (c2);apply b1l [4];intro _ k3;apply (zq2);apply (b46);apply (zq2);apply zxl (b1t code a s (hi) hcode hcl (by omega));rintro _ _ ⟨v15,a15,s15,h15,k15,rfl,rfl⟩;apply (g0l);apply zxl (b1t code a15 s15 (hi) hcode hcl (by omega));rintro _ _ ⟨v18,a18,s18,h18,k18,rfl,rfl⟩;apply (g0l);apply zxl (b1t code a18 s18 (hi) hcode hcl (by omega));rintro _ _ ⟨v21,a21,s21,h21,k21,rfl,rfl⟩;apply (g0l);apply zxl (b1t code a21 s21 (hi) hcode hcl (by omega));rintro _ _ ⟨v24,a24,s24,h24,k24,rfl,rfl⟩;apply (g0l);apply zxl (b1t code a24 s24 (hi) hcode hcl (by omega));rintro _ _ ⟨v27,a27,s27,h27,k27,rfl,rfl⟩;apply (g0l);apply (b2c);apply zxt (b16 code a27 s27 [-1,hi] (by simp) hcode hcl (by omega));rintro _ _ ⟨v31,a31,s31,h31,k31,rfl,rfl⟩;apply (zEt);simp only [Zb,Za,or_false] at h31;apply (b2c);apply zxt (b16 code a31 s31 [0,hi - 1,v15,v18,v21,v24,v27,v31] (by simp) hcode hcl (by omega));rintro _ _ ⟨v33,a33,s33,h33,k33,rfl,rfl⟩;apply (zEt);simp only [Zb,Za,or_false] at h33;apply (b2h);apply k3 _;apply (zq1);refine b1g ?_;exact ⟨_,_,_,trivial,by omega,rfl,rfl⟩
set_option maxRecDepth 8000 in
theorem d1n (code:List Int) (a s:Int) (l:List TA) (hl:l.length≤1048576) (hsz:∀x∈l,x.1.size≤9) (hcode:∀x∈code,0≤x∧x≤255) (hcl:code.length≤9223372036854775807) (ha:0≤a∧a < 16000000000):b76 prog 80 [.ptr 0 0 0,sQ rQa l] [cQ code a s] (fun r O'=>∃(v:ByteArray) (a' s':Int),(v.size≤9)∧(a≤a'∧a'≤a+6)∧r=.str v∧O'=[cQ code a' s']):=by
 apply zcx [.tmp 4] [(75,[0,1]),(70,[0]),(73,[0]),(127,[0,1])] func80 ntmps80;intro _ n0 _;have T:=g5u Y3 Y4 Y5 Y9 Y22 Y28 Y48 Y60 Y61 Y63 Y98;have F:=Fc.mk True.intro;rcases ql8 l.length with hl0 | hl0
 ·skip;have hdl:decide ((l.length:Int) > 0)=false:=decide_eq_false (by omega);have F:=Fc.mk hdl;apply yR [0,1];apply b0e;intro _ n2 _ _;apply b1l [0,1,12];intro _ k3;apply (g5s);apply (g0e);apply (zPs);apply (f1j);apply k3 _;apply (zk);apply b2a _ rfl
  ·intro hc0;exfalso;simp at hc0
  ·intro hc0;try simp only [zC,reduceCtorEq] at hc0
   apply zn [0];apply b1l [4];intro _ k5;apply (zq7);apply zxt (f4k code a s [(⟨#[112,49]⟩:ByteArray),(⟨#[120,57]⟩:ByteArray),.empty] (by simp) hcode hcl (by omega));rintro _ _ ⟨v23,a23,s23,h23,k23,rfl,rfl⟩;have hz23:v23.size≤9:=by
    simp only [Zb,Za,or_false] at h23;rcases h23 with e | e | e<;>(rw [e];decide)
   apply (zEt);apply (b2h);apply k5 _;apply (zq1);refine b1g ?_;exact ⟨_,_,_,hz23,by omega,rfl,rfl⟩
 ·skip;have hdl:decide ((l.length:Int) > 0)=true:=decide_eq_true (by omega);have F:=Fc.mk hdl;apply yR [0,1];apply b0e;intros;apply b1l [0,1,12];intro _ k8;apply (g5s);apply (g0e);apply zgx (b7p code a s (10) hcode hcl (by omega)) (⟨_,true,a,s,trivial,by omega,rfl,rfl⟩);rintro _ _ ⟨v10,a10,s10,h10,k10,rfl,rfl⟩;apply (zEg);apply (f1j);apply k8 _;apply (zk);apply b0c _ rfl
  ·intro hc0;apply b1l [4];intro _ k10;apply (zq8);apply (g4m);apply zxl (b1t code a10 s10 ((l.length:Int)) hcode hcl (by omega));rintro _ _ ⟨v17,a17,s17,h17,k17,rfl,rfl⟩;obtain ⟨⟨n0,n1,n2,n3,n4⟩,hx⟩:∃x,l[v17.toNat]? =some x:=⟨l[v17.toNat]'(by omega),qla (by omega)⟩;have hz20:n0.size≤9:=hsz _ (qlb hx);apply (zEl);have F:=fq2 hdl (gdm hx);apply (b8e);apply (g4b);apply (b2h);apply k10 _;apply (zq1);refine b1g ?_;exact ⟨_,_,_,hz20,by omega,rfl,rfl⟩
  ·intro hc0;apply zn [0];apply b1l [4];intro _ k11;apply (zq7);apply zxt (f4k code a10 s10 [(⟨#[112,49]⟩:ByteArray),(⟨#[120,57]⟩:ByteArray),.empty] (by simp) hcode hcl (by omega));rintro _ _ ⟨v23,a23,s23,h23,k23,rfl,rfl⟩;have hz23:v23.size≤9:=by
    simp only [Zb,Za,or_false] at h23;rcases h23 with e | e | e<;>(rw [e];decide)
   apply (zEt);apply (b2h);apply k11 _;apply (zq1);refine b1g ?_;exact ⟨_,_,_,hz23,by omega,rfl,rfl⟩
theorem d6w {a:List TS} {x0:Int} {x1:Int} {x2:Int}:a.map rQd++[V.agg [Zc .i64 x0,Zc .i64 x1,Zc .i64 x2]]=(a++[(x0,x1,x2)]).map rQd:=by simp
set_option maxRecDepth 8000 in
theorem d6q (code:List Int) (a s:Int) (hcode:∀x∈code,0≤x∧x≤255) (hcl:code.length≤9223372036854775807) (ha:0≤a∧a < 14000000000):b76 prog 74 [.ptr 0 0 0] [cQ code a s] (fun r O'=>∃(n:Int) (l:List TS) (a' s':Int),(l.length≤302)∧(a≤a'∧a'≤a+40000)∧r=.agg [.int .i64 n,.ref 1]∧O'=[cQ code a' s',aQ rQd l]):=by
 apply zcx [.cell 2 26] [(75,[0,1]),(70,[0]),(73,[0]),(67,[0])] func74 ntmps74;intro _ _ _;have T:=g1m Y3 Y5 Y22 Y24 Y26 Y41 Y60 Y61 Y63 b7w;have F:=Fc.mk True.intro;apply yR [0,2];apply b1l [0,2,3];intro _ k2;apply (zU);apply zxl (d8w code a s hcode hcl (by omega));rintro _ _ ⟨n7,l7,a7,s7,h7,k7,rfl,rfl⟩;apply (zEl);apply (g5x);apply k2 _;apply (zk);apply b4r (A:=Int×List TS×Int×Int) (fun p=>⟨[(2,.ptr 2 0 0),(3,.ptr 3 0 0)],[cQ code p.2.2.1 p.2.2.2,eQ,.box (.agg [.int .i64 0,.ref 1]) .mix,.box (.agg [.int .i64 p.1,.ref 4]) .mix,aQ rQd p.2.1],false,64,0⟩) (fun p=>p.2.1.length≤302∧a≤p.2.2.1∧p.2.2.1≤a+39000)
 ·intro _ n3 _ _;apply b1l [0,2,3,9];intro _ k4;apply (zU);apply zxl (b1t code a7 s7 (30) hcode hcl (by omega));rintro _ _ ⟨v9,a9,s9,h9,k9,rfl,rfl⟩;apply (zEl);apply k4 _;apply (zk);apply b0g;intro _ n5 _ _ _;apply yR [0,2,3,9,10];apply b0c _ rfl
  ·intro hc0;apply b2u;intro _ k8;apply (zq7);apply zxt (b16 code a9 s9 [0,-1,15,4611686018427387904] (by simp) hcode hcl (by omega));rintro _ _ ⟨v14,a14,s14,h14,k14,rfl,rfl⟩;apply (zEt);simp only [Zb,Za,or_false] at h14;apply (f7s);apply k8 _;apply n5 _;apply n3 (v14,l7,a14,s14) _
   ·exact ⟨by show l7.length≤302;omega,by show a≤a14∧a14≤a+39000;omega⟩
   ·exact b0t [2,3] [0,1,2,5,3]
  ·intro hc0;apply yR [0,2,3,9,16];apply b0c _ rfl
   ·intro hc1;apply c6a 15 (fun a s:Int=>cQ code a s) 4 [0,1,2,3,4,5,6,7,8,9,10,11] [0,2,3] [[18],[19],[20],[21],[22],[23],[24],[25],[26],[27],[28],[29],[],[],[]] (fun O g=>g 0=.ptr 0 0 0∧g 2=.ptr 2 0 0∧g 3=.ptr 5 0 0∧(1≠0∧O[1]? =some (eQ))∧(2≠0∧O[2]? =some (Ze (.agg [.int .i64 0,.ref 1]) .mix))∧(3≠0∧O[3]? =some (Zg (l7.map rQd) .flat))∧(4≠0∧O[4]? =some (eQ))∧(5≠0∧O[5]? =some (Ze (.agg [.int .i64 n7,.ref 3]) .mix))) [fun O g=>g 18=.ptr 5 0 1,fun O g=>g 19=.ref 3,fun O g=>g 20=.ptr 0 0 0,fun O g=>∃x:Int,g 21=Zc .i64 x,fun O g=>∃x:Int,g 22=Zc .i64 x,fun O g=>g 23=.ptr 0 0 0,fun O g=>∃x:Int,g 24=Zc .i64 x,fun O g=>g 25=.ptr 0 0 0,fun O g=>∃x:Nat×List Int,g 26=.ref x.1∧(x.1≠0∧O[x.1]? =some (Zg (x.2.map (Zc .i64)) .flat))∧(6≤x.1∧0 < x.2.length∧x.2.length≤1048576),fun O g=>∃x:Int,g 27=Zc .i64 x,fun O g=>∃x:TS,g 28=.agg [Zc .i64 x.1,Zc .i64 x.2.1,Zc .i64 x.2.2],fun O g=>∃x:Nat×Int×Int×Int,g 29=.ref x.1∧(x.1≠0∧O[x.1]? =some (Zg [.agg [.int .i64 x.2.1,.int .i64 x.2.2.1,.int .i64 x.2.2.2]] .flat))∧(6≤x.1),b9r,b9r,b9r] rfl tyk g4k
    ·exact ⟨rfl,rfl,rfl,⟨by decide,rfl⟩,⟨by decide,rfl⟩,⟨by decide,rfl⟩,⟨by decide,rfl⟩,⟨by decide,rfl⟩⟩
    ·refine b0o 15 ?_ (b0o 15 ?_ (b0o 15 ?_ (b0o 15 ?_ (b0o 15 ?_ (b0o 15 ?_ (b0o 15 ?_ (b0o 15 ?_ (b0o 15 ?_ (b0o 15 ?_ (b0o 15 ?_ (b0o 15 ?_ b9l)))))))))))
     ·intro ee OO mm aa ss hc ha h0 hd;have F:=fq2 h0.1 h0.2;apply (zsU);exact b17 hc (by decide) rfl
     ·intro ee OO mm aa ss hc ha h0 hd;have e18_0:Vm.look 18 ee=.ptr 5 0 1:=hd 0 rfl;have F:=fq3 h0.1 h0.2 e18_0;apply (b3y);exact b17 hc (by decide) rfl
     ·intro ee OO mm aa ss hc ha h0 hd;have F:=fq2 h0.1 h0.2;apply (zsU);exact b17 hc (by decide) rfl
     ·intro ee OO mm aa ss hc ha h0 hd;have e20_0:Vm.look 20 ee=.ptr 0 0 0:=hd 2 rfl;have F:=Fc.mk e20_0;apply d6g (b1t code aa ss (3) hcode hcl (by omega));rintro _ _ ⟨v,a2,s2,hq,hk,rfl,rfl⟩;apply (zEl);exact c6k hc (by omega) ⟨v,rfl⟩
     ·intro ee OO mm aa ss hc ha h0 hd;obtain ⟨x21,e21_0⟩:=hd 3 rfl;have F:=Fc.mk e21_0;apply (c3u);exact b17 hc (by decide) ⟨_,rfl⟩
     ·intro ee OO mm aa ss hc ha h0 hd;have F:=fq2 h0.1 h0.2;apply (zsU);exact b17 hc (by decide) rfl
     ·intro ee OO mm aa ss hc ha h0 hd;have e23_0:Vm.look 23 ee=.ptr 0 0 0:=hd 5 rfl;have F:=Fc.mk e23_0;apply d6g (b1t code aa ss (4) hcode hcl (by omega));rintro _ _ ⟨v,a2,s2,hq,hk,rfl,rfl⟩;apply (zEl);exact c6k hc (by omega) ⟨v,rfl⟩
     ·intro ee OO mm aa ss hc ha h0 hd;have F:=fq2 h0.1 h0.2;apply (zsU);exact b17 hc (by decide) rfl
     ·intro ee OO mm aa ss hc ha h0 hd;have hlen:=b4x h0.2.2.2.2.2.2.2.2;have F:=Fc.mk True.intro;apply (b03);exact c1b hc (by decide) ⟨⟨_,[60,0,3601]⟩,rfl,⟨by omega,by simp⟩,by simp;omega⟩
     ·intro ee OO mm aa ss hc ha h0 hd;have e25_0:Vm.look 25 ee=.ptr 0 0 0:=hd 7 rfl;obtain ⟨⟨k26,l26⟩,e26_0,⟨n26_0,b26_0⟩,q26⟩:=hd 8 rfl;have F:=fq4 e25_0 e26_0 b26_0 (d9m (Ne.symm n26_0));apply g1n (b16 code aa ss l26 q26.2 hcode hcl (by omega));rintro _ _ ⟨v,a2,s2,hq,hk,rfl,rfl⟩;apply (zEt);exact f6f hc b26_0 n26_0 (by omega) ⟨v,rfl⟩
     ·intro ee OO mm aa ss hc ha h0 hd;obtain ⟨x22,e22_0⟩:=hd 4 rfl;obtain ⟨x24,e24_0⟩:=hd 6 rfl;obtain ⟨x27,e27_0⟩:=hd 9 rfl;have F:=fq3 e22_0 e24_0 e27_0;apply (c6u);exact b17 hc (by decide) ⟨⟨_,_,_⟩,rfl⟩
     ·intro ee OO mm aa ss hc ha h0 hd;obtain ⟨x28,e28_0⟩:=hd 10 rfl;have hlen:=b4x h0.2.2.2.2.2.2.2.2;have F:=Fc.mk e28_0;apply (b03);exact c1b hc (by decide) ⟨⟨_,x28.1,x28.2.1,x28.2.2⟩,rfl,⟨by omega,by simp⟩,by omega⟩
    ·intro _ q11 k11 ee OO mm a11 s11 hc _ h0 hd;obtain ⟨e0_0,e0_1,e0_2,⟨n0_0,b0_0⟩,⟨n0_1,b0_1⟩,⟨n0_2,b0_2⟩,⟨n0_3,b0_3⟩,⟨n0_4,b0_4⟩⟩:=h0;have e19_0:Vm.look 19 ee=.ref 3:=hd 1 rfl;obtain ⟨⟨k29,y1,y2,y3⟩,e29_0,⟨n29_0,b29_0⟩,q29⟩:=hd 11 rfl;have hk3:3≠k29:=by omega
     have hl6:5 < OO.length:=b4x b0_4;have hb5:∀nw:List Blk,(OO.set 3 Blk.dead++nw)[5]? =some (Ze (.agg [.int .i64 n7,.ref 3]) .mix):=fun nw=>by rw [qls (by rw [qlr];omega),qld (by decide)];exact b0_4
     have F:=fqa (g0a e0_0 e0_1 e0_2 b0_0 b0_1 b0_2 b0_3 b0_4 e19_0 e29_0 b29_0) (fq2 hc hb5);show b13 _ _ _ _ 3 #[true,true,true,true,true,true,true,true,true,true,true,true,false,false,false] _;apply b0l 12;refine zdU q11 true 13 31 ?_;apply b06 14;apply b0b (by kernel_rfl);apply k11 _;apply n5 _;apply n3 (n7,l7++[(y1,y2,y3)],a11,s11) _
     ·exact ⟨by show (l7++_).length≤302;simp;omega,by show a≤a11∧a11≤a+39000;omega⟩
     ·exact b5r _ _ [0,1,2,5,OO.length] (by simp;omega) (by simp) rfl (by simp [b0f,V.ren,Zh,‹Fc _›.h]) (by simp) (by simp [Zi,Zf]) (by simp [b9m,Blk.renM,b1h,b1i,b1r,V.ren,Zh,‹Fc _›.h,List.getElem?_set,List.getElem?_append,hl6,show 0 < OO.length by omega,show 1 < OO.length by omega,show 2 < OO.length by omega,show ¬5=OO.length by omega,(Zd.1 hc).2,(Zd.1 b0_0).2,(Zd.1 b0_1).2]) (by simp [Blk.onlyM,b1h,b1i,b1r,Zi,Zf])
    all_goals first | exact (0:Int) | exact fun _ _=>.dead
   ·intro hc1;apply yR [0,2,3,32];apply b0c _ rfl
    ·intro hc2;apply yR [0,2,3];apply yR [0,2,3];apply yR [0,2,3,4];apply b0g;intros;apply b05 (fun p=>⟨[(0,.ptr 0 0 0),(2,.ptr 2 0 0),(3,.ptr 3 0 0),(4,.int .i64 p.2.1)],[cQ code p.2.2.1 p.2.2.2,eQ,.box (.agg [.int .i64 0,.ref 1]) .mix,.box (.agg [.int .i64 14,.ref 4]) .mix,aQ rQd p.1],false,64,0⟩) (fun p=>(p.1.length:Int)≤14 * p.2.1∧(0≤p.2.1∧p.2.1≤4)∧a9≤p.2.2.1∧p.2.2.1≤a9+1000 * p.2.1) (fun p=>(4 - p.2.1).toNat) ([],0,a9,s9)
     ·exact b0t [0,2,3,4] [0,1,2,5,6]
     ·exact ⟨by simp,by simp,by simp⟩
     ·rintro ⟨l1,m,a3,s3⟩ hok18 Q18 n18 e18 r18;obtain ⟨hll,hm,ha3⟩:=hok18;simp only [] at hll hm ha3⊢;apply b0e;intros;apply yR [0,2,3,4,37];apply b0c _ rfl
      ·intro hc3;apply zn [0,2,3,4];apply b0e;intros;apply b0g;intros;apply yR [0,2,3,4,5];apply b0g;intros;apply b05 (fun p=>⟨[(0,.ptr 0 0 0),(2,.ptr 2 0 0),(3,.ptr 3 0 0),(4,.int .i64 m),(5,.int .i64 p.2.1)],[cQ code p.2.2.1 p.2.2.2,eQ,.box (.agg [.int .i64 0,.ref 1]) .mix,.box (.agg [.int .i64 14,.ref 4]) .mix,aQ rQd p.1],false,64,0⟩) (fun p=>(p.1.length:Int)≤14 * m+(p.2.1 - 1)∧(1≤p.2.1∧p.2.1≤14)∧a3≤p.2.2.1∧p.2.2.1≤a3+60 * p.2.1) (fun p=>(14 - p.2.1).toNat) (l1,m+1,a3,s3)
       ·exact b0t [0,2,3,4,5] [0,1,2,3,4]
       ·exact ⟨by simp;omega,by simp;omega,by simp;omega⟩
       ·rintro ⟨l2,b,a4,s4⟩ hok26 Q26 n26 e26 r26;obtain ⟨hl2,hb,ha4⟩:=hok26;simp only [] at hl2 hb ha4⊢;rcases Int.lt_or_le b 14 with hbl | hbl
        ·skip;have hdb:decide (b < 14)=true:=decide_eq_true hbl;apply b0e;intros;apply b4r (A:=Bool×Int×Int) (fun p=>⟨[(0,.ptr 0 0 0),(2,.ptr 2 0 0),(3,.ptr 3 0 0),(4,.int .i64 m),(5,.int .i64 b),(52,.bool p.1)],[cQ code p.2.1 p.2.2,eQ,.box (.agg [.int .i64 0,.ref 1]) .mix,.box (.agg [.int .i64 14,.ref 4]) .mix,aQ rQd l2],false,64,0⟩) (fun p=>a4≤p.2.1∧p.2.1≤a4+44)
         ·intro _ n28 _ _;apply c6a 11 (fun a s:Int=>cQ code a s) 4 [0,1,2,3,4,5,6,7,8,9] [0,2,3,4,5] [[42],[43],[44],[45],[46],[47],[48],[49],[50],[51],[]] (fun O g=>g 0=.ptr 0 0 0∧g 2=.ptr 2 0 0∧g 3=.ptr 3 0 0∧g 4=.int .i64 m∧g 5=.int .i64 b∧(1≠0∧O[1]? =some (eQ))∧(2≠0∧O[2]? =some (Ze (.agg [.int .i64 0,.ref 1]) .mix))∧(3≠0∧O[3]? =some (Ze (.agg [.int .i64 14,.ref 4]) .mix))∧(4≠0∧O[4]? =some (Zg (l2.map rQd) .flat))) [fun O g=>g 42=.int .i64 b,fun O g=>g 43=.bool true,fun O g=>g 44=.bool true,fun O g=>g 45=.opt true (.ptr 3 0 1),fun O g=>g 46=.opt true (.ref 4),fun O g=>g 47=.opt true (.int .i64 (l2.length:Int)),fun O g=>g 48=.opt true (.ptr 0 0 0),fun O g=>∃x:Int,g 49=.opt true (Zc .i64 x),fun O g=>∃x:Int,g 50=.opt true (Zc .i64 x),fun O g=>∃x:Bool,g 51=.opt true (V.bool x),b9r] rfl tyk g4k
          ·exact ⟨rfl,rfl,rfl,rfl,rfl,⟨by decide,rfl⟩,⟨by decide,rfl⟩,⟨by decide,rfl⟩,⟨by decide,rfl⟩⟩
          ·refine b0o 11 ?_ (b0o 11 ?_ (b0o 11 ?_ (b8j 11 ?_ (b8j 11 ?_ (b8j 11 ?_ (b8j 11 ?_ (b8j 11 ?_ (b8j 11 ?_ (b8j 11 ?_ b9l)))))))))
           ·intro ee OO mm aa ss hc ha h0 hd;have F:=fq2 h0.1 h0.2;apply (zsU);exact b17 hc (by decide) rfl
           ·intro ee OO mm aa ss hc ha h0 hd;have e42_0:Vm.look 42 ee=.int .i64 b:=hd 0 rfl;have F:=fq2 e42_0 hdb;apply (c3u);exact b17 hc (by decide) rfl
           ·intro ee OO mm aa ss hc ha h0 hd;have e43_0:Vm.look 43 ee=.bool true:=hd 1 rfl;have F:=Fc.mk e43_0;apply (zsU);exact b17 hc (by decide) rfl
           ·intro ee OO mm aa ss hc ha h0 hd;have e44_0:Vm.look 44 ee=.bool true:=hd 2 rfl;have F:=fq3 h0.1 h0.2 e44_0;refine ⟨by first | rfl | (simp only [zV,b01,Nat.reduceEqDiff,reduceIte,‹Fc _›.h];done),?_⟩;apply (zsU);exact b17 hc (by decide) rfl
           ·intro ee OO mm aa ss hc ha h0 hd;have e45_0:Vm.look 45 ee=.opt true (.ptr 3 0 1):=hd 3 rfl;have e44_0:Vm.look 44 ee=.bool true:=hd 2 rfl;have F:=fq4 h0.1 h0.2 e45_0 e44_0;refine ⟨by first | rfl | (simp only [zV,b01,Nat.reduceEqDiff,reduceIte,‹Fc _›.h];done),?_⟩;apply (b3y);exact b17 hc (by decide) rfl
           ·intro ee OO mm aa ss hc ha h0 hd;have e46_0:Vm.look 46 ee=.opt true (.ref 4):=hd 4 rfl;have e44_0:Vm.look 44 ee=.bool true:=hd 2 rfl;have F:=fq4 h0.1 h0.2 e46_0 e44_0;refine ⟨by first | rfl | (simp only [zV,b01,Nat.reduceEqDiff,reduceIte,‹Fc _›.h];done),?_⟩;apply (g18);exact b17 hc (by decide) rfl
           ·intro ee OO mm aa ss hc ha h0 hd;have e44_0:Vm.look 44 ee=.bool true:=hd 2 rfl;have F:=fq3 h0.1 h0.2 e44_0;refine ⟨by first | rfl | (simp only [zV,b01,Nat.reduceEqDiff,reduceIte,‹Fc _›.h];done),?_⟩;apply (zsU);exact b17 hc (by decide) rfl
           ·intro ee OO mm aa ss hc ha h0 hd;have e48_0:Vm.look 48 ee=.opt true (.ptr 0 0 0):=hd 6 rfl;have e44_0:Vm.look 44 ee=.bool true:=hd 2 rfl;have F:=fq2 e48_0 e44_0;refine ⟨by first | rfl | (simp only [zV,b01,Nat.reduceEqDiff,reduceIte,‹Fc _›.h];done),?_⟩;apply d6g (b1t code aa ss (2) hcode hcl (by omega));rintro _ _ ⟨v,a2,s2,hq,hk,rfl,rfl⟩;apply (zEl);exact c6k hc (by omega) ⟨v,rfl⟩
           ·intro ee OO mm aa ss hc ha h0 hd;obtain ⟨x49,e49_0⟩:=hd 7 rfl;have e44_0:Vm.look 44 ee=.bool true:=hd 2 rfl;have F:=fq2 e49_0 e44_0;refine ⟨by first | rfl | (simp only [zV,b01,Nat.reduceEqDiff,reduceIte,‹Fc _›.h];done),?_⟩;apply (c3u);exact b17 hc (by decide) ⟨_,rfl⟩
           ·intro ee OO mm aa ss hc ha h0 hd;have e47_0:Vm.look 47 ee=.opt true (.int .i64 (l2.length:Int)):=hd 5 rfl;obtain ⟨x50,e50_0⟩:=hd 8 rfl;have e44_0:Vm.look 44 ee=.bool true:=hd 2 rfl;have F:=fq3 e47_0 e50_0 e44_0;refine ⟨by first | rfl | (simp only [zV,b01,Nat.reduceEqDiff,reduceIte,‹Fc _›.h];done),?_⟩;apply (c3u);exact b17 hc (by decide) ⟨_,rfl⟩
          ·intro _ q29 k29 ee OO mm a29 s29 hc _ h0 hd;obtain ⟨e0_0,e0_1,e0_2,e0_3,e0_4,⟨n0_0,b0_0⟩,⟨n0_1,b0_1⟩,⟨n0_2,b0_2⟩,⟨n0_3,b0_3⟩⟩:=h0;have e44_0:Vm.look 44 ee=.bool true:=hd 2 rfl;obtain ⟨x51,e51_0⟩:=hd 9 rfl;have F:=b9p e0_0 e0_1 e0_2 e0_3 e0_4 b0_0 b0_1 b0_2 b0_3 e44_0 e51_0 hc;show b13 _ _ _ _ 1 #[true,true,true,true,true,true,true,true,true,true,false] _;refine b1s q29 true 10 52 ?_;apply b0b (by kernel_rfl);apply k29 _;apply n28 (x51,a29,s29) _
           ·show a4≤a29∧a29≤a4+44;omega
           ·exact b5r _ _ [0,1,2,3,4] (by decide) (by simp) rfl (by simp [b0f,V.ren,Zh,‹Fc _›.h]) (by simp) (by simp [Zi,Zf]) (by simp [b9m,Blk.renM,b1h,b1i,b1r,V.ren,Zh,‹Fc _›.h]) (by simp [Blk.onlyM,b1h,b1i,b1r,Zi,Zf])
          all_goals first | exact (0:Int) | exact fun _ _=>.dead
         ·rintro ⟨go,a5,s5⟩ hok28;obtain ⟨ha5,ha5b⟩:=hok28;simp only [] at ha5 ha5b⊢;apply b0c _ rfl
          ·intro hc4;apply zn [0,2,3,4,5];apply b0e;intros;apply b0g;intros;have F:=Fc.mk hdb;apply yQ [0,2,3,4,5];apply (yV);apply n26 _ (l2++[(m,b,60)],b+1,a5,s5)
           ·apply b1a [0,2,3,4,5] [0,1,2,3,6];rw [d6w]
           ·exact ⟨by show ((l2++_).length:Int)≤14 * m+(b+1 - 1);simp;omega,by show 1≤b+1∧b+1≤14;omega,by show a3≤a5∧a5≤a3+60 * (b+1);omega⟩
           ·show _ < _;simp only [];omega
          ·intro hc4;apply zn [0,2,3,4];have F:=Fc.mk hdb;apply (yV);apply n18 _ (l2,m+1,a5,s5)
           ·exact b0t [0,2,3,4] [0,1,2,3,4]
           ·exact ⟨by show (l2.length:Int)≤14 * (m+1);omega,by show 0≤m+1∧m+1≤4;omega,by show a9≤a5∧a5≤a9+1000 * (m+1);omega⟩
           ·show _ < _;simp only [];omega
        ·skip;have hdb:decide (b < 14)=false:=decide_eq_false (by omega);apply b0e;intros;apply b4r (A:=Bool×Int×Int) (fun p=>⟨[(0,.ptr 0 0 0),(2,.ptr 2 0 0),(3,.ptr 3 0 0),(4,.int .i64 m),(5,.int .i64 b),(52,.bool p.1)],[cQ code p.2.1 p.2.2,eQ,.box (.agg [.int .i64 0,.ref 1]) .mix,.box (.agg [.int .i64 14,.ref 4]) .mix,aQ rQd l2],false,64,0⟩) (fun p=>p.1=false∧a4≤p.2.1∧p.2.1≤a4+44)
         ·intro _ n37 _ _;apply c6a 11 (fun a s:Int=>cQ code a s) 4 [0,1,2,3,4,5,6,7,8,9] [0,2,3,4,5] [[42],[43],[44],[45],[46],[47],[48],[49],[50],[51],[]] (fun O g=>g 0=.ptr 0 0 0∧g 2=.ptr 2 0 0∧g 3=.ptr 3 0 0∧g 4=.int .i64 m∧g 5=.int .i64 b∧(1≠0∧O[1]? =some (eQ))∧(2≠0∧O[2]? =some (Ze (.agg [.int .i64 0,.ref 1]) .mix))∧(3≠0∧O[3]? =some (Ze (.agg [.int .i64 14,.ref 4]) .mix))∧(4≠0∧O[4]? =some (Zg (l2.map rQd) .flat))) [fun O g=>g 42=.int .i64 b,fun O g=>g 43=.bool false,fun O g=>g 44=.bool false,fun O g=>g 45=.opt false .any,fun O g=>g 46=.opt false .any,fun O g=>g 47=.opt false .any,fun O g=>g 48=.opt false .any,fun O g=>g 49=.opt false .any,fun O g=>g 50=.opt false .any,fun O g=>g 51=.opt false .any,b9r] rfl tyk g4k
          ·exact ⟨rfl,rfl,rfl,rfl,rfl,⟨by decide,rfl⟩,⟨by decide,rfl⟩,⟨by decide,rfl⟩,⟨by decide,rfl⟩⟩
          ·refine b0o 11 ?_ (b0o 11 ?_ (b0o 11 ?_ (b8k 11 ?_ (b8k 11 ?_ (b8k 11 ?_ (b8k 11 ?_ (b8k 11 ?_ (b8k 11 ?_ (b8k 11 ?_ b9l)))))))))
           ·intro ee OO mm aa ss hc ha h0 hd;have F:=fq2 h0.1 h0.2;apply (zsU);exact b17 hc (by decide) rfl
           ·intro ee OO mm aa ss hc ha h0 hd;have e42_0:Vm.look 42 ee=.int .i64 b:=hd 0 rfl;have F:=fq2 e42_0 hdb;apply (c3u);exact b17 hc (by decide) rfl
           ·intro ee OO mm aa ss hc ha h0 hd;have e43_0:Vm.look 43 ee=.bool false:=hd 1 rfl;have F:=Fc.mk e43_0;apply (zsU);exact b17 hc (by decide) rfl
           ·intro ee OO mm aa ss hc ha h0 hd;have e44_0:Vm.look 44 ee=.bool false:=hd 2 rfl;have F:=fq3 h0.1 h0.2 e44_0;refine ⟨by first | rfl | (simp only [zV,b01,Nat.reduceEqDiff,reduceIte,‹Fc _›.h];done),?_⟩;exact b17 hc (by decide) rfl
           ·intro ee OO mm aa ss hc ha h0 hd;have e45_0:Vm.look 45 ee=.opt false .any:=hd 3 rfl;have e44_0:Vm.look 44 ee=.bool false:=hd 2 rfl;have F:=fq2 e45_0 e44_0;refine ⟨by first | rfl | (simp only [zV,b01,Nat.reduceEqDiff,reduceIte,‹Fc _›.h];done),?_⟩;exact b17 hc (by decide) rfl
           ·intro ee OO mm aa ss hc ha h0 hd;have e46_0:Vm.look 46 ee=.opt false .any:=hd 4 rfl;have e44_0:Vm.look 44 ee=.bool false:=hd 2 rfl;have F:=fq2 e46_0 e44_0;refine ⟨by first | rfl | (simp only [zV,b01,Nat.reduceEqDiff,reduceIte,‹Fc _›.h];done),?_⟩;exact b17 hc (by decide) rfl
           ·intro ee OO mm aa ss hc ha h0 hd;have e44_0:Vm.look 44 ee=.bool false:=hd 2 rfl;have F:=fq3 h0.1 h0.2 e44_0;refine ⟨by first | rfl | (simp only [zV,b01,Nat.reduceEqDiff,reduceIte,‹Fc _›.h];done),?_⟩;exact b17 hc (by decide) rfl
           ·intro ee OO mm aa ss hc ha h0 hd;have e48_0:Vm.look 48 ee=.opt false .any:=hd 6 rfl;have e44_0:Vm.look 44 ee=.bool false:=hd 2 rfl;have F:=fq2 e48_0 e44_0;refine ⟨by first | rfl | (simp only [zV,b01,Nat.reduceEqDiff,reduceIte,‹Fc _›.h];done),?_⟩;exact b17 hc (by decide) rfl
           ·intro ee OO mm aa ss hc ha h0 hd;have e49_0:Vm.look 49 ee=.opt false .any:=hd 7 rfl;have e44_0:Vm.look 44 ee=.bool false:=hd 2 rfl;have F:=fq2 e49_0 e44_0;refine ⟨by first | rfl | (simp only [zV,b01,Nat.reduceEqDiff,reduceIte,‹Fc _›.h];done),?_⟩;exact b17 hc (by decide) rfl
           ·intro ee OO mm aa ss hc ha h0 hd;have e47_0:Vm.look 47 ee=.opt false .any:=hd 5 rfl;have e50_0:Vm.look 50 ee=.opt false .any:=hd 8 rfl;have e44_0:Vm.look 44 ee=.bool false:=hd 2 rfl;have F:=fq3 e47_0 e50_0 e44_0;refine ⟨by first | rfl | (simp only [zV,b01,Nat.reduceEqDiff,reduceIte,‹Fc _›.h];done),?_⟩;exact b17 hc (by decide) rfl
          ·intro _ q38 k38 ee OO mm a38 s38 hc _ h0 hd;obtain ⟨e0_0,e0_1,e0_2,e0_3,e0_4,⟨n0_0,b0_0⟩,⟨n0_1,b0_1⟩,⟨n0_2,b0_2⟩,⟨n0_3,b0_3⟩⟩:=h0;have e44_0:Vm.look 44 ee=.bool false:=hd 2 rfl;have e51_0:Vm.look 51 ee=.opt false .any:=hd 9 rfl;have F:=b9p e0_0 e0_1 e0_2 e0_3 e0_4 b0_0 b0_1 b0_2 b0_3 e44_0 e51_0 hc;show b13 _ _ _ _ 1 #[true,true,true,true,true,true,true,true,true,true,false] _;refine b1s q38 true 10 52 ?_;apply b0b (by kernel_rfl);apply k38 _;apply n37 (false,a38,s38) _
           ·exact ⟨rfl,by show a4≤a38∧a38≤a4+44;omega⟩
           ·exact b5r _ _ [0,1,2,3,4] (by decide) (by simp) rfl (by simp [b0f,V.ren,Zh,‹Fc _›.h]) (by simp) (by simp [Zi,Zf]) (by simp [b9m,Blk.renM,b1h,b1i,b1r,V.ren,Zh,‹Fc _›.h]) (by simp [Blk.onlyM,b1h,b1i,b1r,Zi,Zf])
          all_goals first | exact (0:Int) | exact fun _ _=>.dead
         ·rintro ⟨go,a5,s5⟩ hok37;obtain ⟨hgo,ha5⟩:=hok37;simp only [] at hgo ha5⊢;apply b2a _ rfl
          ·intro hc4;exfalso;rw [hgo] at hc4;cases hc4
          ·intro hc4;try simp only [zC,reduceCtorEq] at hc4
           apply zn [0,2,3,4];have F:=Fc.mk hdb;apply (yV);apply n18 _ (l2,m+1,a5,s5)
           ·exact b0t [0,2,3,4] [0,1,2,3,4]
           ·exact ⟨by show (l2.length:Int)≤14 * (m+1);omega,by show 0≤m+1∧m+1≤4;omega,by show a9≤a5∧a5≤a9+1000 * (m+1);omega⟩
           ·show _ < _;simp only [];omega
      ·intro hc3;apply (zx);apply n3 (14,l1,a3,s3) _
       ·exact ⟨by show l1.length≤302;omega,by show a≤a3∧a3≤a+39000;omega⟩
       ·exact b0t [2,3] [0,1,2,3,4]
    ·intro hc2;apply (zx);apply n3 (n7,l7,a9,s9) _
     ·exact ⟨by show l7.length≤302;omega,by show a≤a9∧a9≤a+39000;omega⟩
     ·exact b0t [2,3] [0,1,2,5,3]
 ·rintro ⟨n,l,a8,s8⟩ hok3;obtain ⟨hll,ha8⟩:=hok3;simp only [] at hll ha8⊢;have F:=Fc.mk True.intro;apply yR [2];apply (zq3);refine b1g ?_;exact ⟨n,l,_,_,by omega,by omega,rfl,rfl⟩
theorem c3b (l:List (ByteArray)) (hl:l.length≤1048576):Con prog 23 [.sl (l.map V.str),.sl (l.map V.str)] [] (.bool true) []:=by
 apply zcn [.tmp 4] [] func23 ntmps23;intro _ _ _;have T:=tq3 Y3 Y9 Y48;have F:=Fc.mk True.intro;apply yR [0,1];apply b0e;intros;apply yR [0,1,10];apply b2a _ rfl
 ·intro hc0;exfalso;simp at hc0
 ·intro hc0;try simp only [zC,reduceCtorEq] at hc0
  apply zn [0,1];apply b0e;intros;apply yR [0,1,12,13];apply b0g;intros;apply b05 (fun i=>⟨[(0,.sl (l.map V.str)),(1,.sl (l.map V.str)),(12,.int .i64 l.length),(13,.int .i64 (Nat.cast i))],[],false,26,0⟩) (fun i=>i≤l.length) (fun i=>l.length - i) 0
  ·refine b18 [0,1,12,13] ?_;simp only [b0r,b0k,b0i,b0f,b0n,Nat.reduceEqDiff,reduceIte];rfl
  ·exact qle _
  ·rintro i hok8 Q8 n8 e8 r8;have hi1:i≤l.length:=hok8;apply yR [0,1,12,13,14];apply b0e;intros;apply b0c _ rfl
   ·intro hc1;have hlt:i < l.length:=by omega
    obtain ⟨x,hx⟩:∃x,l[i]? =some x:=⟨l[i],qla hlt⟩;apply zn [0,1,12,13];apply b0e;intros;apply b0g;intros;have F:=Fc.mk (gdm hx);apply yR [0,1,5,12,13];apply b0e;intro _ n15 _ _;apply b1b (by kernel_rfl);intro _ q16 k16;show b13 _ _ _ _ 9 (Array.replicate 9 false) _;refine zdU q16 true 0 16 ?_;refine zdU q16 true 1 17 ?_;refine b0z q16 true 2 18 ?_;refine b08 q16 true 3 19 ?_;refine zdU q16 true 4 20 ?_;refine zdU q16 true 5 21 ?_;refine b0z q16 true 6 22 ?_;refine b08 q16 true 7 23 ?_;refine b2b q16 true 8 24 ?_;apply b0b (by kernel_rfl);apply k16 _;apply n15 _ _ (b0a [0,1,12,13,24] _);apply (zk);apply b2a _ rfl
    ·intro hc2;exfalso;simp at hc2
    ·intro hc2;try simp only [zC,reduceCtorEq] at hc2
     apply zn [0,1,12,13];apply (yV);apply n8 _ (i+1)
     ·apply b0d [0,1,12,13] [];rfl
     ·exact hlt
     ·show _ < _;omega
   ·intro hc1;apply zn [];apply yR [4];apply (zr);exact b0h rfl rfl (.inl rfl)
theorem d0w (l:List TA) (hl:l.length≤1048576):Con prog 48 [sQ rQa l,sQ rQa l] [] (.bool true) []:=by
 apply zcn [.tmp 4] [] func48 ntmps48;intro _ _ _;have T:=tq4 Y3 Y9 Y28 Y98;have F:=Fc.mk True.intro;apply yR [0,1];apply b0e;intros;apply yR [0,1,10];apply b2a _ rfl
 ·intro hc0;exfalso;simp at hc0
 ·intro hc0;try simp only [zC,reduceCtorEq] at hc0
  apply zn [0,1];apply b0e;intros;apply yR [0,1,12,13];apply b0g;intros;apply b05 (fun i=>⟨[(0,sQ rQa l),(1,sQ rQa l),(12,.int .i64 l.length),(13,.int .i64 (Nat.cast i))],[],false,26,0⟩) (fun i=>i≤l.length) (fun i=>l.length - i) 0
  ·refine b18 [0,1,12,13] ?_;simp only [b0r,b0k,b0i,b0f,b0n,Nat.reduceEqDiff,reduceIte];rfl
  ·exact qle _
  ·rintro i hok8 Q8 n8 e8 r8;have hi1:i≤l.length:=hok8;apply yR [0,1,12,13,14];apply b0e;intros;apply b0c _ rfl
   ·intro hc1;have hlt:i < l.length:=by omega
    obtain ⟨⟨x0,x1,x2,x3,x4⟩,hx⟩:∃x:TA,l[i]? =some x:=⟨l[i]'(by omega),qla (by omega)⟩;apply zn [0,1,12,13];apply b0e;intros;apply b0g;intros;have F:=Fc.mk (gdm hx);apply yR [0,1,5,12,13];apply b0e;intro _ n15 _ _;apply b1b (by kernel_rfl);intro _ q16 k16;show b13 _ _ _ _ 9 (Array.replicate 9 false) _;refine zdU q16 true 0 16 ?_;refine zdU q16 true 1 17 ?_;refine b0z q16 true 2 18 ?_;refine b08 q16 true 3 19 ?_;refine zdU q16 true 4 20 ?_;refine zdU q16 true 5 21 ?_;refine b0z q16 true 6 22 ?_;refine b08 q16 true 7 23 ?_;refine b2b q16 true 8 24 ?_;apply b0b (by kernel_rfl);apply k16 _;apply n15 _ _ (b0a [0,1,12,13,24] _);apply (zk);apply b2a _ rfl
    ·intro hc2;exfalso;simp at hc2
    ·intro hc2;try simp only [zC,reduceCtorEq] at hc2
     apply zn [0,1,12,13];apply (yV);apply n8 _ (i+1)
     ·apply b0d [0,1,12,13] [];rfl
     ·exact hlt
     ·show _ < _;omega
   ·intro hc1;apply zn [];apply yR [4];apply (zr);exact b0h rfl rfl (.inl rfl)
theorem c6h (x0 x1:Int) (x2:Bool) (x3:List ByteArray) (hn:x3.length≤1048576):Con prog 112 [.agg [.int .i64 x0,.int .i64 x1,.bool x2,.sl (x3.map V.str)],.agg [.int .i64 x0,.int .i64 x1,.bool x2,.sl (x3.map V.str)]] [] (.bool true) []:=by
 have hd0:decide (x0=x0)=true:=decide_eq_true rfl;have hd1:decide (x1=x1)=true:=decide_eq_true rfl;have hd2:(x2 == x2)=true:=beq_self_eq_true x2;have hd3:decide (x2=x2)=true:=decide_eq_true rfl;apply zcn [.tmp 4] [] func112 ntmps112;intro _ _ _;have T:=tq5 Y3 Y4 Y9 Y48 Y96;have F:=Fc.mk True.intro;have F:=fq4 hd0 hd1 hd2 hd3;apply yR [2,3];apply yRg [4] (c3b x3 hn);apply (zr);exact b0h rfl rfl (.inl rfl)
theorem c4y (l:List TI) (hl:l.length≤1048576) (hls:∀t∈l,t.2.2.2.length≤1048576):Con prog 49 [sQ rQb l,sQ rQb l] [] (.bool true) []:=by
 apply zcn [.tmp 4] [] func49 ntmps49;intro _ _ _;have T:=tq6 Y3 Y4 Y9 Y29 Y48 Y96;have F:=Fc.mk True.intro;apply yR [0,1];apply b0e;intros;apply yR [0,1,10];apply b2a _ rfl
 ·intro hc0;exfalso;simp at hc0
 ·intro hc0;try simp only [zC,reduceCtorEq] at hc0
  apply zn [0,1];apply b0e;intros;apply yR [0,1,12,13];apply b0g;intros;apply b05 (fun i=>⟨[(0,sQ rQb l),(1,sQ rQb l),(12,.int .i64 l.length),(13,.int .i64 (Nat.cast i))],[],false,27,0⟩) (fun i=>i≤l.length) (fun i=>l.length - i) 0
  ·refine b18 [0,1,12,13] ?_;simp only [b0r,b0k,b0i,b0f,b0n,Nat.reduceEqDiff,reduceIte];rfl
  ·exact qle _
  ·rintro i hok8 Q8 n8 e8 r8;have hi1:i≤l.length:=hok8;apply yR [0,1,12,13,14];apply b0e;intros;apply b0c _ rfl
   ·intro hc1;have hlt:i < l.length:=by omega
    obtain ⟨⟨x0,x1,x2,x3⟩,hx⟩:∃x,l[i]? =some x:=⟨l[i],qla hlt⟩;have hlx:=hls _ (qlb hx);apply zn [0,1,12,13];apply b0e;intros;apply b0g;intros;have F:=Fc.mk (gdm hx);apply yR [0,1,5,12,13];apply b0e;intro _ n15 _ _;apply b1b (by kernel_rfl);intro _ q16 k16;show b13 _ _ _ _ 10 (Array.replicate 10 false) _;refine zdU q16 true 0 16 ?_;refine zdU q16 true 1 17 ?_;refine b0z q16 true 2 18 ?_;refine b08 q16 true 3 19 ?_;refine zdU q16 true 4 20 ?_;refine zdU q16 true 5 21 ?_;refine b0z q16 true 6 22 ?_;refine b08 q16 true 7 23 ?_;apply zoc 8 (c6h x0 x1 x2 x3 hlx);refine zdU q16 true 9 25 ?_;apply b0b (by kernel_rfl);apply k16 _;apply n15 _ _ (b0a [0,1,12,13,25] _);apply (zk);apply b2a _ rfl
    ·intro hc2;exfalso;simp at hc2
    ·intro hc2;try simp only [zC,reduceCtorEq] at hc2
     apply zn [0,1,12,13];apply (yV);apply n8 _ (i+1)
     ·apply b0d [0,1,12,13] [];rfl
     ·exact hlt
     ·show _ < _;omega
   ·intro hc1;apply zn [];apply yR [4];apply (zr);exact b0h rfl rfl (.inl rfl)
end Go.Proofs.YtmbbjhopngejaaaGreat
