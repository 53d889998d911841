/- What functions compute. No condition. -/
import Derived.Test.YtmbbjhopngejaaaGreatDoorX30
import Derived.Test.YtmbbjhopngejaaaGreatDoorX31
set_option linter.unusedSimpArgs false
set_option linter.unusedVariables false
set_option linter.defProp false
namespace Go.Proofs.YtmbbjhopngejaaaGreatDoor
open Go Go.Vm
set_option maxHeartbeats 8000000
theorem d58 {a:List TS} {x0:Int} {x1:Int} {x2:Int}:a.map rQd++[V.agg [V.int .i64 x0,V.int .i64 x1,V.int .i64 x2]]=(a++[(x0,x1,x2)]).map rQd:=by simp
set_option maxRecDepth 8000 in
theorem c66 (code:List Int) (a s:Int) (hcode:∀x∈code,0≤x∧x≤255) (hcl:code.length≤9223372036854775807) (ha:0≤a∧a < 14000000000):b74 Tryz.prog 84 [.ptr 0 0 0] [cQ code a s] (fun r O'=>∃(n:Int) (l:List TS) (a' s':Int),(l.length≤302)∧(a≤a'∧a'≤a+40000)∧r=.agg [.int .i64 n,.ref 1]∧O'=[cQ code a' s',aQ rQd l]):=by
 refine zcx [.cell 2 26] [(85,[0,1]),(34,[0]),(35,[0]),(80,[0])] Tryz.func84 Tryz.ntmps84 ⟨?_⟩;intro Q0 n0 r0;have T:=f93 Ty.t3 Ty.t5 Ty.t22 Ty.t24 Ty.t26 Ty.t35 Ty.t68 Ty.t69 Ty.t71 Ty.t127;have F:=Fc.mk True.intro;refine yR [0,2] ⟨?_⟩;refine b1l [0,2,3] ?_;intro K2 k2;refine b15 ⟨?_⟩;refine zxl (d1o code a s hcode hcl (by omega)) ⟨?_⟩;rintro _ _ ⟨n7,l7,a7,s7,h7,k7,rfl,rfl⟩;refine zEl ⟨?_⟩;refine zq8 ⟨?_⟩;refine k2 _ ?_;refine zk ⟨?_⟩;refine b3u (A:=Int×List TS×Int×Int) (fun p=>⟨[(2,.ptr 2 0 0),(3,.ptr 3 0 0)],[cQ code p.2.2.1 p.2.2.2,eQ,.box (.agg [.int .i64 0,.ref 1]) .mix,.box (.agg [.int .i64 p.1,.ref 4]) .mix,aQ rQd p.2.1],false,64,0⟩) (fun p=>p.2.1.length≤302∧a≤p.2.2.1∧p.2.2.1≤a+39000) ?_ ?_
 ·intro Q3 n3 e3 r3;refine b1l [0,2,3,9] ?_;intro K4 k4;refine b15 ⟨?_⟩;refine zxl (b2d code a7 s7 (30) hcode hcl (by omega)) ⟨?_⟩;rintro _ _ ⟨v9,a9,s9,h9,k9,rfl,rfl⟩;refine zEl ⟨?_⟩;refine k4 _ ?_;refine zk ⟨?_⟩;refine b0i ?_;intro Q5 n5 x5 e5 r5;refine yR [0,2,3,9,10] ⟨?_⟩;refine b0a _ rfl ?_ ?_
  ·intro hc0;refine b2m ?_;intro K8 k8;refine d7a ⟨?_⟩;refine zxt (b3n code a9 s9 [0,-1,15,4611686018427387904] (by simp) hcode hcl (by omega)) ⟨?_⟩;rintro _ _ ⟨v14,a14,s14,h14,k14,rfl,rfl⟩;refine zEt ⟨?_⟩;simp only [List.mem_cons,List.not_mem_nil,or_false] at h14;refine b5w ⟨?_⟩;refine b7a ⟨?_⟩;refine k8 _ ?_;refine n5 _ ?_;refine n3 (v14,l7,a14,s14) _ ?_ ?_
   ·exact ⟨by show l7.length≤302;omega,by show a≤a14∧a14≤a+39000;omega⟩
   ·exact b0q [2,3] [0,1,2,5,3]
  ·intro hc0;refine yR [0,2,3,9,16] ⟨?_⟩;refine b0a _ rfl ?_ ?_
   ·intro hc1;refine c2j 15 (fun a s:Int=>cQ code a s) 4 [0,1,2,3,4,5,6,7,8,9,10,11] [0,2,3] [[18],[19],[20],[21],[22],[23],[24],[25],[26],[27],[28],[29],[],[],[]] (fun O g=>g 0=.ptr 0 0 0∧g 2=.ptr 2 0 0∧g 3=.ptr 5 0 0∧(1≠0∧O[1]? =some (eQ))∧(2≠0∧O[2]? =some (Blk.box (.agg [.int .i64 0,.ref 1]) .mix))∧(3≠0∧O[3]? =some (Blk.arr (l7.map rQd) .flat))∧(4≠0∧O[4]? =some (eQ))∧(5≠0∧O[5]? =some (Blk.box (.agg [.int .i64 n7,.ref 3]) .mix))) [fun O g=>g 18=.ptr 5 0 1,fun O g=>g 19=.ref 3,fun O g=>g 20=.ptr 0 0 0,fun O g=>∃x:Int,g 21=V.int .i64 x,fun O g=>∃x:Int,g 22=V.int .i64 x,fun O g=>g 23=.ptr 0 0 0,fun O g=>∃x:Int,g 24=V.int .i64 x,fun O g=>g 25=.ptr 0 0 0,fun O g=>∃x:Nat×List Int,g 26=.ref x.1∧(x.1≠0∧O[x.1]? =some (Blk.arr (x.2.map (V.int .i64)) .flat))∧(6≤x.1∧0 < x.2.length∧x.2.length≤1048576),fun O g=>∃x:Int,g 27=V.int .i64 x,fun O g=>∃x:TS,g 28=.agg [V.int .i64 x.1,V.int .i64 x.2.1,V.int .i64 x.2.2],fun O g=>∃x:Nat×Int×Int×Int,g 29=.ref x.1∧(x.1≠0∧O[x.1]? =some (Blk.arr [.agg [.int .i64 x.2.1,.int .i64 x.2.2.1,.int .i64 x.2.2.2]] .flat))∧(6≤x.1),b8w,b8w,b8w] rfl tyk f15 ?_ ?_ ?_
    ·exact ⟨rfl,rfl,rfl,⟨by decide,rfl⟩,⟨by decide,rfl⟩,⟨by decide,rfl⟩,⟨by decide,rfl⟩,⟨by decide,rfl⟩⟩
    ·refine b0o 15 ?_ (b0o 15 ?_ (b0o 15 ?_ (b0o 15 ?_ (b0o 15 ?_ (b0o 15 ?_ (b0o 15 ?_ (b0o 15 ?_ (b0o 15 ?_ (b0o 15 ?_ (b0o 15 ?_ (b0o 15 ?_ b8c)))))))))))
     ·intro ee OO mm aa ss hc ha h0 hd;have F:=fq2 h0.1 h0.2;refine b3l ⟨?_⟩;exact b12 hc (by decide) rfl
     ·intro ee OO mm aa ss hc ha h0 hd;have e18_0:Vm.look 18 ee=.ptr 5 0 1:=hd 0 rfl;have F:=fq3 h0.1 h0.2 e18_0;refine b3h ⟨?_⟩;exact b12 hc (by decide) rfl
     ·intro ee OO mm aa ss hc ha h0 hd;have F:=fq2 h0.1 h0.2;refine b34 ⟨?_⟩;exact b12 hc (by decide) rfl
     ·intro ee OO mm aa ss hc ha h0 hd;have e20_0:Vm.look 20 ee=.ptr 0 0 0:=hd 2 rfl;have F:=Fc.mk e20_0;refine d64 (b2d code aa ss (3) hcode hcl (by omega)) ⟨?_⟩;rintro _ _ ⟨v,a2,s2,hq,hk,rfl,rfl⟩;refine zEl ⟨?_⟩;exact c49 hc (by omega) ⟨v,rfl⟩
     ·intro ee OO mm aa ss hc ha h0 hd;obtain ⟨x21,e21_0⟩:=hd 3 rfl;have F:=Fc.mk e21_0;refine c2l ⟨?_⟩;exact b12 hc (by decide) ⟨_,rfl⟩
     ·intro ee OO mm aa ss hc ha h0 hd;have F:=fq2 h0.1 h0.2;refine b34 ⟨?_⟩;exact b12 hc (by decide) rfl
     ·intro ee OO mm aa ss hc ha h0 hd;have e23_0:Vm.look 23 ee=.ptr 0 0 0:=hd 5 rfl;have F:=Fc.mk e23_0;refine d64 (b2d code aa ss (4) hcode hcl (by omega)) ⟨?_⟩;rintro _ _ ⟨v,a2,s2,hq,hk,rfl,rfl⟩;refine zEl ⟨?_⟩;exact c49 hc (by omega) ⟨v,rfl⟩
     ·intro ee OO mm aa ss hc ha h0 hd;have F:=fq2 h0.1 h0.2;refine b34 ⟨?_⟩;exact b12 hc (by decide) rfl
     ·intro ee OO mm aa ss hc ha h0 hd;have hlen:=b4n h0.2.2.2.2.2.2.2.2;have F:=Fc.mk True.intro;refine b01 ⟨?_⟩;exact c0p hc (by decide) ⟨⟨_,[60,0,3601]⟩,rfl,⟨by omega,by simp⟩,by simp;omega⟩
     ·intro ee OO mm aa ss hc ha h0 hd;have e25_0:Vm.look 25 ee=.ptr 0 0 0:=hd 7 rfl;obtain ⟨⟨k26,l26⟩,e26_0,⟨n26_0,b26_0⟩,q26⟩:=hd 8 rfl;have F:=fq4 e25_0 e26_0 b26_0 (d8k (Ne.symm n26_0));refine f9c (b3n code aa ss l26 q26.2 hcode hcl (by omega)) ⟨?_⟩;rintro _ _ ⟨v,a2,s2,hq,hk,rfl,rfl⟩;refine zEt ⟨?_⟩;exact f4p hc b26_0 n26_0 (by omega) ⟨v,rfl⟩
     ·intro ee OO mm aa ss hc ha h0 hd;obtain ⟨x22,e22_0⟩:=hd 4 rfl;obtain ⟨x24,e24_0⟩:=hd 6 rfl;obtain ⟨x27,e27_0⟩:=hd 9 rfl;have F:=fq3 e22_0 e24_0 e27_0;refine c4u ⟨?_⟩;exact b12 hc (by decide) ⟨⟨_,_,_⟩,rfl⟩
     ·intro ee OO mm aa ss hc ha h0 hd;obtain ⟨x28,e28_0⟩:=hd 10 rfl;have hlen:=b4n h0.2.2.2.2.2.2.2.2;have F:=Fc.mk e28_0;refine b01 ⟨?_⟩;exact c0p hc (by decide) ⟨⟨_,x28.1,x28.2.1,x28.2.2⟩,rfl,⟨by omega,by simp⟩,by omega⟩
    ·intro K11 q11 k11 ee OO mm a11 s11 hc ha11 h0 hd;obtain ⟨e0_0,e0_1,e0_2,⟨n0_0,b0_0⟩,⟨n0_1,b0_1⟩,⟨n0_2,b0_2⟩,⟨n0_3,b0_3⟩,⟨n0_4,b0_4⟩⟩:=h0;have e19_0:Vm.look 19 ee=.ref 3:=hd 1 rfl;obtain ⟨⟨k29,y1,y2,y3⟩,e29_0,⟨n29_0,b29_0⟩,q29⟩:=hd 11 rfl;have hk3:3≠k29:=by omega
     have hl6:5 < OO.length:=b4n b0_4;have hb5:∀nw:List Blk,(OO.set 3 Blk.dead++nw)[5]? =some (Blk.box (.agg [.int .i64 n7,.ref 3]) .mix):=fun nw=>by rw [qlz (by rw [qlp];omega),qlg (by decide)];exact b0_4
     have F:=Fc.mk (ai e0_0 (ai e0_1 (ai e0_2 (ai b0_0 (ai b0_1 (ai b0_2 (ai b0_3 (ai b0_4 (ai e19_0 (ai e29_0 (ai b29_0 (ai hc hb5))))))))))));show b1r _ _ _ _ 3 #[true,true,true,true,true,true,true,true,true,true,true,true,false,false,false] _;refine b0m 12 ⟨?_⟩;refine b0h q11 true 13 31 ?_;refine b06 14 ⟨?_⟩;refine b0b (by kernel_rfl) ?_;refine k11 _ ?_;refine n5 _ ?_;refine n3 (n7,l7++[(y1,y2,y3)],a11,s11) _ ?_ ?_
     ·exact ⟨by show (l7++_).length≤302;simp;omega,by show a≤a11∧a11≤a+39000;omega⟩
     ·exact b45 _ _ [0,1,2,5,OO.length] (by simp;omega) (by simp) rfl (by simp [b0j,V.ren,V.renL,‹Fc _›.h]) (by simp) (by simp [V.only,V.onlyL]) (by simp [b8t,Blk.renM,b1b,b1c,b1m,V.ren,V.renL,‹Fc _›.h,List.getElem?_set,List.getElem?_append,hl6,show 0 < OO.length by omega,show 1 < OO.length by omega,show 2 < OO.length by omega,show ¬5=OO.length by omega,(List.getElem?_eq_some_iff.1 hc).2,(List.getElem?_eq_some_iff.1 b0_0).2,(List.getElem?_eq_some_iff.1 b0_1).2]) (by simp [Blk.onlyM,b1b,b1c,b1m,V.only,V.onlyL])
   ·intro hc1;refine yR [0,2,3,32] ⟨?_⟩;refine b0a _ rfl ?_ ?_
    ·intro hc2;refine yR [0,2,3] ⟨?_⟩;refine yR [0,2,3] ⟨?_⟩;refine yR [0,2,3,4] ⟨?_⟩;refine b0i ?_;intros;refine b08 (fun p=>⟨[(0,.ptr 0 0 0),(2,.ptr 2 0 0),(3,.ptr 3 0 0),(4,.int .i64 p.2.1)],[cQ code p.2.2.1 p.2.2.2,eQ,.box (.agg [.int .i64 0,.ref 1]) .mix,.box (.agg [.int .i64 14,.ref 4]) .mix,aQ rQd p.1],false,64,0⟩) (fun p=>(p.1.length:Int)≤14 * p.2.1∧(0≤p.2.1∧p.2.1≤4)∧a9≤p.2.2.1∧p.2.2.1≤a9+1000 * p.2.1) (fun p=>(4 - p.2.1).toNat) ([],0,a9,s9) ?_ ?_ ?_
     ·exact b0q [0,2,3,4] [0,1,2,5,6]
     ·exact ⟨by simp,by simp,by simp⟩
     ·rintro ⟨l1,m,a3,s3⟩ hok18 Q18 n18 e18 r18;obtain ⟨hll,hm,ha3⟩:=hok18;simp only [] at hll hm ha3⊢;refine b0e ?_;intros;refine yR [0,2,3,4,37] ⟨?_⟩;refine b0a _ rfl ?_ ?_
      ·intro hc3;refine zn [0,2,3,4] ⟨?_⟩;refine b0e ?_;intros;refine b0i ?_;intros;refine yR [0,2,3,4,5] ⟨?_⟩;refine b0i ?_;intros;refine b08 (fun p=>⟨[(0,.ptr 0 0 0),(2,.ptr 2 0 0),(3,.ptr 3 0 0),(4,.int .i64 m),(5,.int .i64 p.2.1)],[cQ code p.2.2.1 p.2.2.2,eQ,.box (.agg [.int .i64 0,.ref 1]) .mix,.box (.agg [.int .i64 14,.ref 4]) .mix,aQ rQd p.1],false,64,0⟩) (fun p=>(p.1.length:Int)≤14 * m+(p.2.1 - 1)∧(1≤p.2.1∧p.2.1≤14)∧a3≤p.2.2.1∧p.2.2.1≤a3+60 * p.2.1) (fun p=>(14 - p.2.1).toNat) (l1,m+1,a3,s3) ?_ ?_ ?_
       ·exact b0q [0,2,3,4,5] [0,1,2,3,4]
       ·exact ⟨by simp;omega,by simp;omega,by simp;omega⟩
       ·rintro ⟨l2,b,a4,s4⟩ hok26 Q26 n26 e26 r26;obtain ⟨hl2,hb,ha4⟩:=hok26;simp only [] at hl2 hb ha4⊢;rcases Int.lt_or_le b 14 with hbl | hbl
        ·skip;have hdb:decide (b < 14)=true:=decide_eq_true hbl;refine b0e ?_;intros;refine b3u (A:=Bool×Int×Int) (fun p=>⟨[(0,.ptr 0 0 0),(2,.ptr 2 0 0),(3,.ptr 3 0 0),(4,.int .i64 m),(5,.int .i64 b),(52,.bool p.1)],[cQ code p.2.1 p.2.2,eQ,.box (.agg [.int .i64 0,.ref 1]) .mix,.box (.agg [.int .i64 14,.ref 4]) .mix,aQ rQd l2],false,64,0⟩) (fun p=>a4≤p.2.1∧p.2.1≤a4+44) ?_ ?_
         ·intro Q28 n28 e28 r28;refine c2j 11 (fun a s:Int=>cQ code a s) 4 [0,1,2,3,4,5,6,7,8,9] [0,2,3,4,5] [[42],[43],[44],[45],[46],[47],[48],[49],[50],[51],[]] (fun O g=>g 0=.ptr 0 0 0∧g 2=.ptr 2 0 0∧g 3=.ptr 3 0 0∧g 4=.int .i64 m∧g 5=.int .i64 b∧(1≠0∧O[1]? =some (eQ))∧(2≠0∧O[2]? =some (Blk.box (.agg [.int .i64 0,.ref 1]) .mix))∧(3≠0∧O[3]? =some (Blk.box (.agg [.int .i64 14,.ref 4]) .mix))∧(4≠0∧O[4]? =some (Blk.arr (l2.map rQd) .flat))) [fun O g=>g 42=.int .i64 b,fun O g=>g 43=.bool true,fun O g=>g 44=.bool true,fun O g=>g 45=.opt true (.ptr 3 0 1),fun O g=>g 46=.opt true (.ref 4),fun O g=>g 47=.opt true (.int .i64 (l2.length:Int)),fun O g=>g 48=.opt true (.ptr 0 0 0),fun O g=>∃x:Int,g 49=.opt true (V.int .i64 x),fun O g=>∃x:Int,g 50=.opt true (V.int .i64 x),fun O g=>∃x:Bool,g 51=.opt true (V.bool x),b8w] rfl tyk f15 ?_ ?_ ?_
          ·exact ⟨rfl,rfl,rfl,rfl,rfl,⟨by decide,rfl⟩,⟨by decide,rfl⟩,⟨by decide,rfl⟩,⟨by decide,rfl⟩⟩
          ·refine b0o 11 ?_ (b0o 11 ?_ (b0o 11 ?_ (b8k 11 ?_ (b8k 11 ?_ (b8k 11 ?_ (b8k 11 ?_ (b8k 11 ?_ (b8k 11 ?_ (b8k 11 ?_ b8c)))))))))
           ·intro ee OO mm aa ss hc ha h0 hd;have F:=fq2 h0.1 h0.2;refine b34 ⟨?_⟩;exact b12 hc (by decide) rfl
           ·intro ee OO mm aa ss hc ha h0 hd;have e42_0:Vm.look 42 ee=.int .i64 b:=hd 0 rfl;have F:=fq2 e42_0 hdb;refine c2l ⟨?_⟩;exact b12 hc (by decide) rfl
           ·intro ee OO mm aa ss hc ha h0 hd;have e43_0:Vm.look 43 ee=.bool true:=hd 1 rfl;have F:=Fc.mk e43_0;refine b34 ⟨?_⟩;exact b12 hc (by decide) rfl
           ·intro ee OO mm aa ss hc ha h0 hd;have e44_0:Vm.look 44 ee=.bool true:=hd 2 rfl;have F:=fq3 h0.1 h0.2 e44_0;refine ⟨by first | rfl | (simp only [zV,b04,Nat.reduceEqDiff,reduceIte,‹Fc _›.h];done),?_⟩;refine b3l ⟨?_⟩;exact b12 hc (by decide) rfl
           ·intro ee OO mm aa ss hc ha h0 hd;have e45_0:Vm.look 45 ee=.opt true (.ptr 3 0 1):=hd 3 rfl;have e44_0:Vm.look 44 ee=.bool true:=hd 2 rfl;have F:=fq4 h0.1 h0.2 e45_0 e44_0;refine ⟨by first | rfl | (simp only [zV,b04,Nat.reduceEqDiff,reduceIte,‹Fc _›.h];done),?_⟩;refine b3h ⟨?_⟩;exact b12 hc (by decide) rfl
           ·intro ee OO mm aa ss hc ha h0 hd;have e46_0:Vm.look 46 ee=.opt true (.ref 4):=hd 4 rfl;have e44_0:Vm.look 44 ee=.bool true:=hd 2 rfl;have F:=fq4 h0.1 h0.2 e46_0 e44_0;refine ⟨by first | rfl | (simp only [zV,b04,Nat.reduceEqDiff,reduceIte,‹Fc _›.h];done),?_⟩;refine f9f ⟨?_⟩;exact b12 hc (by decide) rfl
           ·intro ee OO mm aa ss hc ha h0 hd;have e44_0:Vm.look 44 ee=.bool true:=hd 2 rfl;have F:=fq3 h0.1 h0.2 e44_0;refine ⟨by first | rfl | (simp only [zV,b04,Nat.reduceEqDiff,reduceIte,‹Fc _›.h];done),?_⟩;refine b34 ⟨?_⟩;exact b12 hc (by decide) rfl
           ·intro ee OO mm aa ss hc ha h0 hd;have e48_0:Vm.look 48 ee=.opt true (.ptr 0 0 0):=hd 6 rfl;have e44_0:Vm.look 44 ee=.bool true:=hd 2 rfl;have F:=fq2 e48_0 e44_0;refine ⟨by first | rfl | (simp only [zV,b04,Nat.reduceEqDiff,reduceIte,‹Fc _›.h];done),?_⟩;refine d64 (b2d code aa ss (2) hcode hcl (by omega)) ⟨?_⟩;rintro _ _ ⟨v,a2,s2,hq,hk,rfl,rfl⟩;refine zEl ⟨?_⟩;exact c49 hc (by omega) ⟨v,rfl⟩
           ·intro ee OO mm aa ss hc ha h0 hd;obtain ⟨x49,e49_0⟩:=hd 7 rfl;have e44_0:Vm.look 44 ee=.bool true:=hd 2 rfl;have F:=fq2 e49_0 e44_0;refine ⟨by first | rfl | (simp only [zV,b04,Nat.reduceEqDiff,reduceIte,‹Fc _›.h];done),?_⟩;refine c2l ⟨?_⟩;exact b12 hc (by decide) ⟨_,rfl⟩
           ·intro ee OO mm aa ss hc ha h0 hd;have e47_0:Vm.look 47 ee=.opt true (.int .i64 (l2.length:Int)):=hd 5 rfl;obtain ⟨x50,e50_0⟩:=hd 8 rfl;have e44_0:Vm.look 44 ee=.bool true:=hd 2 rfl;have F:=fq3 e47_0 e50_0 e44_0;refine ⟨by first | rfl | (simp only [zV,b04,Nat.reduceEqDiff,reduceIte,‹Fc _›.h];done),?_⟩;refine c2l ⟨?_⟩;exact b12 hc (by decide) ⟨_,rfl⟩
          ·intro K29 q29 k29 ee OO mm a29 s29 hc ha29 h0 hd;obtain ⟨e0_0,e0_1,e0_2,e0_3,e0_4,⟨n0_0,b0_0⟩,⟨n0_1,b0_1⟩,⟨n0_2,b0_2⟩,⟨n0_3,b0_3⟩⟩:=h0;have e44_0:Vm.look 44 ee=.bool true:=hd 2 rfl;obtain ⟨x51,e51_0⟩:=hd 9 rfl;have F:=f9g e0_0 e0_1 e0_2 e0_3 e0_4 b0_0 b0_1 b0_2 b0_3 e44_0 e51_0 hc;show b1r _ _ _ _ 1 #[true,true,true,true,true,true,true,true,true,true,false] _;refine b1p q29 true 10 52 ?_;refine b0b (by kernel_rfl) ?_;refine k29 _ ?_;refine n28 (x51,a29,s29) _ ?_ ?_
           ·show a4≤a29∧a29≤a4+44;omega
           ·exact b45 _ _ [0,1,2,3,4] (by decide) (by simp) rfl (by simp [b0j,V.ren,V.renL,‹Fc _›.h]) (by simp) (by simp [V.only,V.onlyL]) (by simp [b8t,Blk.renM,b1b,b1c,b1m,V.ren,V.renL,‹Fc _›.h]) (by simp [Blk.onlyM,b1b,b1c,b1m,V.only,V.onlyL])
         ·rintro ⟨go,a5,s5⟩ hok28;obtain ⟨ha5,ha5b⟩:=hok28;simp only [] at ha5 ha5b⊢;refine b0a _ rfl ?_ ?_
          ·intro hc4;refine zn [0,2,3,4,5] ⟨?_⟩;refine b0e ?_;intros;refine b0i ?_;intros;have F:=Fc.mk hdb;refine yQ [0,2,3,4,5] ⟨?_⟩;refine yV ⟨?_⟩;refine n26 _ (l2++[(m,b,60)],b+1,a5,s5) ?_ ?_ ?_
           ·refine b1o [0,2,3,4,5] [0,1,2,3,6] ⟨?_⟩;rw [d58]
           ·exact ⟨by show ((l2++_).length:Int)≤14 * m+(b+1 - 1);simp;omega,by show 1≤b+1∧b+1≤14;omega,by show a3≤a5∧a5≤a3+60 * (b+1);omega⟩
           ·show _ < _;simp only [];omega
          ·intro hc4;refine zn [0,2,3,4] ⟨?_⟩;have F:=Fc.mk hdb;refine yV ⟨?_⟩;refine n18 _ (l2,m+1,a5,s5) ?_ ?_ ?_
           ·exact b0q [0,2,3,4] [0,1,2,3,4]
           ·exact ⟨by show (l2.length:Int)≤14 * (m+1);omega,by show 0≤m+1∧m+1≤4;omega,by show a9≤a5∧a5≤a9+1000 * (m+1);omega⟩
           ·show _ < _;simp only [];omega
        ·skip;have hdb:decide (b < 14)=false:=decide_eq_false (by omega);refine b0e ?_;intros;refine b3u (A:=Bool×Int×Int) (fun p=>⟨[(0,.ptr 0 0 0),(2,.ptr 2 0 0),(3,.ptr 3 0 0),(4,.int .i64 m),(5,.int .i64 b),(52,.bool p.1)],[cQ code p.2.1 p.2.2,eQ,.box (.agg [.int .i64 0,.ref 1]) .mix,.box (.agg [.int .i64 14,.ref 4]) .mix,aQ rQd l2],false,64,0⟩) (fun p=>p.1=false∧a4≤p.2.1∧p.2.1≤a4+44) ?_ ?_
         ·intro Q37 n37 e37 r37;refine c2j 11 (fun a s:Int=>cQ code a s) 4 [0,1,2,3,4,5,6,7,8,9] [0,2,3,4,5] [[42],[43],[44],[45],[46],[47],[48],[49],[50],[51],[]] (fun O g=>g 0=.ptr 0 0 0∧g 2=.ptr 2 0 0∧g 3=.ptr 3 0 0∧g 4=.int .i64 m∧g 5=.int .i64 b∧(1≠0∧O[1]? =some (eQ))∧(2≠0∧O[2]? =some (Blk.box (.agg [.int .i64 0,.ref 1]) .mix))∧(3≠0∧O[3]? =some (Blk.box (.agg [.int .i64 14,.ref 4]) .mix))∧(4≠0∧O[4]? =some (Blk.arr (l2.map rQd) .flat))) [fun O g=>g 42=.int .i64 b,fun O g=>g 43=.bool false,fun O g=>g 44=.bool false,fun O g=>g 45=.opt false .any,fun O g=>g 46=.opt false .any,fun O g=>g 47=.opt false .any,fun O g=>g 48=.opt false .any,fun O g=>g 49=.opt false .any,fun O g=>g 50=.opt false .any,fun O g=>g 51=.opt false .any,b8w] rfl tyk f15 ?_ ?_ ?_
          ·exact ⟨rfl,rfl,rfl,rfl,rfl,⟨by decide,rfl⟩,⟨by decide,rfl⟩,⟨by decide,rfl⟩,⟨by decide,rfl⟩⟩
          ·refine b0o 11 ?_ (b0o 11 ?_ (b0o 11 ?_ (b8j 11 ?_ (b8j 11 ?_ (b8j 11 ?_ (b8j 11 ?_ (b8j 11 ?_ (b8j 11 ?_ (b8j 11 ?_ b8c)))))))))
           ·intro ee OO mm aa ss hc ha h0 hd;have F:=fq2 h0.1 h0.2;refine b34 ⟨?_⟩;exact b12 hc (by decide) rfl
           ·intro ee OO mm aa ss hc ha h0 hd;have e42_0:Vm.look 42 ee=.int .i64 b:=hd 0 rfl;have F:=fq2 e42_0 hdb;refine c2l ⟨?_⟩;exact b12 hc (by decide) rfl
           ·intro ee OO mm aa ss hc ha h0 hd;have e43_0:Vm.look 43 ee=.bool false:=hd 1 rfl;have F:=Fc.mk e43_0;refine b34 ⟨?_⟩;exact b12 hc (by decide) rfl
           ·intro ee OO mm aa ss hc ha h0 hd;have e44_0:Vm.look 44 ee=.bool false:=hd 2 rfl;have F:=fq3 h0.1 h0.2 e44_0;refine ⟨by first | rfl | (simp only [zV,b04,Nat.reduceEqDiff,reduceIte,‹Fc _›.h];done),?_⟩;exact b12 hc (by decide) rfl
           ·intro ee OO mm aa ss hc ha h0 hd;have e45_0:Vm.look 45 ee=.opt false .any:=hd 3 rfl;have e44_0:Vm.look 44 ee=.bool false:=hd 2 rfl;have F:=fq2 e45_0 e44_0;refine ⟨by first | rfl | (simp only [zV,b04,Nat.reduceEqDiff,reduceIte,‹Fc _›.h];done),?_⟩;exact b12 hc (by decide) rfl
           ·intro ee OO mm aa ss hc ha h0 hd;have e46_0:Vm.look 46 ee=.opt false .any:=hd 4 rfl;have e44_0:Vm.look 44 ee=.bool false:=hd 2 rfl;have F:=fq2 e46_0 e44_0;refine ⟨by first | rfl | (simp only [zV,b04,Nat.reduceEqDiff,reduceIte,‹Fc _›.h];done),?_⟩;exact b12 hc (by decide) rfl
           ·intro ee OO mm aa ss hc ha h0 hd;have e44_0:Vm.look 44 ee=.bool false:=hd 2 rfl;have F:=fq3 h0.1 h0.2 e44_0;refine ⟨by first | rfl | (simp only [zV,b04,Nat.reduceEqDiff,reduceIte,‹Fc _›.h];done),?_⟩;exact b12 hc (by decide) rfl
           ·intro ee OO mm aa ss hc ha h0 hd;have e48_0:Vm.look 48 ee=.opt false .any:=hd 6 rfl;have e44_0:Vm.look 44 ee=.bool false:=hd 2 rfl;have F:=fq2 e48_0 e44_0;refine ⟨by first | rfl | (simp only [zV,b04,Nat.reduceEqDiff,reduceIte,‹Fc _›.h];done),?_⟩;exact b12 hc (by decide) rfl
           ·intro ee OO mm aa ss hc ha h0 hd;have e49_0:Vm.look 49 ee=.opt false .any:=hd 7 rfl;have e44_0:Vm.look 44 ee=.bool false:=hd 2 rfl;have F:=fq2 e49_0 e44_0;refine ⟨by first | rfl | (simp only [zV,b04,Nat.reduceEqDiff,reduceIte,‹Fc _›.h];done),?_⟩;exact b12 hc (by decide) rfl
           ·intro ee OO mm aa ss hc ha h0 hd;have e47_0:Vm.look 47 ee=.opt false .any:=hd 5 rfl;have e50_0:Vm.look 50 ee=.opt false .any:=hd 8 rfl;have e44_0:Vm.look 44 ee=.bool false:=hd 2 rfl;have F:=fq3 e47_0 e50_0 e44_0;refine ⟨by first | rfl | (simp only [zV,b04,Nat.reduceEqDiff,reduceIte,‹Fc _›.h];done),?_⟩;exact b12 hc (by decide) rfl
          ·intro K38 q38 k38 ee OO mm a38 s38 hc ha38 h0 hd;obtain ⟨e0_0,e0_1,e0_2,e0_3,e0_4,⟨n0_0,b0_0⟩,⟨n0_1,b0_1⟩,⟨n0_2,b0_2⟩,⟨n0_3,b0_3⟩⟩:=h0;have e44_0:Vm.look 44 ee=.bool false:=hd 2 rfl;have e51_0:Vm.look 51 ee=.opt false .any:=hd 9 rfl;have F:=f9g e0_0 e0_1 e0_2 e0_3 e0_4 b0_0 b0_1 b0_2 b0_3 e44_0 e51_0 hc;show b1r _ _ _ _ 1 #[true,true,true,true,true,true,true,true,true,true,false] _;refine b1p q38 true 10 52 ?_;refine b0b (by kernel_rfl) ?_;refine k38 _ ?_;refine n37 (false,a38,s38) _ ?_ ?_
           ·exact ⟨rfl,by show a4≤a38∧a38≤a4+44;omega⟩
           ·exact b45 _ _ [0,1,2,3,4] (by decide) (by simp) rfl (by simp [b0j,V.ren,V.renL,‹Fc _›.h]) (by simp) (by simp [V.only,V.onlyL]) (by simp [b8t,Blk.renM,b1b,b1c,b1m,V.ren,V.renL,‹Fc _›.h]) (by simp [Blk.onlyM,b1b,b1c,b1m,V.only,V.onlyL])
         ·rintro ⟨go,a5,s5⟩ hok37;obtain ⟨hgo,ha5⟩:=hok37;simp only [] at hgo ha5⊢;refine b18 _ rfl ?_ ?_
          ·intro hc4;exfalso;rw [hgo] at hc4;cases hc4
          ·intro hc4;try simp only [zC,reduceCtorEq] at hc4
           refine zn [0,2,3,4] ⟨?_⟩;have F:=Fc.mk hdb;refine yV ⟨?_⟩;refine n18 _ (l2,m+1,a5,s5) ?_ ?_ ?_
           ·exact b0q [0,2,3,4] [0,1,2,3,4]
           ·exact ⟨by show (l2.length:Int)≤14 * (m+1);omega,by show 0≤m+1∧m+1≤4;omega,by show a9≤a5∧a5≤a9+1000 * (m+1);omega⟩
           ·show _ < _;simp only [];omega
      ·intro hc3;refine zx ⟨?_⟩;refine n3 (14,l1,a3,s3) _ ?_ ?_
       ·exact ⟨by show l1.length≤302;omega,by show a≤a3∧a3≤a+39000;omega⟩
       ·exact b0q [2,3] [0,1,2,3,4]
    ·intro hc2;refine zx ⟨?_⟩;refine n3 (n7,l7,a9,s9) _ ?_ ?_
     ·exact ⟨by show l7.length≤302;omega,by show a≤a9∧a9≤a+39000;omega⟩
     ·exact b0q [2,3] [0,1,2,5,3]
 ·rintro ⟨n,l,a8,s8⟩ hok3;obtain ⟨hll,ha8⟩:=hok3;simp only [] at hll ha8⊢;have F:=Fc.mk True.intro;refine yR [2] ⟨?_⟩;refine zq1 ⟨?_⟩;refine b1a ?_;exact ⟨n,l,_,_,by omega,by omega,rfl,rfl⟩
set_option maxRecDepth 8000 in
theorem d6f (code:List Int) (a s:Int) (hcode:∀x∈code,0≤x∧x≤255) (hcl:code.length≤9223372036854775807) (ha:0≤a∧a < 13000000000):b74 Tryz.prog 63 [.ptr 0 0 0] [cQ code a s] (fun r O'=>∃(n:Int) (l:List TS) (fl:List TA) (a' s':Int),(l.length≤302∧fl.length≤13∧∀x∈fl,x.1.size≤9)∧(a≤a'∧a'≤a+90000)∧r=.tup [.agg [.int .i64 n,.ref 1],.ref 2]∧O'=[cQ code a' s',aQ rQd l,aQ rQa fl]):=by
 refine zcx [.cell 2 26,.tmp 3] [(85,[0,1]),(34,[0]),(35,[0]),(80,[0]),(84,[0]),(126,[0])] Tryz.func63 Tryz.ntmps63 ⟨?_⟩;intro Q0 n0 r0;have T:=Tys.mk (ai Ty.t3 (ai Ty.t4 (ai Ty.t5 (ai Ty.t9 (ai Ty.t22 (ai Ty.t24 (ai Ty.t26 (ai Ty.t27 (ai Ty.t53 (ai Ty.t68 (ai Ty.t69 (ai Ty.t71 Ty.t127))))))))))));have F:=Fc.mk True.intro;refine yR [0,2] ⟨?_⟩;refine b1l [0,2,4] ?_;intro K2 k2;refine b15 ⟨?_⟩;refine zxl (d1o code a s hcode hcl (by omega)) ⟨?_⟩;rintro _ _ ⟨n7,l7,a7,s7,h7,k7,rfl,rfl⟩;refine zEl ⟨?_⟩;refine zq8 ⟨?_⟩;refine k2 _ ?_;refine zk ⟨?_⟩;refine b3u (A:=Int×List TS×Int×Int) (fun p=>⟨[(0,.ptr 0 0 0),(2,.ptr 2 0 0),(4,.ptr 3 0 0)],[cQ code p.2.2.1 p.2.2.2,eQ,.box (.agg [.int .i64 0,.ref 1]) .mix,.box (.agg [.int .i64 p.1,.ref 4]) .mix,aQ rQd p.2.1],false,22,0⟩) (fun p=>p.2.1.length≤302∧a≤p.2.2.1∧p.2.2.1≤a+71000) ?_ ?_
 ·intro Q3 n3 e3 r3;refine b1l [0,2,4,9] ?_;intro K4 k4;refine b15 ⟨?_⟩;refine zxl (b6c code a7 s7 (24) hcode hcl (by omega)) ⟨?_⟩;rintro _ _ ⟨v9,a9,s9,h9,k9,rfl,rfl⟩;refine zEl ⟨?_⟩;refine k4 _ ?_;refine zk ⟨?_⟩;refine b0a _ rfl ?_ ?_
  ·intro hc0;refine b2m ?_;intro K6 k6;refine b15 ⟨?_⟩;refine zxl (c66 code a9 s9 hcode hcl (by omega)) ⟨?_⟩;rintro _ _ ⟨n11,l11,a11,s11,h11,k11,rfl,rfl⟩;refine zEl ⟨?_⟩;refine b7a ⟨?_⟩;refine k6 _ ?_;refine n3 (n11,l11,a11,s11) _ ?_ ?_
   ·exact ⟨h11,by show a≤a11∧a11≤a+71000;omega⟩
   ·exact b0q [0,2,4] [0,1,2,6,7]
  ·intro hc0;refine b5z ?_;refine n3 (n7,l7,a9,s9) _ ?_ ?_
   ·exact ⟨by show l7.length≤302;omega,by show a≤a9∧a9≤a+71000;omega⟩
   ·exact b0q [0,2,4] [0,1,2,6,4]
 ·rintro ⟨n,l,a1,s1⟩ hok3;obtain ⟨hll,ha1⟩:=hok3;simp only [] at hll ha1⊢;obtain ⟨lo,hlo⟩:∃lo,lo=if n < 14 then n else 14:=⟨_,rfl⟩;obtain ⟨hi,hhi⟩:∃hi,hi=if lo > 1 then lo else 1:=⟨_,rfl⟩;have c1:=c2u 14 n;have c2:=c5c 1 lo;rw [←hlo] at c1;rw [←hhi] at c2;have F:=Fc.mk True.intro;refine f86 [0,2,4,5] (c1) (c2) ⟨?_⟩;refine b3u (A:=TS) (fun p=>⟨[(0,.ptr 0 0 0),(2,.ptr 2 0 0),(4,.ptr 3 0 0),(5,.int .i64 p.1)],[cQ code p.2.1 p.2.2,eQ,.box (.agg [.int .i64 0,.ref 1]) .mix,.box (.agg [.int .i64 n,.ref 4]) .mix,aQ rQd l],false,22,0⟩) (fun p=>a1≤p.2.1∧p.2.1≤a1+4) ?_ ?_
  ·intro Q8 n8 e8 r8;refine b1l [0,2,4,5,17] ?_;intro K9 k9;refine b15 ⟨?_⟩;refine zxl (b6c code a1 s1 (24) hcode hcl (by omega)) ⟨?_⟩;rintro _ _ ⟨v17,a17,s17,h17,k17,rfl,rfl⟩;refine zEl ⟨?_⟩;refine k9 _ ?_;refine zk ⟨?_⟩;refine b0a _ rfl ?_ ?_
   ·intro hc1;refine yV ⟨?_⟩;refine n8 (14,a17,s17) _ ?_ ?_
    ·show a1≤a17∧a17≤a1+4;omega
    ·exact b0q [0,2,4,5] [0,1,2,3,4]
   ·intro hc1;refine b5z ?_;refine n8 (hi,a17,s17) _ ?_ ?_
    ·show a1≤a17∧a17≤a1+4;omega
    ·exact b0q [0,2,4,5] [0,1,2,3,4]
  ·rintro ⟨nn,a2,s2⟩ hok8;obtain ⟨ha2,ha2b⟩:=hok8;simp only [] at ha2 ha2b⊢;refine b3u (A:=List TA×Int×Int) (fun p=>⟨[(2,.ptr 1 0 0),(3,.ref 3)],[cQ code p.2.1 p.2.2,.box (.agg [.int .i64 n,.ref 2]) .mix,aQ rQd l,aQ rQa p.1],false,22,0⟩) (fun p=>(p.1.length≤13∧∀x∈p.1,x.1.size≤9)∧a2≤p.2.1∧p.2.1≤a2+7200) ?_ ?_
   ·intro Q12 n12 e12 r12;refine c2j 6 (fun a s:Int=>cQ code a s) 1200 [0,1,2,3] [0,2,4,5] [[18],[19],[20],[21],[],[]] (fun O g=>g 0=.ptr 0 0 0∧g 2=.ptr 2 0 0∧g 4=.ptr 3 0 0∧g 5=.int .i64 nn∧(1≠0∧O[1]? =some (eQ))∧(2≠0∧O[2]? =some (Blk.box (.agg [.int .i64 0,.ref 1]) .mix))∧(3≠0∧O[3]? =some (Blk.box (.agg [.int .i64 n,.ref 4]) .mix))∧(4≠0∧O[4]? =some (Blk.arr (l.map rQd) .flat))) [fun O g=>g 18=.agg [.int .i64 n,.ref 4],fun O g=>g 19=.ptr 0 0 0,fun O g=>g 20=.int .i64 nn,fun O g=>∃x:Nat×List TA,g 21=.ref x.1∧(x.1≠0∧O[x.1]? =some (Blk.arr (x.2.map rQa) .flat))∧(5≤x.1∧x.2.length≤13∧∀y∈x.2,y.1.size≤9),b8w,b8w] rfl tyk f15 ?_ ?_ ?_
    ·exact ⟨rfl,rfl,rfl,rfl,⟨by decide,rfl⟩,⟨by decide,rfl⟩,⟨by decide,rfl⟩,⟨by decide,rfl⟩⟩
    ·refine b0o 6 ?_ (b0o 6 ?_ (b0o 6 ?_ (b0o 6 ?_ b8c)))
     ·intro ee OO mm aa ss hc ha h0 hd;have F:=fq2 h0.1 h0.2;refine b3h ⟨?_⟩;exact b12 hc (by decide) rfl
     ·intro ee OO mm aa ss hc ha h0 hd;have F:=fq2 h0.1 h0.2;refine b34 ⟨?_⟩;exact b12 hc (by decide) rfl
     ·intro ee OO mm aa ss hc ha h0 hd;have F:=fq2 h0.1 h0.2;refine b34 ⟨?_⟩;exact b12 hc (by decide) rfl
     ·intro ee OO mm aa ss hc ha h0 hd;have e19_0:Vm.look 19 ee=.ptr 0 0 0:=hd 1 rfl;have e20_0:Vm.look 20 ee=.int .i64 nn:=hd 2 rfl;have hlen:=b4n h0.2.2.2.2.2.2.2.2;have F:=fq2 e19_0 e20_0;refine d64 (d4m code aa ss nn hcode hcl (by omega)) ⟨?_⟩;rintro _ _ ⟨v,a2,s2,hq,hk,rfl,rfl⟩;refine zEl ⟨?_⟩;exact f8m hc (by omega) ⟨⟨_,v⟩,rfl,⟨by omega,by simp⟩,by omega,hq⟩
    ·intro K13 q13 k13 ee OO mm a13 s13 hc ha13 h0 hd;obtain ⟨e0_0,e0_1,e0_2,e0_3,⟨n0_0,b0_0⟩,⟨n0_1,b0_1⟩,⟨n0_2,b0_2⟩,⟨n0_3,b0_3⟩⟩:=h0;have e18_0:Vm.look 18 ee=.agg [.int .i64 n,.ref 4]:=hd 0 rfl;obtain ⟨⟨k21,l21⟩,e21_0,⟨n21_0,b21_0⟩,q21⟩:=hd 3 rfl;have hz:k21≠2∧k21≠0:=by omega
     have hl2:2 < OO.length:=b4n b0_1;have F:=f9g e0_0 e0_1 e0_2 e0_3 b0_0 b0_1 b0_2 b0_3 e18_0 e21_0 b21_0 hc;show b1r _ _ _ _ 2 #[true,true,true,true,false,false] _;refine b06 4 ⟨?_⟩;refine b0p 5 ⟨?_⟩;refine b0b (by kernel_rfl) ?_;refine k13 _ ?_;refine n12 (l21,a13,s13) _ ?_ ?_
     ·exact ⟨q21.2,by show a2≤a13∧a13≤a2+7200;omega⟩
     ·exact b45 _ _ [0,2,4,k21] (by simp;omega) (by simp) rfl (by simp [b0j,V.ren,V.renL,‹Fc _›.h]) (by simp) (by simp [V.only,V.onlyL]) (by simp [b8t,Blk.renM,b1b,b1c,b1m,V.ren,V.renL,‹Fc _›.h,List.getElem?_set,hz,hl2,Ne.symm hz.1]) (by simp [Blk.onlyM,b1b,b1c,b1m,V.only,V.onlyL])
   ·rintro ⟨fl,a3,s3⟩ hok12;obtain ⟨hfl,ha3⟩:=hok12;simp only [] at hfl ha3⊢;refine zq1 ⟨?_⟩;refine b1a ?_;exact ⟨n,l,fl,_,_,⟨hll,hfl⟩,by omega,rfl,rfl⟩
end Go.Proofs.YtmbbjhopngejaaaGreatDoor
