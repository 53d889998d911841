/- What functions compute. No condition. -/
import Derived.Test.YtmbbjhopngejaaaGreatDoorX34
set_option linter.unusedSimpArgs false
set_option linter.unusedVariables false
set_option linter.defProp false
namespace Go.Proofs.YtmbbjhopngejaaaGreatDoor
open Go Go.Vm
set_option maxHeartbeats 8000000
theorem b9q (code:List Int) (hcode:∀x∈code,0≤x∧x≤255) (hcl:code.length≤9223372036854775807):b74 Tryz.prog 69 [.sl (code.map (V.int .u8))] [] (fun r O'=>∃(n:Int) (l:List TS) (fl:List TA) (ins:List TI) (ws:List TW),(l.length≤302∧CtQ fl ins ws)∧r=.tup [tQ n l,kQ fl ins ws]∧O'=[]):=by
 refine zcx [.cell 2 26,.cell 3 31] [(33,[0])] Tryz.func69 Tryz.ntmps69 ⟨?_⟩;intro Q0 n0 r0;have T:=Tys.mk (ai Ty.t3 (ai Ty.t4 (ai Ty.t5 (ai Ty.t9 (ai Ty.t22 (ai Ty.t24 (ai Ty.t26 (ai Ty.t27 (ai Ty.t28 (ai Ty.t29 (ai Ty.t31 (ai Ty.t32 (ai Ty.t35 (ai Ty.t53 (ai Ty.t55 (ai Ty.t68 (ai Ty.t69 (ai Ty.t71 (ai Ty.t91 Ty.t127)))))))))))))))))));have F:=Fc.mk True.intro;refine yR [0,2,3] ⟨?_⟩;refine yR [2,3,4] ⟨?_⟩;refine b1l [2,3] ?_;intro K3 k3;refine b15 ⟨?_⟩;refine zxl (b98 code 0 0 hcode hcl (by omega)) ⟨?_⟩;rintro _ _ ⟨n9,l9,fl9,ins9,ws9,a9,s9,h9,k9,rfl,rfl⟩;refine zEl ⟨?_⟩;refine zq7 ⟨?_⟩;refine b7a ⟨?_⟩;refine b7a ⟨?_⟩;refine k3 _ ?_;refine zq6 ⟨?_⟩;try refine zCl ⟨?_⟩
 refine b1a ?_;exact ⟨n9,l9,fl9,ins9,ws9,h9,rfl,rfl⟩
theorem c30 (code:List Int) (hcode:∀x∈code,0≤x∧x≤255) (hcl:code.length≤9223372036854775807):b74 Tryz.prog 27 [.sl (code.map (V.int .u8))] [] (fun r O'=>∃(n:Int) (l:List TS) (fl:List TA) (ins:List TI) (ws:List TW),(l.length≤302∧CtQ fl ins ws)∧r=.tup [tQ n l,kQ fl ins ws]∧O'=[]):=by
 refine zcx [.cell 2 26,.cell 3 31] [] Tryz.func27 Tryz.ntmps27 ⟨?_⟩;intro Q0 n0 r0;have T:=Tys.mk (ai Ty.t3 (ai Ty.t4 (ai Ty.t5 (ai Ty.t9 (ai Ty.t22 (ai Ty.t24 (ai Ty.t26 (ai Ty.t27 (ai Ty.t28 (ai Ty.t29 (ai Ty.t31 (ai Ty.t32 (ai Ty.t35 (ai Ty.t53 (ai Ty.t55 (ai Ty.t91 Ty.t127))))))))))))))));have F:=Fc.mk True.intro;refine yR [0,2,3] ⟨?_⟩;refine b1l [2,3] ?_;intro K2 k2;refine b15 ⟨?_⟩;refine zxn (b9q code hcode hcl) ⟨?_⟩;rintro _ _ ⟨n,l,fl,ins,ws,hq,rfl,rfl⟩;refine zEn ⟨?_⟩;refine zq7 ⟨?_⟩;refine b7a ⟨?_⟩;refine b7a ⟨?_⟩;refine k2 _ ?_;refine zq6 ⟨?_⟩;try refine zCl ⟨?_⟩
 refine b1a ?_;exact ⟨n,l,fl,ins,ws,hq,rfl,rfl⟩
theorem c2t (code:List Int) (hcode:∀x∈code,0≤x∧x≤255) (hcl:code.length≤9223372036854775807):b74 Tryz.prog 24 [.sl (code.map (V.int .u8))] [] (fun r O'=>∃(n:Int) (l:List TS) (fl:List TA) (ins:List TI) (ws:List TW),(l.length≤302∧CtQ fl ins ws)∧r=.tup [tQ n l,kQ fl ins ws]∧O'=[]):=by
 refine zcx [.cell 2 26,.cell 3 31] [] Tryz.func24 Tryz.ntmps24 ⟨?_⟩;intro Q0 n0 r0;have T:=Tys.mk (ai Ty.t3 (ai Ty.t4 (ai Ty.t5 (ai Ty.t9 (ai Ty.t22 (ai Ty.t24 (ai Ty.t26 (ai Ty.t27 (ai Ty.t28 (ai Ty.t29 (ai Ty.t31 (ai Ty.t32 (ai Ty.t35 (ai Ty.t53 (ai Ty.t55 (ai Ty.t91 Ty.t127))))))))))))))));have F:=Fc.mk True.intro;refine yR [0,2,3] ⟨?_⟩;refine b1l [2,3] ?_;intro K2 k2;refine b15 ⟨?_⟩;refine zxn (b9q code hcode hcl) ⟨?_⟩;rintro _ _ ⟨n,l,fl,ins,ws,hq,rfl,rfl⟩;refine zEn ⟨?_⟩;refine zq7 ⟨?_⟩;refine b7a ⟨?_⟩;refine b7a ⟨?_⟩;refine k2 _ ?_;refine zq6 ⟨?_⟩;try refine zCl ⟨?_⟩
 refine b1a ?_;exact ⟨n,l,fl,ins,ws,hq,rfl,rfl⟩
theorem f90 (fl:List TA) (s:ByteArray):b3o fl s=-1∨(∃k z0 z1 z2 z3 z4,b3o fl s=((k:Nat):Int)∧fl[k]? =some (z0,z1,z2,z3,z4)∧c0r (z0,z1,z2,z3,z4)=false)∨∃k z0 z1 z2 z3 z4,b3o fl s=((k:Nat):Int)∧fl[k]? =some (z0,z1,z2,z3,z4)∧c0r (z0,z1,z2,z3,z4)=true:=by
  rcases b8h fl s with h | ⟨k,⟨z0,z1,z2,z3,z4⟩,h1,h2,_⟩
  · exact .inl h
  · right
    cases q:c0r (z0,z1,z2,z3,z4) with
    | false=>exact .inl ⟨k,z0,z1,z2,z3,z4,h1,h2,q⟩
    | true=>exact .inr ⟨k,z0,z1,z2,z3,z4,h1,h2,q⟩
theorem f4z (s:Int):0 < (b7o s).length∧(b7o s).length≤3∧∀x∈b7o s,0≤x∧x≤5:=by
  unfold b7o;repeat' split
  all_goals simp
set_option maxRecDepth 8000 in
theorem c2o (code:List Int) (hcode:∀x∈code,0≤x∧x≤255) (hcl:code.length≤9223372036854775807):b74 Tryz.prog 12 [.sl (code.map (V.int .u8))] [] (fun r O'=>∃(n:Int) (l:List TS) (fl:List TA) (ins:List TI) (ws:List TW) (v:ByteArray) (st:Int),((l.length≤302∧CtQ fl ins ws)∧v.size≤9∧-1≤st∧st≤6)∧r=.tup [tQ n l,kQ fl ins ws,.str v,.int .i64 st]∧O'=[]):=by
 refine zcx [.cell 2 26,.cell 3 31,.tmp 4,.tmp 5] [(33,[0]),(49,[0]),(53,[0]),(85,[0,1]),(34,[0]),(35,[0])] Tryz.func12 Tryz.ntmps12 ⟨?_⟩;intro Q0 n0 r0;have T:=Tys.mk (ai Ty.t3 (ai Ty.t4 (ai Ty.t5 (ai Ty.t9 (ai Ty.t22 (ai Ty.t24 (ai Ty.t26 (ai Ty.t27 (ai Ty.t28 (ai Ty.t29 (ai Ty.t31 (ai Ty.t32 (ai Ty.t35 (ai Ty.t53 (ai Ty.t55 (ai Ty.t68 (ai Ty.t69 (ai Ty.t71 (ai Ty.t91 Ty.t127)))))))))))))))))));have F:=Fc.mk True.intro;refine yR [0,2,3] ⟨?_⟩;refine yR [2,3,6] ⟨?_⟩;refine b3u (A:=Int×List TS×List TA×List TI×List TW×Int×Int) (fun p=>⟨[(2,.ptr 2 0 0),(3,.ptr 6 0 0),(6,.ptr 0 0 0),(7,.pv [tQ p.1 p.2.1] 0 0),(8,.pv [kQ p.2.2.1 p.2.2.2.1 p.2.2.2.2.1] 0 0)],[cQ code p.2.2.2.2.2.1 p.2.2.2.2.2.2,eQ,.box (.agg [.int .i64 0,.ref 1]) .mix,eQ,eQ,eQ,bQ 3 4 5],false,64,0⟩) (fun p=>(p.2.1.length≤302∧CtQ p.2.2.1 p.2.2.2.1 p.2.2.2.2.1)∧0≤p.2.2.2.2.2.1∧p.2.2.2.2.2.1≤100000) ?_ ?_
 ·intro Q3 n3 e3 r3;refine b2m ?_;intro K4 k4;refine b15 ⟨?_⟩;refine zxl (b98 code 0 0 hcode hcl (by omega)) ⟨?_⟩;rintro _ _ ⟨n17,l17,fl17,ins17,ws17,a17,s17,h17,k17,rfl,rfl⟩;refine zEl ⟨?_⟩;refine f0q ⟨?_⟩;refine f6r ⟨?_⟩;refine k4 _ ?_;refine n3 (n17,l17,fl17,ins17,ws17,a17,s17) _ ?_ ?_
  ·exact ⟨h17,by show 0≤a17∧a17≤100000;omega⟩
  ·refine b00 (b00 (b4p 7 8 _ rfl rfl) (b4p 8 12 _ rfl rfl)) ?_;simp only [List.set_cons_succ,List.set_cons_zero]
   ·exact b0q [2,3,6,7,8] [6,0,1,2,3,4,5]
 ·rintro ⟨n,l,fl,ins,ws,a1,s1⟩ hok3;obtain ⟨hQ0,ha1⟩:=hok3;simp only [] at hQ0 ha1⊢;obtain ⟨⟨q1,q2⟩,⟨q3,q4,q5⟩,q6,q7⟩:=hQ0.2;refine b3u (A:=ByteArray×Int×Int) (fun p=>⟨[(2,.ptr 2 0 0),(3,.ptr 6 0 0),(6,.ptr 0 0 0),(7,.pv [tQ n l] 0 0),(8,.pv [kQ fl ins ws] 0 0),(9,.str p.1)],[cQ code p.2.1 p.2.2,eQ,.box (.agg [.int .i64 0,.ref 1]) .mix,eQ,eQ,eQ,bQ 3 4 5],false,64,0⟩) (fun p=>p.1.size≤9∧0≤p.2.1∧p.2.1≤100010) ?_ ?_
  ·intro Q5 n5 e5 r5;refine b2m ?_;intro K6 k6;have F:=Fc.mk True.intro;refine b15 ⟨?_⟩;refine f0s ⟨?_⟩;refine zxl (c1l code a1 s1 fl (by omega) q2 hcode hcl (by omega)) ⟨?_⟩;rintro _ _ ⟨v23,a23,s23,h23,k23,rfl,rfl⟩;refine f6u ⟨?_⟩;refine k6 _ ?_;refine n5 (v23,a23,s23) _ ?_ ?_
   ·exact ⟨h23,by show 0≤a23∧a23≤100010;omega⟩
   ·exact b0q [2,3,6,7,8,9] [0,1,2,3,4,5,6]
  ·rintro ⟨nm,a2,s2⟩ hok5;obtain ⟨hnz,hna⟩:=hok5;try simp only [] at hnz hna⊢
   refine b3u (A:=Int×Int) (fun p=>⟨[(2,.ptr 2 0 0),(3,.ptr 6 0 0),(6,.ptr 0 0 0),(7,.pv [tQ n l] 0 0),(8,.pv [kQ fl ins ws] 0 0),(9,.str nm)],[cQ code p.1 p.2,eQ,.box (.agg [.int .i64 0,.ref 1]) .mix,eQ,eQ,eQ,bQ 3 4 5],false,64,0⟩) (fun p=>0≤p.1∧p.1≤100020) ?_ ?_
   ·intro Q7 n7 e7 r7;refine b3u (A:=Unit) (fun p=>⟨[(2,.ptr 2 0 0),(3,.ptr 6 0 0),(6,.ptr 0 0 0),(7,.pv [tQ n l] 0 0),(8,.pv [kQ fl ins ws] 0 0),(9,.str nm),(10,.int .i64 (b3o fl nm))],[cQ code a2 s2,eQ,.box (.agg [.int .i64 0,.ref 1]) .mix,eQ,eQ,eQ,bQ 3 4 5],false,64,0⟩) (fun p=>True∧True) ?_ ?_
    ·intro Q8 n8 e8 r8;have F:=Fc.mk True.intro;refine yVc (b5e fl nm (by omega)) ⟨?_⟩;refine n8 () _ ?_ ?_
     ·exact ⟨trivial,trivial⟩
     ·exact b0q [2,3,6,7,8,9,10] [0,1,2,3,4,5,6]
    ·rintro _ hok8;obtain ⟨_,_⟩:=hok8;rcases f90 fl nm with hf1 | ⟨k0,z0,z1,z2,z3,z4,hf1,hf2,hap⟩ | ⟨k0,z0,z1,z2,z3,z4,hf1,hf2,hap⟩
     ·skip;have hge:decide ((-1:Int)≥0)=false:=rfl;refine b1l [2,3,6,7,8,9,10,41] ?_;intro K10 k10;have F:=fq2 hf1 hge;refine b15 ⟨?_⟩;refine c0m ⟨?_⟩;refine b15 ⟨?_⟩;refine f7y ⟨?_⟩;refine f7y ⟨?_⟩;refine f7y ⟨?_⟩;refine zq3 ⟨?_⟩;refine f7y ⟨?_⟩;refine c5l ⟨?_⟩;refine k10 _ ?_;refine zk ⟨?_⟩;refine b18 _ rfl ?_ ?_
      ·intro hc0;exfalso;simp at hc0
      ·intro hc0;try simp only [zC,reduceCtorEq] at hc0
       refine b5z ?_;refine n7 (a2,s2) _ ?_ ?_
       ·exact ⟨by show 0≤a2;omega,by show a2≤100020;omega⟩
       ·exact b0q [2,3,6,7,8,9] [0,1,2,3,4,5,6]
     ·skip;have hge:decide ((k0:Int)≥0)=true:=decide_eq_true (by omega);have hkl:=(qlc.1 hf2).1;refine b1l [2,3,6,7,8,9,10,41] ?_;intro K12 k12;have F:=fq5 hf1 hge @qli (gdm hf2) hap;refine b15 ⟨?_⟩;refine c0m ⟨?_⟩;refine b15 ⟨?_⟩;refine c60 ⟨?_⟩;refine d8l ⟨?_⟩;refine f1c ⟨?_⟩;refine c83 ⟨?_⟩;refine d8l ⟨?_⟩;refine ztc (c1n z0 z1 z2 z3 z4 (ql6 (q2 _ (qlb hf2)) (by decide))) ⟨?_⟩;refine zq3 ⟨?_⟩;refine f7y ⟨?_⟩;refine c5l ⟨?_⟩;refine k12 _ ?_;refine zk ⟨?_⟩;refine b18 _ rfl ?_ ?_
      ·intro hc0;exfalso;simp at hc0
      ·intro hc0;try simp only [zC,reduceCtorEq] at hc0
       refine b5z ?_;refine n7 (a2,s2) _ ?_ ?_
       ·exact ⟨by show 0≤a2;omega,by show a2≤100020;omega⟩
       ·exact b0q [2,3,6,7,8,9] [0,1,2,3,4,5,6]
     ·skip;have hge:decide ((k0:Int)≥0)=true:=decide_eq_true (by omega);have hkl:=(qlc.1 hf2).1;have hnx:=f4z z4;refine b1l [2,3,6,7,8,9,10,41] ?_;intro K14 k14;have F:=fq5 hf1 hge @qli (gdm hf2) hap;refine b15 ⟨?_⟩;refine c0m ⟨?_⟩;refine b15 ⟨?_⟩;refine c60 ⟨?_⟩;refine d8l ⟨?_⟩;refine f1c ⟨?_⟩;refine c83 ⟨?_⟩;refine d8l ⟨?_⟩;refine ztc (c1n z0 z1 z2 z3 z4 (ql6 (q2 _ (qlb hf2)) (by decide))) ⟨?_⟩;refine zq3 ⟨?_⟩;refine f1c ⟨?_⟩;refine zgx (b6c code a2 s2 (2) hcode hcl (by omega)) (⟨_,true,a2,s2,trivial,by omega,rfl,rfl⟩) ⟨?_⟩;rintro _ _ ⟨v40,a40,s40,h40,k40,rfl,rfl⟩;refine zEg ⟨?_⟩;refine c5l ⟨?_⟩;refine k14 _ ?_;refine zk ⟨?_⟩;refine b0a _ rfl ?_ ?_
      ·intro hc0;refine yRc [2,3,6,7,8,9,11] (d0d z4) ⟨?_⟩;refine b3u (A:=Int) (fun p=>⟨[(2,.ptr 0 0 0),(3,.ptr 1 0 0),(4,.str nm),(5,.int .i64 p)],[.box (tQ n l) .shal,.box (kQ fl ins ws) .shal],false,64,0⟩) (fun p=>-1≤p∧p≤6) ?_ ?_
       ·intro Q17 n17 e17 r17;refine b1f (by kernel_rfl) ?_;intro K18 q18 k18;show b1r _ _ _ _ 14 (Array.replicate 14 false) _;refine b1i q18 false 0 49 ?_;refine b1i q18 false 1 50 ?_;refine b0t q18 false 2 51 ?_;refine b0t q18 false 3 52 ?_;refine b0t q18 true 4 53 ?_;refine b0t q18 true 5 54 ?_;refine b1u q18 true 6 55 rfl rfl (by kernel_rfl) (by kernel_rfl) ?_;apply Exists.intro;apply And.intro
        ·intro t hn gx ho K' k';have g54:=gx 54 (by decide);simp only [c3q,b0j,b0u,b0k,Nat.reduceEqDiff,reduceIte] at g54;first | have row0:=b1k (i:=0) (ho rfl) rfl | have row0:t.n+0=t.n:=rfl
         first | have row1:=b1k (i:=1) (ho rfl) rfl | have row1:t.n+0=t.n:=rfl
         first | have row2:=b1k (i:=2) (ho rfl) rfl | have row2:t.n+0=t.n:=rfl
         first | have row3:=b1k (i:=3) (ho rfl) rfl | have row3:t.n+0=t.n:=rfl
         first | have row4:=b1k (i:=4) (ho rfl) rfl | have row4:t.n+0=t.n:=rfl
         first | have row5:=b1k (i:=5) (ho rfl) rfl | have row5:t.n+0=t.n:=rfl
         first | have row6:=b1k (i:=6) (ho rfl) rfl | have row6:t.n+0=t.n:=rfl
         first | have row7:=b1k (i:=7) (ho rfl) rfl | have row7:t.n+0=t.n:=rfl
         first | have row8:=b1k (i:=8) (ho rfl) rfl | have row8:t.n+0=t.n:=rfl
         first | have row9:=b1k (i:=9) (ho rfl) rfl | have row9:t.n+0=t.n:=rfl
         have hdl:55 < t.n:=by rw [hn];show 55 < 64;decide
         clear hn;refine .inl ?_;simp only [zE,zL,zN,hdl,b0w,b0s,Nat.reduceEqDiff,reduceIte,implies_true,forall_const,reduceCtorEq,V.ofValue,V.ofScalar,V.un,V.gd,b07,aop,g54,row0,row1,row2,row3,row4,row5,row6,row7,row8,row9,List.length_map,f0r,c0x,b1n,Blk.row,List.size_toArray,List.getD_eq_getElem?_getD,Array.getD_eq_getD_getElem?,Option.getD_some,Nat.reduceAdd,Nat.reduceLeDiff,Nat.reduceLT,Nat.reduceMul,Tryz.underlying3,Ty.c3,Ty.a3,Ty.b3,Ty.s3,Tryz.underlying35,Ty.c35,Ty.a35,Ty.b35,Ty.s35,hf1,hge,Int.toNat_natCast,b4a hf2,hap];repeat (refine ai (by first | omega | (intros;omega) | (intros;simp_all;done) | (intros;simp_all;omega)) ?_)
         exact k'
        simp only [b0k];refine f9i 7 (b2d code a40 s40 (((b7o z4).length:Int)) hcode hcl (by omega)) ⟨?_⟩;rintro _ _ ⟨v56,a56,s56,h56,k56,rfl,rfl⟩;have hnx1:=hnx.1;obtain ⟨y,hy⟩:∃y,(b7o z4)[v56.toNat]? =some y:=⟨(b7o z4)[v56.toNat]'(by omega),qla (by omega)⟩;refine zEl ⟨?_⟩;refine b09 8 10 rfl rfl (by kernel_rfl) ?_ ?_
        ·skip;have F:=fq6 hf1 hge @qli (gdm hf2) hap (gdm hy);refine c2v ⟨?_⟩;refine b09 9 10 rfl rfl (by kernel_rfl) ?_ ?_
         ·refine b3h ⟨?_⟩;refine b06 10 ⟨?_⟩;refine b06 11 ⟨?_⟩;refine b0p 12 ⟨?_⟩;refine b0p 13 ⟨?_⟩;refine b0b (by kernel_rfl) ?_;refine k18 _ ?_;refine n17 y _ ?_ ?_
          ·have:=hnx.2.2 y (qlb hy);exact ⟨by omega,by omega⟩
          ·exact b0q [2,3,4,5] [2,6]
         ·refine c0e ⟨?_⟩;refine b09 9 11 rfl rfl (by kernel_rfl) ?_ ?_
          ·refine b3h ⟨?_⟩;refine b06 11 ⟨?_⟩;refine b0p 12 ⟨?_⟩;refine b0p 13 ⟨?_⟩;refine b0b (by kernel_rfl) ?_;refine k18 _ ?_;refine n17 y _ ?_ ?_
           ·have:=hnx.2.2 y (qlb hy);exact ⟨by omega,by omega⟩
           ·exact b0q [2,3,4,5] [2,6]
          ·refine c0e ⟨?_⟩;refine b1u q18 true 9 58 rfl rfl (by kernel_rfl) (by kernel_rfl) ?_;apply Exists.intro;apply And.intro
           ·intro t hn gx ho K' k';have g57:=gx 57 (by decide);simp only [c3q,b0j,b0u,b0k,Nat.reduceEqDiff,reduceIte] at g57;first | have row0:=b1k (i:=0) (ho rfl) rfl | have row0:t.n+0=t.n:=rfl
            first | have row1:=b1k (i:=1) (ho rfl) rfl | have row1:t.n+0=t.n:=rfl
            first | have row2:=b1k (i:=2) (ho rfl) rfl | have row2:t.n+0=t.n:=rfl
            first | have row3:=b1k (i:=3) (ho rfl) rfl | have row3:t.n+0=t.n:=rfl
            first | have row4:=b1k (i:=4) (ho rfl) rfl | have row4:t.n+0=t.n:=rfl
            first | have row5:=b1k (i:=5) (ho rfl) rfl | have row5:t.n+0=t.n:=rfl
            first | have row6:=b1k (i:=6) (ho rfl) rfl | have row6:t.n+0=t.n:=rfl
            first | have row7:=b1k (i:=7) (ho rfl) rfl | have row7:t.n+0=t.n:=rfl
            first | have row8:=b1k (i:=8) (ho rfl) rfl | have row8:t.n+0=t.n:=rfl
            first | have row9:=b1k (i:=9) (ho rfl) rfl | have row9:t.n+0=t.n:=rfl
            have hdl:58 < t.n:=by rw [hn];show 58 < 64;decide
            clear hn;refine .inl ?_;simp only [zE,zL,zO,zN,hdl,b0w,b0s,Nat.reduceEqDiff,reduceIte,implies_true,forall_const,reduceCtorEq,V.ofValue,V.ofScalar,V.un,V.gd,b07,aop,g57,row0,row1,row2,row3,row4,row5,row6,row7,row8,row9,b7q,b1n,Blk.row,b7r,Go.Vm.part,V.cells,V.noSl,V.noRef,Nat.reduceAdd,Nat.reduceLeDiff,Nat.reduceLT,Nat.reduceMul,Tryz.underlying3,Ty.c3,Ty.a3,hf1,hge,Int.toNat_natCast,b4a hf2,hap,b4a hy];repeat (refine ai (by first | omega | (intros;omega) | (intros;simp_all;done) | (intros;simp_all;omega)) ?_)
            exact k'
           simp only [b0k];refine b0p 12 ⟨?_⟩;refine b0p 13 ⟨?_⟩;refine b0b (by kernel_rfl) ?_;refine k18 _ ?_;refine n17 y _ ?_ ?_
           ·have:=hnx.2.2 y (qlb hy);exact ⟨by omega,by omega⟩
           ·exact b0q [2,3,4,5] [2,6]
        ·skip;have F:=fq6 hf1 hge @qli (gdm hf2) hap (gdm hy);refine c0e ⟨?_⟩;refine b09 8 11 rfl rfl (by kernel_rfl) ?_ ?_
         ·refine c2v ⟨?_⟩;refine b09 9 11 rfl rfl (by kernel_rfl) ?_ ?_
          ·refine b3h ⟨?_⟩;refine b06 11 ⟨?_⟩;refine b0p 12 ⟨?_⟩;refine b0p 13 ⟨?_⟩;refine b0b (by kernel_rfl) ?_;refine k18 _ ?_;refine n17 y _ ?_ ?_
           ·have:=hnx.2.2 y (qlb hy);exact ⟨by omega,by omega⟩
           ·exact b0q [2,3,4,5] [2,6]
          ·refine c0e ⟨?_⟩;refine b1u q18 true 9 58 rfl rfl (by kernel_rfl) (by kernel_rfl) ?_;apply Exists.intro;apply And.intro
           ·intro t hn gx ho K' k';have g57:=gx 57 (by decide);simp only [c3q,b0j,b0u,b0k,Nat.reduceEqDiff,reduceIte] at g57;first | have row0:=b1k (i:=0) (ho rfl) rfl | have row0:t.n+0=t.n:=rfl
            first | have row1:=b1k (i:=1) (ho rfl) rfl | have row1:t.n+0=t.n:=rfl
            first | have row2:=b1k (i:=2) (ho rfl) rfl | have row2:t.n+0=t.n:=rfl
            first | have row3:=b1k (i:=3) (ho rfl) rfl | have row3:t.n+0=t.n:=rfl
            first | have row4:=b1k (i:=4) (ho rfl) rfl | have row4:t.n+0=t.n:=rfl
            first | have row5:=b1k (i:=5) (ho rfl) rfl | have row5:t.n+0=t.n:=rfl
            first | have row6:=b1k (i:=6) (ho rfl) rfl | have row6:t.n+0=t.n:=rfl
            first | have row7:=b1k (i:=7) (ho rfl) rfl | have row7:t.n+0=t.n:=rfl
            first | have row8:=b1k (i:=8) (ho rfl) rfl | have row8:t.n+0=t.n:=rfl
            first | have row9:=b1k (i:=9) (ho rfl) rfl | have row9:t.n+0=t.n:=rfl
            have hdl:58 < t.n:=by rw [hn];show 58 < 64;decide
            clear hn;refine .inl ?_;simp only [zE,zL,zO,zN,hdl,b0w,b0s,Nat.reduceEqDiff,reduceIte,implies_true,forall_const,reduceCtorEq,V.ofValue,V.ofScalar,V.un,V.gd,b07,aop,g57,row0,row1,row2,row3,row4,row5,row6,row7,row8,row9,b7q,b1n,Blk.row,b7r,Go.Vm.part,V.cells,V.noSl,V.noRef,Nat.reduceAdd,Nat.reduceLeDiff,Nat.reduceLT,Nat.reduceMul,Tryz.underlying3,Ty.c3,Ty.a3,hf1,hge,Int.toNat_natCast,b4a hf2,hap,b4a hy];repeat (refine ai (by first | omega | (intros;omega) | (intros;simp_all;done) | (intros;simp_all;omega)) ?_)
            exact k'
           simp only [b0k];refine b0p 12 ⟨?_⟩;refine b0p 13 ⟨?_⟩;refine b0b (by kernel_rfl) ?_;refine k18 _ ?_;refine n17 y _ ?_ ?_
           ·have:=hnx.2.2 y (qlb hy);exact ⟨by omega,by omega⟩
           ·exact b0q [2,3,4,5] [2,6]
         ·refine c0e ⟨?_⟩;refine b1u q18 true 8 57 rfl rfl (by kernel_rfl) (by kernel_rfl) ?_;apply Exists.intro;apply And.intro
          ·intro t hn gx ho K' k';have g52:=gx 52 (by decide);have g56:=gx 56 (by decide);simp only [c3q,b0j,b0u,b0k,Nat.reduceEqDiff,reduceIte] at g52 g56;first | have row0:=b1k (i:=0) (ho rfl) rfl | have row0:t.n+0=t.n:=rfl
           first | have row1:=b1k (i:=1) (ho rfl) rfl | have row1:t.n+0=t.n:=rfl
           first | have row2:=b1k (i:=2) (ho rfl) rfl | have row2:t.n+0=t.n:=rfl
           first | have row3:=b1k (i:=3) (ho rfl) rfl | have row3:t.n+0=t.n:=rfl
           first | have row4:=b1k (i:=4) (ho rfl) rfl | have row4:t.n+0=t.n:=rfl
           first | have row5:=b1k (i:=5) (ho rfl) rfl | have row5:t.n+0=t.n:=rfl
           first | have row6:=b1k (i:=6) (ho rfl) rfl | have row6:t.n+0=t.n:=rfl
           first | have row7:=b1k (i:=7) (ho rfl) rfl | have row7:t.n+0=t.n:=rfl
           first | have row8:=b1k (i:=8) (ho rfl) rfl | have row8:t.n+0=t.n:=rfl
           first | have row9:=b1k (i:=9) (ho rfl) rfl | have row9:t.n+0=t.n:=rfl
           have hdl:57 < t.n:=by rw [hn];show 57 < 64;decide
           clear hn;refine .inl ?_;simp only [zE,zL,zN,hdl,b0w,b0s,Nat.reduceEqDiff,reduceIte,implies_true,forall_const,reduceCtorEq,V.ofValue,V.ofScalar,V.un,V.gd,b07,aop,g52,g56,row0,row1,row2,row3,row4,row5,row6,row7,row8,row9,List.mem_cons,List.not_mem_nil,or_false,forall_eq_or_imp,forall_eq,b3q,b1n,Blk.row,Go.Vm.V.cells,List.forall_mem_map,List.length_map,Int.toNat_natCast,Int.reduceToNat,TypeDesc.slice.injEq,Nat.reduceAdd,Nat.reduceLeDiff,Nat.reduceLT,Nat.reduceMul,Tryz.underlying3,Ty.c3,Ty.a3,Tryz.underlying35,Ty.c35,Ty.a35,hf1,hge,b4a hf2,hap,b4a hy];repeat (refine ai (by first | omega | (intros;omega) | (intros;simp_all;done) | (intros;simp_all;omega)) ?_)
           exact k'
          simp only [b0k];refine b1u q18 true 9 58 rfl rfl (by kernel_rfl) (by kernel_rfl) ?_;apply Exists.intro;apply And.intro
          ·intro t hn gx ho K' k';have g57:=gx 57 (by decide);simp only [c3q,b0j,b0u,b0k,Nat.reduceEqDiff,reduceIte] at g57;first | have row0:=b1k (i:=0) (ho rfl) rfl | have row0:t.n+0=t.n:=rfl
           first | have row1:=b1k (i:=1) (ho rfl) rfl | have row1:t.n+0=t.n:=rfl
           first | have row2:=b1k (i:=2) (ho rfl) rfl | have row2:t.n+0=t.n:=rfl
           first | have row3:=b1k (i:=3) (ho rfl) rfl | have row3:t.n+0=t.n:=rfl
           first | have row4:=b1k (i:=4) (ho rfl) rfl | have row4:t.n+0=t.n:=rfl
           first | have row5:=b1k (i:=5) (ho rfl) rfl | have row5:t.n+0=t.n:=rfl
           first | have row6:=b1k (i:=6) (ho rfl) rfl | have row6:t.n+0=t.n:=rfl
           first | have row7:=b1k (i:=7) (ho rfl) rfl | have row7:t.n+0=t.n:=rfl
           first | have row8:=b1k (i:=8) (ho rfl) rfl | have row8:t.n+0=t.n:=rfl
           first | have row9:=b1k (i:=9) (ho rfl) rfl | have row9:t.n+0=t.n:=rfl
           have hdl:58 < t.n:=by rw [hn];show 58 < 64;decide
           clear hn;refine .inl ?_;simp only [zE,zL,zO,zN,hdl,b0w,b0s,Nat.reduceEqDiff,reduceIte,implies_true,forall_const,reduceCtorEq,V.ofValue,V.ofScalar,V.un,V.gd,b07,aop,g57,row0,row1,row2,row3,row4,row5,row6,row7,row8,row9,b7q,b1n,Blk.row,b7r,Go.Vm.part,V.cells,V.noSl,V.noRef,Nat.reduceAdd,Nat.reduceLeDiff,Nat.reduceLT,Nat.reduceMul,Tryz.underlying3,Ty.c3,Ty.a3,hf1,hge,Int.toNat_natCast,b4a hf2,hap,b4a hy];repeat (refine ai (by first | omega | (intros;omega) | (intros;simp_all;done) | (intros;simp_all;omega)) ?_)
           exact k'
          simp only [b0k];refine b0p 12 ⟨?_⟩;refine b0p 13 ⟨?_⟩;refine b0b (by kernel_rfl) ?_;refine k18 _ ?_;refine n17 y _ ?_ ?_
          ·have:=hnx.2.2 y (qlb hy);exact ⟨by omega,by omega⟩
          ·exact b0q [2,3,4,5] [2,6]
       ·rintro st hok17;obtain ⟨hs1,hs2⟩:=hok17;try simp only [] at hs1 hs2⊢
        refine zq1 ⟨?_⟩;try refine zCl ⟨?_⟩
        refine b1a ?_;exact ⟨n,l,fl,ins,ws,nm,st,⟨hQ0,hnz,hs1,hs2⟩,rfl,rfl⟩
      ·intro hc0;refine b5z ?_;refine n7 (a40,s40) _ ?_ ?_
       ·exact ⟨by show 0≤a40;omega,by show a40≤100020;omega⟩
       ·exact b0q [2,3,6,7,8,9] [0,1,2,3,4,5,6]
   ·rintro ⟨a4,s4⟩ hok7;obtain ⟨ha4,ha5⟩:=hok7;try simp only [] at ha4 ha5⊢
    refine b3u (A:=Int) (fun p=>⟨[(2,.ptr 0 0 0),(3,.ptr 1 0 0),(4,.str nm),(5,.int .i64 p)],[.box (tQ n l) .shal,.box (kQ fl ins ws) .shal],false,64,0⟩) (fun p=>-1≤p∧p≤6) ?_ ?_
    ·intro Q19 n19 e19 r19;refine b1f (by kernel_rfl) ?_;intro K20 q20 k20;show b1r _ _ _ _ 9 (Array.replicate 9 false) _;have F:=Fc.mk True.intro;refine b1i q20 false 0 59 ?_;refine b1i q20 false 1 60 ?_;refine b0t q20 false 2 61 ?_;refine b0t q20 true 3 62 ?_;refine f9i 4 (d6x code a4 s4 hcode hcl (by omega)) ⟨?_⟩;rintro _ _ ⟨v63,a63,s63,h63,k63,rfl,rfl⟩;refine zEl ⟨?_⟩;refine b06 5 ⟨?_⟩;refine b06 6 ⟨?_⟩;refine b0p 7 ⟨?_⟩;refine b0p 8 ⟨?_⟩;refine b0b (by kernel_rfl) ?_;refine k20 _ ?_;refine n19 v63 _ ?_ ?_
     ·exact h63
     ·exact b0q [2,3,4,5] [2,6]
    ·rintro st hok19;obtain ⟨hs1,hs2⟩:=hok19;try simp only [] at hs1 hs2⊢
     refine zq1 ⟨?_⟩;try refine zCl ⟨?_⟩
     refine b1a ?_;exact ⟨n,l,fl,ins,ws,nm,st,⟨hQ0,hnz,hs1,hs2⟩,rfl,rfl⟩
set_option maxRecDepth 8000 in
theorem c6o (code:List Int) (hcode:∀x∈code,0≤x∧x≤255) (hcl:code.length≤9223372036854775807):b74 Tryz.prog 16 [.sl (code.map (V.int .u8))] [] (fun r O'=>∃(n:Int) (l:List TS) (fl:List TA) (ins:List TI) (ws:List TW) (v:ByteArray),((l.length≤302∧CtQ fl ins ws)∧v.size≤9)∧r=.tup [tQ n l,kQ fl ins ws,.str v]∧O'=[]):=by
 refine zcx [.cell 2 26,.cell 3 31,.tmp 4] [(33,[0]),(49,[0]),(85,[0,1]),(34,[0]),(35,[0])] Tryz.func16 Tryz.ntmps16 ⟨?_⟩;intro Q0 n0 r0;have T:=Tys.mk (ai Ty.t3 (ai Ty.t4 (ai Ty.t5 (ai Ty.t9 (ai Ty.t22 (ai Ty.t24 (ai Ty.t26 (ai Ty.t27 (ai Ty.t28 (ai Ty.t29 (ai Ty.t31 (ai Ty.t32 (ai Ty.t35 (ai Ty.t53 (ai Ty.t55 (ai Ty.t68 (ai Ty.t69 (ai Ty.t71 (ai Ty.t91 Ty.t127)))))))))))))))))));have F:=Fc.mk True.intro;refine yR [0,2,3] ⟨?_⟩;refine yR [2,3,5] ⟨?_⟩;refine b3u (A:=Int×List TS×List TA×List TI×List TW×Int×Int) (fun p=>⟨[(2,.ptr 2 0 0),(3,.ptr 6 0 0),(5,.ptr 0 0 0),(6,.pv [tQ p.1 p.2.1] 0 0),(7,.pv [kQ p.2.2.1 p.2.2.2.1 p.2.2.2.2.1] 0 0)],[cQ code p.2.2.2.2.2.1 p.2.2.2.2.2.2,eQ,.box (.agg [.int .i64 0,.ref 1]) .mix,eQ,eQ,eQ,bQ 3 4 5],false,43,0⟩) (fun p=>(p.2.1.length≤302∧CtQ p.2.2.1 p.2.2.2.1 p.2.2.2.2.1)∧0≤p.2.2.2.2.2.1∧p.2.2.2.2.2.1≤100000) ?_ ?_
 ·intro Q3 n3 e3 r3;refine b2m ?_;intro K4 k4;refine b15 ⟨?_⟩;refine zxl (b98 code 0 0 hcode hcl (by omega)) ⟨?_⟩;rintro _ _ ⟨n15,l15,fl15,ins15,ws15,a15,s15,h15,k15,rfl,rfl⟩;refine zEl ⟨?_⟩;refine f0q ⟨?_⟩;refine f6r ⟨?_⟩;refine k4 _ ?_;refine n3 (n15,l15,fl15,ins15,ws15,a15,s15) _ ?_ ?_
  ·exact ⟨h15,by show 0≤a15∧a15≤100000;omega⟩
  ·refine b00 (b00 (b4p 6 8 _ rfl rfl) (b4p 7 12 _ rfl rfl)) ?_;simp only [List.set_cons_succ,List.set_cons_zero]
   ·exact b0q [2,3,5,6,7] [6,0,1,2,3,4,5]
 ·rintro ⟨n,l,fl,ins,ws,a1,s1⟩ hok3;obtain ⟨hQ0,ha1⟩:=hok3;simp only [] at hQ0 ha1⊢;obtain ⟨⟨q1,q2⟩,⟨q3,q4,q5⟩,q6,q7⟩:=hQ0.2;refine b0e ?_;intros;have F:=Fc.mk True.intro;refine yR [2,3,5,6,7,19,20,21] ⟨?_⟩;refine b0i ?_;intros;refine b08 (fun p=>⟨[(2,.ptr 2 0 0),(3,.ptr 6 0 0),(5,.ptr 0 0 0),(6,.pv [tQ n l] 0 0),(7,.pv [kQ fl ins ws] 0 0),(19,sQ rQa fl),(20,.int .i64 fl.length),(21,.int .i64 (Nat.cast p.1))],[cQ code p.2.1 p.2.2,eQ,.box (.agg [.int .i64 0,.ref 1]) .mix,eQ,eQ,eQ,bQ 3 4 5],false,43,0⟩) (fun p=>p.1≤fl.length∧0≤p.2.1∧p.2.1≤100000+2 * (p.1:Int)) (fun p=>fl.length - p.1) ((0,a1,s1):Nat×Int×Int) ?_ ?_ ?_
  ·exact b0q [2,3,5,6,7,19,20,21] [0,1,2,3,4,5,6]
  ·exact ⟨qle _,by simp;omega⟩
  ·rintro ⟨i,a2,s2⟩ hok8 Q8 n8 e8 r8;obtain ⟨hi1,ha2⟩:=hok8;simp only [] at hi1 ha2⊢;refine yR [2,3,5,6,7,19,20,21,22] ⟨?_⟩;refine b0e ?_;intros;refine b0a _ rfl ?_ ?_
   ·intro hc0;have hlt:i < fl.length:=by omega
    obtain ⟨⟨x0,x1,x2,x3,x4⟩,hx⟩:∃x:TA,fl[i]? =some x:=⟨fl[i]'(by omega),qla (by omega)⟩;have hz0:x0.size≤9:=q2 _ (qlb hx);rcases Int.decEq x4 2 with hm | hm
    ·skip;have hmv:decide (x4=2)=false:=decide_eq_false hm;refine zn [2,3,5,6,7,19,20,21] ⟨?_⟩;refine b0e ?_;intros;refine b0i ?_;intros;have F:=fq2 (gdm hx) hmv;refine yR [2,3,5,6,7,9,19,20,21] ⟨?_⟩;refine b1l [2,3,5,6,7,9,19,20,21,31] ?_;intro K15 k15;refine f0s ⟨?_⟩;refine c0m ⟨?_⟩;refine b15 ⟨?_⟩;refine f7y ⟨?_⟩;refine c5l ⟨?_⟩;refine k15 _ ?_;refine zk ⟨?_⟩;refine b18 _ rfl ?_ ?_
     ·intro hc1;exfalso;simp at hc1
     ·intro hc1;try simp only [zC,reduceCtorEq] at hc1
      refine zn [2,3,5,6,7,19,20,21] ⟨?_⟩;refine yV ⟨?_⟩;refine n8 _ (i+1,a2,s2) ?_ ?_ ?_
      ·exact b0q [2,3,5,6,7,19,20,21] [0,1,2,3,4,5,6]
      ·exact ⟨hlt,by show 0≤a2∧a2≤100000+2 * ((i+1:Nat):Int);omega⟩
      ·show _ < _;show fl.length - (i+1) < fl.length - i;omega
    ·skip;have hmv:decide (x4=2)=true:=decide_eq_true hm;refine zn [2,3,5,6,7,19,20,21] ⟨?_⟩;refine b0e ?_;intros;refine b0i ?_;intros;have F:=fq2 (gdm hx) hmv;refine yR [2,3,5,6,7,9,19,20,21] ⟨?_⟩;refine b1l [2,3,5,6,7,9,19,20,21,31] ?_;intro K21 k21;refine f0s ⟨?_⟩;refine c0m ⟨?_⟩;refine f8g ⟨?_⟩;refine zgx (b6c code a2 s2 (2) hcode hcl (by omega)) (⟨_,true,a2,s2,trivial,by omega,rfl,rfl⟩) ⟨?_⟩;rintro _ _ ⟨v30,a30,s30,h30,k30,rfl,rfl⟩;refine zEg ⟨?_⟩;refine c5l ⟨?_⟩;refine k21 _ ?_;refine zk ⟨?_⟩;refine b0a _ rfl ?_ ?_
     ·intro hc1;refine b3u (A:=ByteArray) (fun p=>⟨[(2,.ptr 0 0 0),(3,.ptr 1 0 0),(4,.str p)],[.box (tQ n l) .shal,.box (kQ fl ins ws) .shal],false,43,0⟩) (fun p=>p.size≤9∧True) ?_ ?_
      ·intro Q23 n23 e23 r23;refine b1f (by kernel_rfl) ?_;intro K24 q24 k24;show b1r _ _ _ _ 7 (Array.replicate 7 false) _;refine b1i q24 true 0 32 ?_;refine b1i q24 false 1 33 ?_;refine b0h q24 false 2 34 ?_;refine b09 3 4 rfl rfl (by kernel_rfl) ?_ ?_
       ·refine b3h ⟨?_⟩;refine b06 4 ⟨?_⟩;refine b06 5 ⟨?_⟩;refine b0p 6 ⟨?_⟩;refine b0b (by kernel_rfl) ?_;refine k24 _ ?_;refine n23 x0 _ ?_ ?_
        ·exact ⟨hz0,trivial⟩
        ·exact b0q [2,3,4] [2,6]
       ·refine c0e ⟨?_⟩;refine b09 3 5 rfl rfl (by kernel_rfl) ?_ ?_
        ·refine b3h ⟨?_⟩;refine b06 5 ⟨?_⟩;refine b0p 6 ⟨?_⟩;refine b0b (by kernel_rfl) ?_;refine k24 _ ?_;refine n23 x0 _ ?_ ?_
         ·exact ⟨hz0,trivial⟩
         ·exact b0q [2,3,4] [2,6]
        ·refine c0e ⟨?_⟩;refine b1i q24 true 3 35 ?_;refine b0p 6 ⟨?_⟩;refine b0b (by kernel_rfl) ?_;refine k24 _ ?_;refine n23 x0 _ ?_ ?_
         ·exact ⟨hz0,trivial⟩
         ·exact b0q [2,3,4] [2,6]
      ·rintro nm hok23;obtain ⟨hnz,_⟩:=hok23;refine zq1 ⟨?_⟩;try refine zCl ⟨?_⟩
       refine b1a ?_;exact ⟨n,l,fl,ins,ws,nm,⟨hQ0,hnz⟩,rfl,rfl⟩
     ·intro hc1;refine zn [2,3,5,6,7,19,20,21] ⟨?_⟩;refine yV ⟨?_⟩;refine n8 _ (i+1,a30,s30) ?_ ?_ ?_
      ·exact b0q [2,3,5,6,7,19,20,21] [0,1,2,3,4,5,6]
      ·exact ⟨hlt,by show 0≤a30∧a30≤100000+2 * ((i+1:Nat):Int);omega⟩
      ·show _ < _;show fl.length - (i+1) < fl.length - i;omega
   ·intro hc0;refine zn [2,3,5,6,7] ⟨?_⟩;refine b3u (A:=ByteArray) (fun p=>⟨[(2,.ptr 0 0 0),(3,.ptr 1 0 0),(4,.str p)],[.box (tQ n l) .shal,.box (kQ fl ins ws) .shal],false,43,0⟩) (fun p=>p.size≤9∧True) ?_ ?_
    ·intro Q26 n26 e26 r26;refine b1f (by kernel_rfl) ?_;intro K27 q27 k27;show b1r _ _ _ _ 9 (Array.replicate 9 false) _;refine b1i q27 false 0 37 ?_;refine b1i q27 false 1 38 ?_;refine b0t q27 true 2 39 ?_;refine b0h q27 true 3 40 ?_;refine b1i q27 true 4 41 ?_;refine f9i 5 (c1l code a2 s2 fl (by omega) q2 hcode hcl (by omega)) ⟨?_⟩;rintro _ _ ⟨v42,a42,s42,h42,k42,rfl,rfl⟩;refine zEl ⟨?_⟩;refine b06 6 ⟨?_⟩;refine b06 7 ⟨?_⟩;refine b0p 8 ⟨?_⟩;refine b0b (by kernel_rfl) ?_;refine k27 _ ?_;refine n26 v42 _ ?_ ?_
     ·exact ⟨h42,trivial⟩
     ·exact b0q [2,3,4] [2,6]
    ·rintro nm hok26;obtain ⟨hnz,_⟩:=hok26;refine zq1 ⟨?_⟩;try refine zCl ⟨?_⟩
     refine b1a ?_;exact ⟨n,l,fl,ins,ws,nm,⟨hQ0,hnz⟩,rfl,rfl⟩
set_option maxRecDepth 8000 in
theorem c3s (code:List Int) (hcode:∀x∈code,0≤x∧x≤255) (hcl:code.length≤9223372036854775807):b74 Tryz.prog 5 [.sl (code.map (V.int .u8))] [] (fun r O'=>∃(n:Int) (l:List TS) (fl:List TA) (ins:List TI) (ws:List TW) (L:List ByteArray),((l.length≤302∧CtQ fl ins ws)∧L.length≤41∧∀s∈L,s.size≤12)∧r=.tup [tQ n l,kQ fl ins ws,.sl (L.map V.str)]∧O'=[]):=by
 refine zcx [.cell 2 26,.cell 3 31,.tmp 4] [(33,[0]),(36,[0]),(85,[0,1]),(34,[0]),(35,[0])] Tryz.func5 Tryz.ntmps5 ⟨?_⟩;intro Q0 n0 r0;have T:=Tys.mk (ai Ty.t3 (ai Ty.t4 (ai Ty.t5 (ai Ty.t9 (ai Ty.t22 (ai Ty.t24 (ai Ty.t26 (ai Ty.t27 (ai Ty.t28 (ai Ty.t29 (ai Ty.t31 (ai Ty.t32 (ai Ty.t35 (ai Ty.t53 (ai Ty.t55 (ai Ty.t68 (ai Ty.t69 (ai Ty.t71 (ai Ty.t91 Ty.t127)))))))))))))))))));have F:=Fc.mk True.intro;refine yR [0,2,3] ⟨?_⟩;refine yR [2,3,5] ⟨?_⟩;refine b3u (A:=Int×List TS×List TA×List TI×List TW×Int×Int) (fun p=>⟨[(2,.ptr 2 0 0),(3,.ptr 6 0 0),(5,.ptr 0 0 0),(6,.pv [tQ p.1 p.2.1] 0 0),(7,.pv [kQ p.2.2.1 p.2.2.2.1 p.2.2.2.2.1] 0 0)],[cQ code p.2.2.2.2.2.1 p.2.2.2.2.2.2,eQ,.box (.agg [.int .i64 0,.ref 1]) .mix,eQ,eQ,eQ,bQ 3 4 5],false,39,0⟩) (fun p=>(p.2.1.length≤302∧CtQ p.2.2.1 p.2.2.2.1 p.2.2.2.2.1)∧0≤p.2.2.2.2.2.1∧p.2.2.2.2.2.1≤100000) ?_ ?_
 ·intro Q3 n3 e3 r3;refine b2m ?_;intro K4 k4;refine b15 ⟨?_⟩;refine zxl (b98 code 0 0 hcode hcl (by omega)) ⟨?_⟩;rintro _ _ ⟨n15,l15,fl15,ins15,ws15,a15,s15,h15,k15,rfl,rfl⟩;refine zEl ⟨?_⟩;refine f0q ⟨?_⟩;refine f6r ⟨?_⟩;refine k4 _ ?_;refine n3 (n15,l15,fl15,ins15,ws15,a15,s15) _ ?_ ?_
  ·exact ⟨h15,by show 0≤a15∧a15≤100000;omega⟩
  ·refine b00 (b00 (b4p 6 9 _ rfl rfl) (b4p 7 13 _ rfl rfl)) ?_;simp only [List.set_cons_succ,List.set_cons_zero]
   ·exact b0q [2,3,5,6,7] [7,0,1,2,3,4,5]
 ·rintro ⟨n,l,fl,ins,ws,a1,s1⟩ hok3;obtain ⟨hQ0,ha1⟩:=hok3;simp only [] at hQ0 ha1⊢;obtain ⟨⟨q1,q2⟩,⟨q3,q4,q5⟩,q6,q7⟩:=hQ0.2;have F:=Fc.mk True.intro;refine yR [2,3,5,6,7,8] ⟨?_⟩;refine b1l [2,3,5,6,7,8,9] ?_;intro K6 k6;refine b15 ⟨?_⟩;refine zxl (b2d code a1 s1 (8) hcode hcl (by omega)) ⟨?_⟩;rintro _ _ ⟨v19,a19,s19,h19,k19,rfl,rfl⟩;refine f6u ⟨?_⟩;refine k6 _ ?_;refine zk ⟨?_⟩;refine b3u (A:=TS) (fun p=>⟨[(2,.ptr 2 0 0),(3,.ptr 6 0 0),(5,.ptr 0 0 0),(6,.pv [tQ n l] 0 0),(7,.pv [kQ fl ins ws] 0 0),(8,.ref 7),(9,.int .i64 p.1)],[cQ code p.2.1 p.2.2,eQ,.box (.agg [.int .i64 0,.ref 1]) .mix,eQ,eQ,eQ,bQ 3 4 5,eQ],false,39,0⟩) (fun p=>(0≤p.1∧p.1≤41)∧0≤p.2.1∧p.2.1≤100010) ?_ ?_
  ·intro Q7 n7 e7 r7;refine b1l [2,3,5,6,7,8,9,21] ?_;intro K8 k8;refine b15 ⟨?_⟩;refine zxl (b6c code a19 s19 (12) hcode hcl (by omega)) ⟨?_⟩;rintro _ _ ⟨v21,a21,s21,h21,k21,rfl,rfl⟩;refine zEl ⟨?_⟩;refine k8 _ ?_;refine zk ⟨?_⟩;refine b0a _ rfl ?_ ?_
   ·intro hc0;refine b2m ?_;intro K10 k10;refine b15 ⟨?_⟩;refine zxl (b2d code a21 s21 (2) hcode hcl (by omega)) ⟨?_⟩;rintro _ _ ⟨v23,a23,s23,h23,k23,rfl,rfl⟩;refine zEl ⟨?_⟩;refine b6z ⟨?_⟩;refine b2l ⟨?_⟩;refine k10 _ ?_;refine n7 (40+v23,a23,s23) _ ?_ ?_
    ·exact ⟨by show 0≤40+v23∧40+v23≤41;omega,by show 0≤a23∧a23≤100010;omega⟩
    ·exact b0q [2,3,5,6,7,8,9] [0,1,2,3,4,5,6,7]
   ·intro hc0;refine b5z ?_;refine n7 (v19,a21,s21) _ ?_ ?_
    ·exact ⟨by show 0≤v19∧v19≤41;omega,by show 0≤a21∧a21≤100010;omega⟩
    ·exact b0q [2,3,5,6,7,8,9] [0,1,2,3,4,5,6,7]
  ·rintro ⟨m,a2,s2⟩ hok7;obtain ⟨hm,ha2⟩:=hok7;simp only [] at hm ha2⊢;refine b0e ?_;intros;refine b0i ?_;intros;refine b08 (fun p=>⟨[(2,.ptr 2 0 0),(3,.ptr 6 0 0),(5,.ptr 0 0 0),(6,.pv [tQ n l] 0 0),(7,.pv [kQ fl ins ws] 0 0),(8,.ref 7),(9,.int .i64 m)],[cQ code p.2.1 p.2.2,eQ,.box (.agg [.int .i64 0,.ref 1]) .mix,eQ,eQ,eQ,bQ 3 4 5,.arr (p.1.map V.str) .flat],false,39,0⟩) (fun p=>(p.1.length:Int)≤41∧(∀s∈p.1,s.size≤12)∧0≤p.2.1∧p.2.1≤100010+1000 * (p.1.length:Int)) (fun p=>(m - (p.1.length:Int)).toNat) (([],a2,s2):List ByteArray×Int×Int) ?_ ?_ ?_
   ·exact b0q [2,3,5,6,7,8,9] [0,1,2,3,4,5,6,7]
   ·exact ⟨by simp,by simp,by simp;omega⟩
   ·rintro ⟨acc,a3,s3⟩ hok13 Q13 n13 e13 r13;obtain ⟨hal,hsz,ha3⟩:=hok13;simp only [] at hal hsz ha3⊢;refine b0e ?_;intros;have F:=Fc.mk True.intro;refine yR [2,3,5,6,7,8,9,28] ⟨?_⟩;refine b0a _ rfl ?_ ?_
    ·intro hc1;refine zn [2,3,5,6,7,8,9] ⟨?_⟩;refine b0i ?_;intro Q17 n17 x17 e17 r17;refine b2m ?_;intro K18 k18;refine zq5 ⟨?_⟩;refine f0s ⟨?_⟩;refine zxl (c5t code a3 s3 fl (by omega) q2 hcode hcl (by omega)) ⟨?_⟩;rintro _ _ ⟨v33,a33,s33,h33,k33,rfl,rfl⟩;refine zEl ⟨?_⟩;refine f7w ⟨?_⟩;refine b2l ⟨?_⟩;refine k18 _ ?_;refine n17 _ ?_;refine n13 _ (acc++[v33],a33,s33) ?_ ?_ ?_
     ·refine b1o [2,3,5,6,7,8,9] [0,1,2,3,4,5,6,9] ⟨?_⟩;simp only [aQ,fQ,List.map_append];try rfl
     ·exact ⟨by show ((acc++[v33]).length:Int)≤41;simp;omega,by
       show ∀s∈acc++[v33],_;intro x hx;rcases qlj.1 hx with h | h
       ·exact hsz x h
       ·rw [qlk] at h;subst h;exact h33,by show 0≤a33∧a33≤100010+1000 * ((acc++[v33]).length:Int);simp;omega⟩
     ·show _ < _;show (m - ((acc++[v33]).length:Int)).toNat < (m - (acc.length:Int)).toNat;simp;omega
    ·intro hc1;refine zn [2,3,6,7,8] ⟨?_⟩;refine b3u (A:=Unit) (fun p=>⟨[(2,.ptr 0 0 0),(3,.ptr 1 0 0),(4,.sl (acc.map V.str))],[.box (tQ n l) .shal,.box (kQ fl ins ws) .shal],false,39,0⟩) (fun p=>True∧True) ?_ ?_
     ·intro Q19 n19 e19 r19;refine b1f (by kernel_rfl) ?_;intro K20 q20 k20;show b1r _ _ _ _ 6 (Array.replicate 6 false) _;refine b1i q20 true 0 36 ?_;refine b1i q20 false 1 37 ?_;refine b0t q20 false 2 38 ?_;refine b06 3 ⟨?_⟩;refine b06 4 ⟨?_⟩;refine b0p 5 ⟨?_⟩;refine b0b (by kernel_rfl) ?_;refine k20 _ ?_;refine n19 () _ ?_ ?_
      ·exact ⟨trivial,trivial⟩
      ·refine b00 (c7u 4 7 (acc.map V.str) .flat rfl rfl (.inl rfl)) ?_;simp only [List.set_cons_zero,List.set_cons_succ];exact b0q [2,3,4] [2,6]
     ·rintro _ hok19;obtain ⟨_,_⟩:=hok19;refine zq1 ⟨?_⟩;try refine zCl ⟨?_⟩
      refine b1a ?_;exact ⟨n,l,fl,ins,ws,acc,⟨hQ0,by omega,hsz⟩,rfl,rfl⟩
set_option maxRecDepth 8000 in
theorem c4f (code:List Int) (hcode:∀x∈code,0≤x∧x≤255) (hcl:code.length≤9223372036854775807):b74 Tryz.prog 21 [.sl (code.map (V.int .u8))] [] (fun r O'=>∃(n:Int) (l:List TS) (fl:List TA),(l.length≤302∧fl.length≤13∧∀t∈fl,t.1.size≤9)∧r=.tup [tQ n l,sQ rQa fl]∧O'=[]):=by
 refine zcx [.cell 2 26,.tmp 3] [(63,[0]),(85,[0,1]),(34,[0]),(35,[0])] Tryz.func21 Tryz.ntmps21 ⟨?_⟩;intro Q0 n0 r0;have T:=Tys.mk (ai Ty.t3 (ai Ty.t4 (ai Ty.t5 (ai Ty.t9 (ai Ty.t22 (ai Ty.t24 (ai Ty.t26 (ai Ty.t27 (ai Ty.t53 (ai Ty.t68 (ai Ty.t69 (ai Ty.t71 Ty.t127))))))))))));have F:=Fc.mk True.intro;refine yR [0,2] ⟨?_⟩;refine yR [2,4] ⟨?_⟩;refine b1l [2,4,5,6] ?_;intro K3 k3;refine b15 ⟨?_⟩;refine zxl (d6f code 0 0 hcode hcl (by omega)) ⟨?_⟩;rintro _ _ ⟨tn,tl,tfl,a14,s14,h14,k14,rfl,rfl⟩;refine zEl ⟨?_⟩;refine f0q ⟨?_⟩;refine zq8 ⟨?_⟩;refine b2l ⟨?_⟩;refine k3 _ ?_;refine zk ⟨?_⟩;refine b3u (A:=List TA) (fun p=>⟨[(2,.ptr 1 0 0),(5,.ptr 2 0 0),(6,.ref 4)],[eQ,.box (.agg [.int .i64 0,.ref 0]) .mix,.box (.agg [.int .i64 tn,.ref 3]) .mix,aQ rQd tl,aQ rQa p],false,34,0⟩) (fun p=>p.length≤13∧∀x∈p,x.1.size≤9) ?_ ?_
 ·intro Q4 n4 e4 r4;refine b1l [2,5,6,18] ?_;intro K5 k5;refine b15 ⟨?_⟩;refine zxl (b6c code a14 s14 (2) hcode hcl (by omega)) ⟨?_⟩;rintro _ _ ⟨v18,a18,s18,h18,k18,rfl,rfl⟩;refine zEl ⟨?_⟩;refine k5 _ ?_;refine zk ⟨?_⟩;refine b0a _ rfl ?_ ?_
  ·intro hc0;refine yR [2,5,6,19,20,21] ⟨?_⟩;refine b0i ?_;intros;refine b08 (fun p=>⟨[(2,.ptr 1 0 0),(5,.ptr 2 0 0),(6,.ref 4),(19,.ref 4),(20,.int .i64 tfl.length),(21,.int .i64 (Nat.cast p.1))],[eQ,.box (.agg [.int .i64 0,.ref 0]) .mix,.box (.agg [.int .i64 tn,.ref 3]) .mix,aQ rQd tl,aQ rQa p.2],false,34,0⟩) (fun p=>p.1≤tfl.length∧p.2.length=tfl.length∧∀x∈p.2,x.1.size≤9) (fun p=>tfl.length - p.1) ((0,tfl):Nat×List TA) ?_ ?_ ?_
   ·exact b0q [2,5,6,19,20,21] [0,1,7,4,5]
   ·exact ⟨qle _,rfl,h14.2.2⟩
   ·rintro ⟨i,acc⟩ hok9 Q9 n9 e9 r9;obtain ⟨hi1,hal,hsz⟩:=hok9;simp only [] at hi1 hal hsz⊢;refine yR [2,5,6,19,20,21,22] ⟨?_⟩;refine b0e ?_;intros;refine b0a _ rfl ?_ ?_
    ·intro hc1;have hlt:i < tfl.length:=by omega
     obtain ⟨⟨x0,x1,x2,x3,x4⟩,hx⟩:∃x:TA,acc[i]? =some x:=⟨acc[i]'(by omega),qla (by omega)⟩;have hz0:x0.size≤9:=hsz _ (qlb hx);refine zn [2,5,6,19,20,21] ⟨?_⟩;refine b0e ?_;intros;refine b0i ?_;intros;have F:=Fc.mk (gdm hx);refine yR [2,5,6,7,8,19,20,21] ⟨?_⟩;refine yR [2,5,6,7,8,19,20,21] ⟨?_⟩;refine yQ [2,5,6,19,20,21] ⟨?_⟩;refine yV ⟨?_⟩;refine n9 _ (i+1,acc.set i (x0,x1,x2,x3,0)) ?_ ?_ ?_
     ·refine b1o [2,5,6,19,20,21] [0,1,2,3,4] ⟨?_⟩;rw [c70];rfl
     ·exact ⟨hlt,by show (acc.set _ _).length=_;rw [qlp];exact hal,fun t ht=>by
       rcases List.mem_or_eq_of_mem_set ht with h | h
       ·exact hsz t h
       ·subst h;exact hz0⟩
     ·show _ < _;show tfl.length - (i+1) < tfl.length - i;omega
    ·intro hc1;refine zx ⟨?_⟩;refine n4 acc _ ?_ ?_
     ·exact ⟨by omega,hsz⟩
     ·exact b0q [2,5,6] [0,1,2,3,4]
  ·intro hc0;refine b5z ?_;refine n4 tfl _ ?_ ?_
   ·exact h14.2
   ·exact b0q [2,5,6] [0,1,7,4,5]
 ·rintro fl2 hok4;obtain ⟨hf1,hf2⟩:=hok4;refine b0e ?_;intro Q19 n19 e19 r19;have F:=Fc.mk True.intro;refine yV ⟨?_⟩;apply n19
  ·apply b00 (b0f [2,3] _);simp only [b02,b0n,b0l,b0j,b0u,Nat.reduceEqDiff,reduceIte];exact b00 (b3d 1 3 [.int .i64 tn] [] _ _ rfl rfl (.inl rfl) (by decide)) (c7u 3 4 (fl2.map rQa) .flat rfl rfl (.inl rfl))
  try simp only [b2f,b2q,Nat.reduceEqDiff,reduceIte,List.set_cons_zero,List.set_cons_succ]
  refine zq1 ⟨?_⟩;refine b1a ?_;exact ⟨tn,tl,fl2,⟨h14.1,hf1,hf2⟩,rfl,rfl⟩
end Go.Proofs.YtmbbjhopngejaaaGreatDoor
