/- What functions compute. No condition. -/
import Derived.Test.YtmbbjhopngejaaaGreatX26
set_option linter.all false
open List renaming not_mem_nil → Za, mem_cons → Zb, set_cons_zero → Ze, set_cons_succ → Zf
open Array renaming replicate → Zc
open Go.Vm.V renaming int → Zd
namespace Go.Proofs.YtmbbjhopngejaaaGreat
open Go Go.Vm Tryz
set_option maxHeartbeats 8000000
set_option maxRecDepth 8000 in
theorem d37 (code:List Int) (a s:Int) (l:List TI) (hl:l.length≤1048576) (hcode:∀x∈code,0≤x∧x≤255) (hcl:code.length≤9223372036854775807) (ha:0≤a∧a < 16000000000):b76 prog 63 [.ptr 0 0 0,sQ rQb l] [cQ code a s] (fun r O'=>∃(v:Int) (a' s':Int),(True)∧(a≤a'∧a'≤a+8)∧r=.int .i64 v∧O'=[cQ code a' s']):=by
 apply zcx [.tmp 4] [(75,[0,1]),(70,[0]),(73,[0])] func63 ntmps63;intro _ n0 _;have T:=c2r Y3 Y4 Y5 Y9 Y22 Y29 Y41 Y48 Y60 Y61 Y63 Y96;have F:=Fc.mk True.intro;rcases ql8 l.length with hl0 | hl0
 ·skip;have hdl:decide ((l.length:Int) > 0)=false:=decide_eq_false (by omega);have F:=Fc.mk hdl;apply yR [0,1];apply b0e;intro _ n2 _ _;apply b1l [0,1,12];intro _ k3;apply (g5s);apply (g0e);apply (zPs);apply (f1j);apply k3 _;apply (zk);apply b2a _ rfl
  ·intro hc0;exfalso;simp at hc0
  ·intro hc0;try simp only [zC,reduceCtorEq] at hc0
   apply zn [0];apply b1l [4];intro _ k5;apply (zq7);apply zxt (b16 code a s [0,1,2,999,1000] (by simp) hcode hcl (by omega));rintro _ _ ⟨v23,a23,s23,h23,k23,rfl,rfl⟩;apply (zEt);simp only [Zb,Za,or_false] at h23;apply (b2h);apply k5 _;apply (zq1);refine b1g ?_;exact ⟨_,_,_,trivial,by omega,rfl,rfl⟩
 ·skip;have hdl:decide ((l.length:Int) > 0)=true:=decide_eq_true (by omega);have F:=Fc.mk hdl;apply yR [0,1];apply b0e;intros;apply b1l [0,1,12];intro _ k8;apply (g5s);apply (g0e);apply zgx (b7p code a s (8) hcode hcl (by omega)) (⟨_,true,a,s,trivial,by omega,rfl,rfl⟩);rintro _ _ ⟨v10,a10,s10,h10,k10,rfl,rfl⟩;apply (zEg);apply (f1j);apply k8 _;apply (zk);apply b0c _ rfl
  ·intro hc0;apply b1l [4];intro _ k10;apply (zq8);apply (g4m);apply zxl (b1t code a10 s10 ((l.length:Int)) hcode hcl (by omega));rintro _ _ ⟨v17,a17,s17,h17,k17,rfl,rfl⟩;obtain ⟨⟨n0,n1,n2,n3⟩,hx⟩:∃x,l[v17.toNat]? =some x:=⟨l[v17.toNat]'(by omega),qla (by omega)⟩;apply (zEl);have F:=fq2 hdl (gdm hx);apply (b8e);apply (g4b);apply (b2h);apply k10 _;apply (zq1);refine b1g ?_;exact ⟨_,_,_,trivial,by omega,rfl,rfl⟩
  ·intro hc0;apply zn [0];apply b1l [4];intro _ k11;apply (zq7);apply zxt (b16 code a10 s10 [0,1,2,999,1000] (by simp) hcode hcl (by omega));rintro _ _ ⟨v23,a23,s23,h23,k23,rfl,rfl⟩;apply (zEt);simp only [Zb,Za,or_false] at h23;apply (b2h);apply k11 _;apply (zq1);refine b1g ?_;exact ⟨_,_,_,trivial,by omega,rfl,rfl⟩
set_option maxRecDepth 8000 in
theorem f1r (code:List Int) (a s:Int) (hcode:∀x∈code,0≤x∧x≤255) (hcl:code.length≤9223372036854775807) (ha:0≤a∧a < 16000000000):b76 prog 30 [.ptr 0 0 0] [cQ code a s] (fun r O'=>∃(x y z:Int) (a' s':Int),(-1≤x∧x≤6)∧(a≤a'∧a'≤a+20)∧r=.agg [.int .i64 x,.int .i64 y,.int .i64 z]∧O'=[cQ code a' s']):=by
 apply zcx [.cell 2 34] [(75,[0,1]),(70,[0]),(73,[0])] func30 ntmps30;intro _ _ _;have T:=tq8 Y3 Y5 Y22 Y34 Y41 Y60 Y61 Y63;have F:=Fc.mk True.intro;apply yR [0,2];apply b1l [2];intro _ k2;apply (zq2);apply (b2c);apply zxt (b16 code a s [0,-1,6] (by simp) hcode hcl (by omega));rintro _ _ ⟨v6,a6,s6,h6,k6,rfl,rfl⟩;apply (zEt);simp only [Zb,Za,or_false] at h6;apply (b2c);apply zxt (b16 code a6 s6 [0,1,2,3,4,5,5,v6] (by simp) hcode hcl (by omega));rintro _ _ ⟨v8,a8,s8,h8,k8,rfl,rfl⟩;apply (zEt);simp only [Zb,Za,or_false] at h8;apply (zq2);apply (b2c);apply zxt (b16 code a8 s8 [2,-1,4] (by simp) hcode hcl (by omega));rintro _ _ ⟨v12,a12,s12,h12,k12,rfl,rfl⟩;apply (zEt);simp only [Zb,Za,or_false] at h12;apply (b2c);apply zxt (b16 code a12 s12 [0,1,2,3,3,0,1,v12] (by simp) hcode hcl (by omega));rintro _ _ ⟨v14,a14,s14,h14,k14,rfl,rfl⟩;apply (zEt);simp only [Zb,Za,or_false] at h14;apply (zq2);apply zxl (b1t code a14 s14 (24) hcode hcl (by omega));rintro _ _ ⟨v17,a17,s17,h17,k17,rfl,rfl⟩;apply (zEl);apply (zq7);apply zxt (b16 code a17 s17 [0,-1,24] (by simp) hcode hcl (by omega));rintro _ _ ⟨v20,a20,s20,h20,k20,rfl,rfl⟩;apply (zEt);simp only [Zb,Za,or_false] at h20;apply (b2c);apply zxt (b16 code a20 s20 [0,5,6,12,18,23,v17,v20] (by simp) hcode hcl (by omega));rintro _ _ ⟨v22,a22,s22,h22,k22,rfl,rfl⟩;apply (zEt);simp only [Zb,Za,or_false] at h22;apply (c7k);apply (b55);apply k2 _;apply (zq9);refine b1g ?_;exact ⟨_,_,_,_,_,by omega,by omega,rfl,rfl⟩
set_option maxRecDepth 8000 in
theorem d7u (code:List Int) (a s:Int) (hcode:∀x∈code,0≤x∧x≤255) (hcl:code.length≤9223372036854775807) (ha:0≤a∧a < 14000000000):b76 prog 81 [.ptr 0 0 0] [cQ code a s] (fun r O'=>∃(x0 x1 x2 x3 x4 x5:Int) (x6:List Int) (a' s':Int),(x6.length≤4)∧(a≤a'∧a'≤a+300)∧r=.agg [.int .i64 x0,.int .i64 x1,.int .i64 x2,.int .i64 x3,.int .i64 x4,.int .i64 x5,.ref 1]∧O'=[cQ code a' s',.arr (x6.map (Zd .i64)) .flat]):=by
 apply zcx [.cell 2 93] [(75,[0,1]),(70,[0]),(73,[0]),(76,[0])] func81 ntmps81;intro _ _ _;have T:=tq9 Y3 Y4 Y5 Y22 Y41 Y60 Y61 Y63 Y93;have F:=Fc.mk True.intro;apply yR [0,2];apply b4r (A:=List Int×Int×Int×Int×Int×Int×Int×Int×Int) (fun p=>⟨[(0,.ptr 0 0 0),(2,.ptr 2 0 0),(3,.ptr 4 0 0)],[cQ code p.2.2.2.2.2.2.2.1 p.2.2.2.2.2.2.2.2,eQ,.box (.agg [.int .i64 0,.int .i64 0,.int .i64 0,.int .i64 0,.int .i64 0,.int .i64 0,.ref 1]) .mix,.arr (p.1.map (Zd .i64)) .flat,.box (.agg [.int .i64 p.2.1,.int .i64 p.2.2.1,.int .i64 p.2.2.2.1,.int .i64 p.2.2.2.2.1,.int .i64 p.2.2.2.2.2.1,.int .i64 p.2.2.2.2.2.2.1,.ref 3]) .mix],false,69,0⟩) (fun p=>p.1.length≤4∧(-100≤p.2.1∧p.2.1≤100)∧(-100≤p.2.2.1∧p.2.2.1≤100)∧(-100≤p.2.2.2.1∧p.2.2.2.1≤100)∧(-100≤p.2.2.2.2.1∧p.2.2.2.2.1≤100)∧(-100≤p.2.2.2.2.2.1∧p.2.2.2.2.2.1≤100)∧a≤p.2.2.2.2.2.2.2.1∧p.2.2.2.2.2.2.2.1≤a+40)
 ·intro _ n2 _ _;apply b2u;intro _ k3;apply (zU);apply zxl (b1t code a s (6) hcode hcl (by omega));rintro _ _ ⟨v5,a5,s5,h5,k5,rfl,rfl⟩;apply (zEl);apply (zU);apply zxl (b1t code a5 s5 (4) hcode hcl (by omega));rintro _ _ ⟨v7,a7,s7,h7,k7,rfl,rfl⟩;apply (zEl);apply (zq7);apply zxt (b16 code a7 s7 [0,0,6,18] (by simp) hcode hcl (by omega));rintro _ _ ⟨v10,a10,s10,h10,k10,rfl,rfl⟩;apply (zEt);simp only [Zb,Za,or_false] at h10;apply (zU);apply zxl (c7l code a10 s10 hcode hcl (by omega));rintro _ _ ⟨nd6,a12,s12,h12,k12,rfl,rfl⟩;apply (zEl);apply (c7k);apply (g5x);apply k3 _;apply n2 (nd6,v5,0,v7,0,v10,0,a12,s12) _
  ·exact ⟨by show nd6.length≤4;omega,by show -100≤v5∧v5≤100;omega,by show -100≤0∧0≤100;omega,by show -100≤v7∧v7≤100;omega,by show -100≤0∧0≤100;omega,by show -100≤v10∧v10≤100;omega,by show a≤a12∧a12≤a+40;omega⟩
  ·exact b0t [0,2,3] [0,1,2,4,6]
 ·rintro ⟨x6,y10,y11,y12,y13,y14,y15,b1,t1⟩ hok2;obtain ⟨hx6,hy10,hy11,hy12,hy13,hy14,hb1⟩:=hok2;simp only [] at hx6 hy10 hy11 hy12 hy13 hy14 hb1⊢;apply b4r (A:=Int×Int×Int×Int×Int×Int×Int×Int) (fun p=>⟨[(0,.ptr 0 0 0),(2,.ptr 2 0 0),(3,.ptr 4 0 0)],[cQ code p.2.2.2.2.2.2.1 p.2.2.2.2.2.2.2,eQ,.box (.agg [.int .i64 0,.int .i64 0,.int .i64 0,.int .i64 0,.int .i64 0,.int .i64 0,.ref 1]) .mix,.arr (x6.map (Zd .i64)) .flat,.box (.agg [.int .i64 p.1,.int .i64 p.2.1,.int .i64 p.2.2.1,.int .i64 p.2.2.2.1,.int .i64 p.2.2.2.2.1,.int .i64 p.2.2.2.2.2.1,.ref 3]) .mix],false,69,0⟩) (fun p=>(-100≤p.1∧p.1≤100)∧(-100≤p.2.1∧p.2.1≤100)∧(-100≤p.2.2.1∧p.2.2.1≤100)∧(-100≤p.2.2.2.1∧p.2.2.2.1≤100)∧(-100≤p.2.2.2.2.1∧p.2.2.2.2.1≤100)∧a≤p.2.2.2.2.2.2.1∧p.2.2.2.2.2.2.1≤a+50)
  ·intro _ n4 _ _;apply b1b (by kernel_rfl);intro _ q5 k5;show b13 _ _ _ _ 10 (Zc 10 false) _;have F:=Fc.mk True.intro;refine zdU q5 false 0 14 ?_;refine zdU q5 true 2 16 ?_;refine zdU q5 true 3 17 ?_;refine b00 q5 true 4 18 ?_;refine b7u q5 true 5 19 ?_;apply b1e 1 6 rfl rfl (by kernel_rfl)
   ·apply (b3y);apply g0d 6 (b1t code b1 t1 (6 - y10) hcode hcl (by omega));rintro _ _ ⟨v20,a20,s20,h20,k20,rfl,rfl⟩;apply (zEl);refine b7u q5 true 7 21 ?_;refine zdU q5 true 8 22 ?_;apply b06 9;apply b0b (by kernel_rfl);apply k5 _;apply n4 (y10,(y10+v20),y12,y13,y14,y15,a20,s20) _
    ·exact ⟨by show -100≤y10∧y10≤100;omega,by show -100≤(y10+v20)∧(y10+v20)≤100;omega,by show -100≤y12∧y12≤100;omega,by show -100≤y13∧y13≤100;omega,by show -100≤y14∧y14≤100;omega,by show a≤a20∧a20≤a+50;omega⟩
    ·exact b0t [0,2,3] [0,1,2,3,4]
   ·skip;apply d6g (b1t code b1 t1 (6 - y10) hcode hcl (by omega));rintro _ _ ⟨v20,a20,s20,h20,k20,rfl,rfl⟩;apply (zEl);refine b00 q5 true 1 15 ?_;refine b7u q5 true 7 21 ?_;refine zdU q5 true 8 22 ?_;apply b06 9;apply b0b (by kernel_rfl);apply k5 _;apply n4 (y10,(y10+v20),y12,y13,y14,y15,a20,s20) _
    ·exact ⟨by show -100≤y10∧y10≤100;omega,by show -100≤(y10+v20)∧(y10+v20)≤100;omega,by show -100≤y12∧y12≤100;omega,by show -100≤y13∧y13≤100;omega,by show -100≤y14∧y14≤100;omega,by show a≤a20∧a20≤a+50;omega⟩
    ·exact b0t [0,2,3] [0,1,2,3,4]
  ·rintro ⟨y20,y21,y22,y23,y24,y25,b2,t2⟩ hok4;obtain ⟨hy20,hy21,hy22,hy23,hy24,hb2⟩:=hok4;simp only [] at hy20 hy21 hy22 hy23 hy24 hb2⊢;apply b4r (A:=Int×Int×Int×Int×Int×Int×Int×Int) (fun p=>⟨[(0,.ptr 0 0 0),(2,.ptr 2 0 0),(3,.ptr 4 0 0)],[cQ code p.2.2.2.2.2.2.1 p.2.2.2.2.2.2.2,eQ,.box (.agg [.int .i64 0,.int .i64 0,.int .i64 0,.int .i64 0,.int .i64 0,.int .i64 0,.ref 1]) .mix,.arr (x6.map (Zd .i64)) .flat,.box (.agg [.int .i64 p.1,.int .i64 p.2.1,.int .i64 p.2.2.1,.int .i64 p.2.2.2.1,.int .i64 p.2.2.2.2.1,.int .i64 p.2.2.2.2.2.1,.ref 3]) .mix],false,69,0⟩) (fun p=>(-100≤p.1∧p.1≤100)∧(-100≤p.2.1∧p.2.1≤100)∧(-100≤p.2.2.1∧p.2.2.1≤100)∧(-100≤p.2.2.2.1∧p.2.2.2.1≤100)∧(-100≤p.2.2.2.2.1∧p.2.2.2.2.1≤100)∧a≤p.2.2.2.2.2.2.1∧p.2.2.2.2.2.2.1≤a+60)
   ·intro _ n6 _ _;apply b1b (by kernel_rfl);intro _ q7 k7;show b13 _ _ _ _ 10 (Zc 10 false) _;have F:=Fc.mk True.intro;refine zdU q7 false 0 23 ?_;refine zdU q7 true 2 25 ?_;refine zdU q7 true 3 26 ?_;refine b00 q7 true 4 27 ?_;refine b7u q7 true 5 28 ?_;apply b1e 1 6 rfl rfl (by kernel_rfl)
    ·apply (b3y);apply g0d 6 (b1t code b2 t2 (4 - y22) hcode hcl (by omega));rintro _ _ ⟨v29,a29,s29,h29,k29,rfl,rfl⟩;apply (zEl);refine b7u q7 true 7 30 ?_;refine zdU q7 true 8 31 ?_;apply b06 9;apply b0b (by kernel_rfl);apply k7 _;apply n6 (y20,y21,y22,(y22+v29),y24,y25,a29,s29) _
     ·exact ⟨by show -100≤y20∧y20≤100;omega,by show -100≤y21∧y21≤100;omega,by show -100≤y22∧y22≤100;omega,by show -100≤(y22+v29)∧(y22+v29)≤100;omega,by show -100≤y24∧y24≤100;omega,by show a≤a29∧a29≤a+60;omega⟩
     ·exact b0t [0,2,3] [0,1,2,3,4]
    ·skip;apply d6g (b1t code b2 t2 (4 - y22) hcode hcl (by omega));rintro _ _ ⟨v29,a29,s29,h29,k29,rfl,rfl⟩;apply (zEl);refine b00 q7 true 1 24 ?_;refine b7u q7 true 7 30 ?_;refine zdU q7 true 8 31 ?_;apply b06 9;apply b0b (by kernel_rfl);apply k7 _;apply n6 (y20,y21,y22,(y22+v29),y24,y25,a29,s29) _
     ·exact ⟨by show -100≤y20∧y20≤100;omega,by show -100≤y21∧y21≤100;omega,by show -100≤y22∧y22≤100;omega,by show -100≤(y22+v29)∧(y22+v29)≤100;omega,by show -100≤y24∧y24≤100;omega,by show a≤a29∧a29≤a+60;omega⟩
     ·exact b0t [0,2,3] [0,1,2,3,4]
   ·rintro ⟨y30,y31,y32,y33,y34,y35,b3,t3⟩ hok6;obtain ⟨hy30,hy31,hy32,hy33,hy34,hb3⟩:=hok6;simp only [] at hy30 hy31 hy32 hy33 hy34 hb3⊢;apply b1l [0,2,3];intro _ k8;have F:=Fc.mk True.intro;apply (zq2);apply (d5m);apply (g4b);apply (b46);apply (b2c);apply zxt (b16 code b3 t3 [23,23,y34,y34+5] (by simp) hcode hcl (by omega));rintro _ _ ⟨v39,a39,s39,h39,k39,rfl,rfl⟩;apply (zEt);simp only [Zb,Za,or_false] at h39;apply (f7s);apply k8 _;apply (zk);apply b4r (A:=Int×Int×Int×Int×Int×Int×Int×Int) (fun p=>⟨[(0,.ptr 0 0 0),(2,.ptr 2 0 0),(3,.ptr 4 0 0)],[cQ code p.2.2.2.2.2.2.1 p.2.2.2.2.2.2.2,eQ,.box (.agg [.int .i64 0,.int .i64 0,.int .i64 0,.int .i64 0,.int .i64 0,.int .i64 0,.ref 1]) .mix,.arr (x6.map (Zd .i64)) .flat,.box (.agg [.int .i64 p.1,.int .i64 p.2.1,.int .i64 p.2.2.1,.int .i64 p.2.2.2.1,.int .i64 p.2.2.2.2.1,.int .i64 p.2.2.2.2.2.1,.ref 3]) .mix],false,69,0⟩) (fun p=>(-100≤p.1∧p.1≤100)∧(-100≤p.2.1∧p.2.1≤100)∧(-100≤p.2.2.1∧p.2.2.1≤100)∧(-100≤p.2.2.2.1∧p.2.2.2.1≤100)∧(-100≤p.2.2.2.2.1∧p.2.2.2.2.1≤100)∧a≤p.2.2.2.2.2.2.1∧p.2.2.2.2.2.2.1≤a+80)
    ·intro _ n9 _ _;apply b1l [0,2,3,42];intro _ k10;apply (zU);apply zxl (b7p code a39 s39 (3) hcode hcl (by omega));rintro _ _ ⟨v42,a42,s42,h42,k42,rfl,rfl⟩;apply (zEl);apply k10 _;apply (zk);apply b0c _ rfl
     ·intro hc0;apply yR [0,2,3];apply (yV);apply n9 (0,5,y32,y33,y34,v39,a42,s42) _
      ·exact ⟨by show -100≤0∧0≤100;omega,by show -100≤5∧5≤100;omega,by show -100≤y32∧y32≤100;omega,by show -100≤y33∧y33≤100;omega,by show -100≤y34∧y34≤100;omega,by show a≤a42∧a42≤a+80;omega⟩
      ·exact b0t [0,2,3] [0,1,2,3,4]
     ·intro hc0;apply b6m;apply n9 (y30,y31,y32,y33,y34,v39,a42,s42) _
      ·exact ⟨by show -100≤y30∧y30≤100;omega,by show -100≤y31∧y31≤100;omega,by show -100≤y32∧y32≤100;omega,by show -100≤y33∧y33≤100;omega,by show -100≤y34∧y34≤100;omega,by show a≤a42∧a42≤a+80;omega⟩
      ·exact b0t [0,2,3] [0,1,2,3,4]
    ·rintro ⟨y50,y51,y52,y53,y54,y55,b5,t5⟩ hok9;obtain ⟨hy50,hy51,hy52,hy53,hy54,hb5⟩:=hok9;simp only [] at hy50 hy51 hy52 hy53 hy54 hb5⊢;apply b4r (A:=Int×Int×Int×Int×Int×Int×Int×Int) (fun p=>⟨[(2,.ptr 2 0 0),(3,.ptr 4 0 0)],[cQ code p.2.2.2.2.2.2.1 p.2.2.2.2.2.2.2,eQ,.box (.agg [.int .i64 0,.int .i64 0,.int .i64 0,.int .i64 0,.int .i64 0,.int .i64 0,.ref 1]) .mix,.arr (x6.map (Zd .i64)) .flat,.box (.agg [.int .i64 p.1,.int .i64 p.2.1,.int .i64 p.2.2.1,.int .i64 p.2.2.2.1,.int .i64 p.2.2.2.2.1,.int .i64 p.2.2.2.2.2.1,.ref 3]) .mix],false,69,0⟩) (fun p=>True∧a≤p.2.2.2.2.2.2.1∧p.2.2.2.2.2.2.1≤a+120)
     ·intro _ n14 _ _;apply b1l [0,2,3,46];intro _ k15;have F:=Fc.mk True.intro;apply (zU);apply zxl (b1t code b5 t5 (60) hcode hcl (by omega));rintro _ _ ⟨v46,a46,s46,h46,k46,rfl,rfl⟩;apply (zEl);apply k15 _;apply (zk);apply b0g;intro _ n16 _ _ _;apply yR [0,2,3,46,47];apply b0c _ rfl
      ·intro hc1;apply b2u;intro _ k19;apply (zq2);apply (d5m);apply (b46);apply (b2c);apply zxt (b16 code a46 s46 [6,-1,y50 - 1] (by simp) hcode hcl (by omega));rintro _ _ ⟨v54,a54,s54,h54,k54,rfl,rfl⟩;apply (zEt);simp only [Zb,Za,or_false] at h54;apply (f7s);apply k19 _;apply n16 _;apply n14 (y50,v54,y52,y53,y54,y55,a54,s54) _
       ·exact ⟨trivial,by show a≤a54∧a54≤a+120;omega⟩
       ·exact b0t [2,3] [0,1,2,3,4]
      ·intro hc1;apply yR [0,2,3,46,56];apply b0c _ rfl
       ·intro hc2;apply b2u;intro _ k22;apply (zq7);apply zxt (b16 code a46 s46 [-1,24] (by simp) hcode hcl (by omega));rintro _ _ ⟨v60,a60,s60,h60,k60,rfl,rfl⟩;apply (zEt);simp only [Zb,Za,or_false] at h60;apply (f7s);apply k22 _;apply n16 _;apply n14 (y50,y51,y52,y53,v60,y55,a60,s60) _
        ·exact ⟨trivial,by show a≤a60∧a60≤a+120;omega⟩
        ·exact b0t [2,3] [0,1,2,3,4]
       ·intro hc2;apply yR [0,2,3,62];apply b0c _ rfl
        ·intro hc3;apply b2u;intro _ k25;apply (zq7);apply zxt (b16 code a46 s46 [4,-1] (by simp) hcode hcl (by omega));rintro _ _ ⟨v66,a66,s66,h66,k66,rfl,rfl⟩;apply (zEt);simp only [Zb,Za,or_false] at h66;apply (f7s);apply k25 _;apply n16 _;apply n14 (y50,y51,y52,v66,y54,y55,a66,s66) _
         ·exact ⟨trivial,by show a≤a66∧a66≤a+120;omega⟩
         ·exact b0t [2,3] [0,1,2,3,4]
        ·intro hc3;apply (zx);apply n14 (y50,y51,y52,y53,y54,y55,a46,s46) _
         ·exact ⟨trivial,by show a≤a46∧a46≤a+120;omega⟩
         ·exact b0t [2,3] [0,1,2,3,4]
     ·rintro ⟨y80,y81,y82,y83,y84,y85,b8,t8⟩ hok14;obtain ⟨_,hb8⟩:=hok14;simp only [] at hb8⊢;have F:=Fc.mk True.intro;apply yR [2];apply (zq3);refine b1g ?_;exact ⟨_,_,_,_,_,_,_,_,_,hx6,by omega,rfl,rfl⟩
theorem f6n {a:List (Int×Int×Int×Int×Int×Int×List Int)} {x0 x1 x2 x3 x4 x5:Int} {x6:List Int}:a.map rQf++[V.agg [Zd .i64 x0,Zd .i64 x1,Zd .i64 x2,Zd .i64 x3,Zd .i64 x4,Zd .i64 x5,V.sl (x6.map (Zd .i64))]]=(a++[(x0,x1,x2,x3,x4,x5,x6)]).map rQf:=by simp
theorem d9j {a:List (Int×Int×Int×Int×Int×Int×List Int)} {x:(Int×Int×Int×Int×Int×Int×List Int)} (h:∀t∈a,t.2.2.2.2.2.2.length≤4) (hx:x.2.2.2.2.2.2.length≤4):∀t∈a++[x],t.2.2.2.2.2.2.length≤4:=fun t ht=>by
  rcases qll.1 ht with q | q
  · exact h t q
  · rw [qlm] at q;subst q;exact hx
set_option maxRecDepth 8000 in
theorem d38 (code:List Int) (a s:Int) (hcode:∀x∈code,0≤x∧x≤255) (hcl:code.length≤9223372036854775807) (ha:0≤a∧a < 13000000000):b76 prog 28 [.ptr 0 0 0] [cQ code a s] (fun r O'=>∃(l:List (Int×Int×Int×Int×Int×Int×List Int)) (a' s':Int),(l.length≤12∧∀t∈l,t.2.2.2.2.2.2.length≤4)∧(a≤a'∧a'≤a+8000)∧r=sQ rQf l∧O'=[cQ code a' s']):=by
 apply zcx [.tmp 2] [(75,[0,1]),(70,[0]),(73,[0]),(81,[0])] func28 ntmps28;intro _ _ _;have T:=g1m Y3 Y4 Y5 Y22 Y27 Y41 Y60 Y61 Y63 Y93;have F:=Fc.mk True.intro;apply yR [0];apply yR [0,3];apply b1l [0,3,4];intro _ k3;apply (zU);apply zxl (b1t code a s (5) hcode hcl (by omega));rintro _ _ ⟨v6,a6,s6,h6,k6,rfl,rfl⟩;apply (g0g);apply k3 _;apply (zk);apply b4r (A:=TS) (fun p=>⟨[(0,.ptr 0 0 0),(3,.ref 1),(4,.int .i64 p.1)],[cQ code p.2.1 p.2.2,eQ],false,33,0⟩) (fun p=>(0≤p.1∧p.1≤11)∧a≤p.2.1∧p.2.1≤a+10)
 ·intro _ n4 _ _;apply b1l [0,3,4,8];intro _ k5;apply (zU);apply zxl (b7p code a6 s6 (12) hcode hcl (by omega));rintro _ _ ⟨v8,a8,s8,h8,k8,rfl,rfl⟩;apply (zEl);apply k5 _;apply (zk);apply b0c _ rfl
  ·intro hc0;apply b2u;intro _ k7;apply (zU);apply zxl (b1t code a8 s8 (2) hcode hcl (by omega));rintro _ _ ⟨v10,a10,s10,h10,k10,rfl,rfl⟩;apply (zEl);apply (b46);apply (b2h);apply k7 _;apply n4 (10+v10,a10,s10) _
   ·exact ⟨by show 0≤10+v10∧10+v10≤11;omega,by show a≤a10∧a10≤a+10;omega⟩
   ·exact b0t [0,3,4] [0,2]
  ·intro hc0;apply b6m;apply n4 (v6,a8,s8) _
   ·exact ⟨by show 0≤v6∧v6≤11;omega,by show a≤a8∧a8≤a+10;omega⟩
   ·exact b0t [0,3,4] [0,2]
 ·rintro ⟨m,a1,s1⟩ hok4;obtain ⟨hm,ha1⟩:=hok4;simp only [] at hm ha1⊢;apply b0e;intros;apply b0g;intros;apply b05 (fun p=>⟨[(0,.ptr 0 0 0),(3,.ref 1),(4,.int .i64 m)],[cQ code p.2.1 p.2.2,fQ rQf p.1],false,33,0⟩) (fun p=>((p.1.length:Int)≤11∧∀t∈p.1,t.2.2.2.2.2.2.length≤4)∧a1≤p.2.1∧p.2.1≤a1+300 * (p.1.length:Int)) (fun p=>(m - (p.1.length:Int)).toNat) (([],a1,s1):List (Int×Int×Int×Int×Int×Int×List Int)×Int×Int)
  ·refine b6c [0,3,4] [0,1] (by decide) (by simp) ?_ ?_ ?_
   ·simp [b0r,b0k,b0i,b0f,V.only,V.onlyL,idx]<;>(first | rfl | decide)
   ·simp [Blk.kindIs,b02,b1m]
   simp only [aQ,fQ,b0r,b0k,b0i,b0f,b0n,Nat.reduceEqDiff,reduceIte,St.comp,List.map_cons,List.map_nil,V.ren,V.renL,idx,List.getD_cons_zero,List.getD_cons_succ,Nat.reduceBEq,cond_true,cond_false,Option.map_some,Option.getD_some,Nat.reduceAdd,Nat.beq_eq_true_eq];all_goals rfl
  ·exact ⟨⟨by simp,by simp⟩,by simp⟩
  ·rintro ⟨acc,a2,s2⟩ hok10 Q10 n10 e10 r10;obtain ⟨⟨hal,hac⟩,ha2⟩:=hok10;simp only [] at hal hac ha2⊢;apply b0e;intros;have F:=Fc.mk True.intro;apply yR [0,3,4,15];apply b0c _ rfl
   ·intro hc1;apply zn [0,3,4];apply b0g;intro _ n14 _ _ _;apply b2u;intro _ k15;apply (zq2);apply zxl (d7u code a2 s2 hcode hcl (by omega));rintro _ _ ⟨w0,w1,w2,w3,w4,w5,l18,a18,s18,h18,k18,rfl,rfl⟩;apply (zEl);apply (b2c);apply (c5u);apply (b2h);apply k15 _;apply n14 _;apply n10 _ (acc++[(w0,w1,w2,w3,w4,w5,l18)],a18,s18)
    ·apply b0d [0,3,4] [0,4];simp only [aQ,fQ,f6n,List.length_append,List.length_cons,List.length_nil]
    ·exact ⟨⟨by show ((acc++_).length:Int)≤11;simp;omega,d9j hac h18⟩,by show a1≤a18∧a18≤a1+300 * ((acc++_).length:Int);simp;omega⟩
    ·show _ < _;show (m - ((acc++_).length:Int)).toNat < (m - (acc.length:Int)).toNat;simp;omega
   ·intro hc1;apply zn [0,3,4];apply b4r (A:=List (Int×Int×Int×Int×Int×Int×List Int)×Int×Int) (fun p=>⟨[(3,.ref 1)],[cQ code p.2.1 p.2.2,fQ rQf p.1],false,33,0⟩) (fun p=>(p.1.length≤12∧∀t∈p.1,t.2.2.2.2.2.2.length≤4)∧a≤p.2.1∧p.2.1≤a+7000)
    ·intro _ n16 _ _;apply b1l [3,26];intro _ k17;apply (zU);apply zxl (b7p code a2 s2 (2) hcode hcl (by omega));rintro _ _ ⟨v22,a22,s22,h22,k22,rfl,rfl⟩;apply (zEl);apply (zq4);apply (b5q);apply (c74);apply k17 _;apply (zk);apply b0c _ rfl
     ·intro hc2;apply (yV);apply n16 (acc++[(0,5,0,3,0,23,[1,0,0,0])],a22,s22) _
      ·exact ⟨⟨by show (acc++_).length≤12;simp;omega,d9j hac (by simp)⟩,by show a≤a22∧a22≤a+7000;omega⟩
      ·apply b0d [3] [0,4];simp only [aQ,fQ,List.map_append,List.map_cons,List.map_nil,List.length_append,List.length_cons,List.length_nil];all_goals rfl
     ·intro hc2;apply b6m;apply n16 (acc,a22,s22) _
      ·exact ⟨⟨by show acc.length≤12;omega,hac⟩,by show a≤a22∧a22≤a+7000;omega⟩
      ·exact b0t [3] [0,1]
    ·rintro ⟨l,a3,s3⟩ hok16;obtain ⟨hq,ha3⟩:=hok16;simp only [] at hq ha3⊢;apply b0e;intro _ n20 _ _;have F:=Fc.mk True.intro;apply (yV);apply n20
     ·apply b0m (b0a [2] _);simp only [b0r,b0k,b0i,b0f,b0n,Nat.reduceEqDiff,reduceIte];exact c8r 2 1 (l.map rQf) _ rfl rfl (by unfold b1w;split<;>simp)
     try simp only [b04,b09,Nat.reduceEqDiff,reduceIte,Ze,Zf]
     apply (zr);refine b1g ?_;exact ⟨l,_,_,hq,by omega,rfl,rfl⟩
set_option maxRecDepth 8000 in
section
variable (code:List Int) (hcode:∀x∈code,0≤x∧x≤255) (hcl:code.length≤9223372036854775807)
include code hcode hcl
theorem c3h:b76 prog 24 [.sl (code.map (Zd .u8))] [] (fun r O'=>∃(n:Int) (l:List TS) (fl:List TA) (ins:List TI) (ws:List TW) (v:Int),(l.length≤302∧CtQ fl ins ws)∧r=.tup [tQ n l,kQ fl ins ws,.int .i64 v]∧O'=[]):=by
 apply zcx [.cell 2 26,.cell 3 32,.tmp 4] [(27,[0]),(63,[0])] func24 ntmps24;intro _ _ _;have T:=tqa (c2r Y3 Y4 Y5 Y9 Y22 Y24 Y26 Y28 Y29 Y30 Y32 Y41) (tq8 Y48 Y60 Y61 Y63 Y81 Y96 Y98 b7w);have F:=Fc.mk True.intro;apply yR [0,2,3];apply yR [2,3,5];apply b4r (A:=Int×List TS×List TA×List TI×List TW×Int×Int) (fun p=>⟨[(2,.ptr 2 0 0),(3,.ptr 6 0 0),(5,.ptr 0 0 0),(6,.pv [tQ p.1 p.2.1] 0 0),(7,.pv [kQ p.2.2.1 p.2.2.2.1 p.2.2.2.2.1] 0 0)],[cQ code p.2.2.2.2.2.1 p.2.2.2.2.2.2,eQ,.box (.agg [.int .i64 0,.ref 1]) .mix,eQ,eQ,eQ,bQ 3 4 5],false,22,0⟩) (fun p=>(p.2.1.length≤302∧CtQ p.2.2.1 p.2.2.2.1 p.2.2.2.2.1)∧0≤p.2.2.2.2.2.1∧p.2.2.2.2.2.1≤100000)
 ·intro _ n3 _ _;apply b2u;intro _ k4;apply (zU);apply zxl (c4c code 0 0 hcode hcl (by omega));rintro _ _ ⟨n13,l13,fl13,ins13,ws13,a13,s13,h13,k13,rfl,rfl⟩;apply (zEl);apply (zq8);apply (g0j);apply (b55);apply k4 _;apply n3 (n13,l13,fl13,ins13,ws13,a13,s13) _
  ·exact ⟨h13,by show 0≤a13∧a13≤100000;omega⟩
  ·refine b0m (b0m (b58 6 8 _ rfl rfl) (b58 7 12 _ rfl rfl)) ?_;simp only [Zf,Ze]
   ·exact b0t [2,3,5,6,7] [6,0,1,2,3,4,5]
 ·rintro ⟨n,l,fl,ins,ws,a1,s1⟩ hok3;obtain ⟨hQ0,ha1⟩:=hok3;simp only [] at hQ0 ha1⊢;obtain ⟨⟨q1,q2⟩,⟨q3,q4,q5⟩,q6,q7⟩:=hQ0.2;apply b4r (A:=Int) (fun p=>⟨[(2,.ptr 0 0 0),(3,.ptr 1 0 0),(4,.int .i64 p)],[.box (tQ n l) .shal,.box (kQ fl ins ws) .shal],false,22,0⟩) (fun p=>True∧True)
  ·intro _ n5 _ _;apply b1b (by kernel_rfl);intro _ q6 k6;show b13 _ _ _ _ 9 (Zc 9 false) _;have F:=Fc.mk True.intro;refine b00 q6 false 0 16 ?_;refine b00 q6 false 1 17 ?_;refine zdU q6 true 2 18 ?_;refine zdU q6 true 3 19 ?_;refine b00 q6 true 4 20 ?_;apply g0d 5 (d37 code a1 s1 ins (by omega) hcode hcl (by omega));rintro _ _ ⟨v21,a21,s21,h21,k21,rfl,rfl⟩;apply (zEl);apply b06 6;apply b06 7;apply b0q 8;apply b0b (by kernel_rfl);apply k6 _;apply n5 v21 _
   ·exact ⟨trivial,trivial⟩
   ·exact b0t [2,3,4] [2,6]
  ·rintro k9 hok5;obtain ⟨_,_⟩:=hok5;apply (zq3);try apply (zCl)
   refine b1g ?_;exact ⟨n,l,fl,ins,ws,k9,hQ0,rfl,rfl⟩
theorem d0s:b76 prog 26 [.sl (code.map (Zd .u8))] [] (fun r O'=>∃(n:Int) (l:List TS) (fl:List TA) (ins:List TI) (ws:List TW) (v:Int),(l.length≤302∧CtQ fl ins ws)∧r=.tup [tQ n l,kQ fl ins ws,.int .i64 v]∧O'=[]):=by
 apply zcx [.cell 2 26,.cell 3 32,.tmp 4] [] func26 ntmps26;intro _ _ _;have T:=tqa (c2r Y3 Y4 Y5 Y9 Y22 Y24 Y26 Y28 Y29 Y30 Y32 Y41) (tq5 Y48 Y81 Y96 Y98 b7w);have F:=Fc.mk True.intro;apply yR [0,2,3];apply b1l [2,3,4];intro _ k2;apply (zU);apply zxn (c3h code hcode hcl);rintro _ _ ⟨n,l,fl,ins,ws,v,hq,rfl,rfl⟩;apply (zEn);apply (zq8);apply (b55);apply (b55);apply (b2h);apply k2 _;apply (zq9);try apply (zCl)
 refine b1g ?_;exact ⟨n,l,fl,ins,ws,v,hq,rfl,rfl⟩
end
set_option maxRecDepth 8000 in
theorem c76 (code:List Int) (hcode:∀x∈code,0≤x∧x≤255) (hcl:code.length≤9223372036854775807):b76 prog 5 [.sl (code.map (Zd .u8))] [] (fun r O'=>∃(n:Int) (l:List TS) (fl:List TA) (ins:List TI) (ws:List TW) (tb:List (Int×Int×Int×Int×Int×Int×List Int)) (nd c1 c2 c3:Int),((l.length≤302∧CtQ fl ins ws)∧tb.length≤12∧∀t∈tb,t.2.2.2.2.2.2.length≤4)∧r=.tup [tQ n l,sQ rQf tb,kQ fl ins ws,.int .i64 nd,.agg [.int .i64 c1,.int .i64 c2,.int .i64 c3]]∧O'=[]):=by
 apply zcx [.cell 2 26,.tmp 3,.cell 4 32,.tmp 5,.cell 6 34] [(27,[0]),(28,[0]),(29,[0]),(30,[0])] func5 ntmps5;intro _ _ _;have T:=tqa (c2r Y3 Y4 Y5 Y9 Y22 Y24 Y26 Y27 Y28 Y29 Y30 Y32) (g5u Y34 Y41 Y48 Y60 Y61 Y63 Y81 Y93 Y96 Y98 b7w);have F:=Fc.mk True.intro;apply yR [0,2,4,6];apply yR [2,4,6,7];apply b4r (A:=Int×List TS×List TA×List TI×List TW×Int×Int) (fun p=>⟨[(2,.ptr 2 0 0),(4,.ptr 6 0 0),(6,.ptr 7 0 0),(7,.ptr 0 0 0),(8,.pv [tQ p.1 p.2.1] 0 0),(9,.pv [kQ p.2.2.1 p.2.2.2.1 p.2.2.2.2.1] 0 0)],[cQ code p.2.2.2.2.2.1 p.2.2.2.2.2.2,eQ,.box (.agg [.int .i64 0,.ref 1]) .mix,eQ,eQ,eQ,bQ 3 4 5,.box (.agg [.int .i64 0,.int .i64 0,.int .i64 0]) .flat],false,27,0⟩) (fun p=>(p.2.1.length≤302∧CtQ p.2.2.1 p.2.2.2.1 p.2.2.2.2.1)∧0≤p.2.2.2.2.2.1∧p.2.2.2.2.2.1≤100000)
 ·intro _ n3 _ _;apply b2u;intro _ k4;apply (zU);apply zxl (c4c code 0 0 hcode hcl (by omega));rintro _ _ ⟨n15,l15,fl15,ins15,ws15,a15,s15,h15,k15,rfl,rfl⟩;apply (zEl);apply (zq8);apply (g0j);apply (b55);apply k4 _;apply n3 (n15,l15,fl15,ins15,ws15,a15,s15) _
  ·exact ⟨h15,by show 0≤a15∧a15≤100000;omega⟩
  ·refine b0m (b0m (b58 8 10 _ rfl rfl) (b58 9 14 _ rfl rfl)) ?_;simp only [Zf,Ze]
   ·exact b0t [2,4,6,7,8,9] [8,0,1,3,4,5,6,7]
 ·rintro ⟨n,l,fl,ins,ws,a1,s1⟩ hok3;obtain ⟨hQ0,ha1⟩:=hok3;simp only [] at hQ0 ha1⊢;obtain ⟨⟨q1,q2⟩,⟨q3,q4,q5⟩,q6,q7⟩:=hQ0.2;apply b4r (A:=List (Int×Int×Int×Int×Int×Int×List Int)×Int×TS) (fun p=>⟨[(2,.ptr 0 0 0),(3,sQ rQf p.1),(4,.ptr 1 0 0),(5,.int .i64 p.2.1),(6,.ptr 2 0 0)],[.box (tQ n l) .shal,.box (kQ fl ins ws) .shal,.box (.agg [.int .i64 p.2.2.1,.int .i64 p.2.2.2.1,.int .i64 p.2.2.2.2]) .flat],false,27,0⟩) (fun p=>p.1.length≤12∧∀t∈p.1,t.2.2.2.2.2.2.length≤4)
  ·intro _ n5 _ _;apply b1b (by kernel_rfl);intro _ q6 k6;show b13 _ _ _ _ 14 (Zc 14 false) _;have F:=Fc.mk True.intro;refine b00 q6 false 0 18 ?_;refine zdU q6 true 1 19 ?_;refine b00 q6 false 3 21 ?_;refine zdU q6 false 4 22 ?_;refine b00 q6 false 5 23 ?_;refine zdU q6 false 7 25 ?_;apply g0d 2 (d38 code a1 s1 hcode hcl (by omega));rintro _ _ ⟨l20,a20,s20,h20,k20,rfl,rfl⟩;apply (zEl);apply g0d 6 (d9r code a20 s20 n l hcode hcl (by omega));rintro _ _ ⟨v24,a24,s24,h24,k24,rfl,rfl⟩;apply (zEl);apply g0d 8 (f1r code a24 s24 hcode hcl (by omega));rintro _ _ ⟨g1,g2,g3,a26,s26,h26,k26,rfl,rfl⟩;apply (zEl);apply b06 9;apply b0q 10;apply b06 11;apply b0q 12;apply b06 13;apply b0b (by kernel_rfl);apply k6 _;apply n5 (l20,v24,g1,g2,g3) _
   ·exact h20
   ·exact b0t [2,3,4,5,6] [2,6,7]
  ·rintro ⟨tb,nd,c1,c2,c3⟩ hok5;obtain ⟨hq1,hq2⟩:=hok5;try simp only [] at hq1 hq2⊢
   apply (zq3);try apply (zCl)
   try apply (zCl)
   refine b1g ?_;exact ⟨n,l,fl,ins,ws,tb,nd,c1,c2,c3,⟨hQ0,hq1,hq2⟩,rfl,rfl⟩
end Go.Proofs.YtmbbjhopngejaaaGreat
