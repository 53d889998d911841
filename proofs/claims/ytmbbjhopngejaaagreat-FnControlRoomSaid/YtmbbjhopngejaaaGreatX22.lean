/- What functions compute. No condition. -/
import Derived.Test.YtmbbjhopngejaaaGreatX21
set_option linter.all false
open List renaming not_mem_nil → Za, mem_cons → Zb, getElem?_set → Ze, getD_cons_zero → Zh, getD_cons_succ → Zi, map_cons → Zn, map_nil → Zp
open Go.Vm.V renaming int → Zc, onlyL → Zf, str → Zg, renL → Zl, only → Zm, ren → Zs
open Go.Vm.Blk renaming arr → Zd, box → Zt, onlyM → Zu, renM → Zv
open Nat renaming beq_eq_true_eq → Zj
open ByteArray renaming extract → Zk, size_extract → Zq
open Option renaming getD_some → Zo, map_some → Zr
namespace Go.Proofs.YtmbbjhopngejaaaGreat
open Go Go.Vm Tryz
set_option maxHeartbeats 8000000
set_option maxRecDepth 8000 in
theorem d8w (code:List Int) (a s:Int) (hcode:∀x∈code,0≤x∧x≤255) (hcl:code.length≤9223372036854775807) (ha:0≤a∧a < 15000000000):b76 prog 67 [.ptr 0 0 0] [cQ code a s] (fun r O'=>∃(n:Int) (l:List TS) (a' s':Int),((1≤n∧n≤14)∧l.length≤300)∧(a≤a'∧a'≤a+30000)∧r=.agg [.int .i64 n,.ref 1]∧O'=[cQ code a' s',aQ rQd l]):=by
 apply zcx [.cell 2 26] [(75,[0,1]),(70,[0]),(73,[0])] func67 ntmps67;intro _ _ _;have T:=g5u Y3 Y4 Y5 Y22 Y24 Y26 Y41 Y60 Y61 Y63 b7w;have F:=Fc.mk True.intro;apply yR [0,2];apply b1l [0,2,3];intro _ k2;apply (zU);apply zxl (b1t code a s (8) hcode hcl (by omega));rintro _ _ ⟨v11,a11,s11,h11,k11,rfl,rfl⟩;apply (zEl);apply (b46);apply (c7k);apply (g5x);apply k2 _;apply (zk);apply b4r (A:=TS) (fun p=>⟨[(0,.ptr 0 0 0),(2,.ptr 2 0 0),(3,.ptr 3 0 0)],[cQ code p.2.1 p.2.2,eQ,.box (.agg [.int .i64 0,.ref 1]) .mix,.box (.agg [.int .i64 p.1,.ref 4]) .mix,eQ],false,74,0⟩) (fun p=>(1≤p.1∧p.1≤14)∧a≤p.2.1∧p.2.1≤a+4)
 ·intro _ n3 _ _;apply b1l [0,2,3,15];intro _ k4;apply (zU);apply zxl (b7p code a11 s11 (12) hcode hcl (by omega));rintro _ _ ⟨v15,a15,s15,h15,k15,rfl,rfl⟩;apply (zEl);apply k4 _;apply (zk);apply b0c _ rfl
  ·intro hc0;apply (yV);apply n3 (14,a15,s15) _
   ·exact ⟨by simp,by show a≤a15∧a15≤a+4;omega⟩
   ·exact b0t [0,2,3] [0,1,2,4,5]
  ·intro hc0;apply b6m;apply n3 (1+v11,a15,s15) _
   ·exact ⟨by show 1≤1+v11∧1+v11≤14;omega,by show a≤a15∧a15≤a+4;omega⟩
   ·exact b0t [0,2,3] [0,1,2,4,5]
 ·rintro ⟨n,a1,s1⟩ hok3;obtain ⟨hn,ha1⟩:=hok3;simp only [] at hn ha1⊢;apply b0e;intros;have F:=Fc.mk True.intro;apply yR [0,2,3,4];apply b0g;intros;apply b05 (fun p=>⟨[(0,.ptr 0 0 0),(2,.ptr 2 0 0),(3,.ptr 3 0 0),(4,.int .i64 p.2.1)],[cQ code p.2.2.1 p.2.2.2,eQ,.box (.agg [.int .i64 0,.ref 1]) .mix,.box (.agg [.int .i64 n,.ref 4]) .mix,aQ rQd p.1],false,74,0⟩) (fun p=>(p.1.length:Int)≤p.2.1∧(1≤p.2.1∧p.2.1≤n+1)∧a1≤p.2.2.1∧p.2.2.1≤a1+80 * p.2.1) (fun p=>(n - p.2.1).toNat) ([],1,a1,s1)
  ·exact b0t [0,2,3,4] [0,1,2,3,4]
  ·exact ⟨by simp,by simp;omega,by simp;omega⟩
  ·rintro ⟨l,m,a2,s2⟩ hok10 Q10 n10 e10 r10;obtain ⟨hll,hm,ha2⟩:=hok10;simp only [] at hll hm ha2⊢;apply b0e;intros;apply yR [0,2,3,4,20];apply b0c _ rfl
   ·intro hc1;apply zn [0,2,3,4];apply b0e;intros;apply b0g;intros;apply b0e;intros;apply b1l [0,2,3,4,24];intro _ k17;apply (zU);apply zxl (b7p code a2 s2 (20) hcode hcl (by omega));rintro _ _ ⟨v24,a24,s24,h24,k24,rfl,rfl⟩;apply (zEl);apply k17 _;apply (zk);apply b0c _ rfl
    ·intro hc2;apply zn [0,2,3,4];apply (yV);apply n10 _ (l,m+1,a24,s24)
     ·exact b0t [0,2,3,4] [0,1,2,3,4]
     ·exact ⟨by show (l.length:Int)≤m+1;omega,by show 1≤m+1∧m+1≤n+1;omega,by show a1≤a24∧a24≤a1+80 * (m+1);omega⟩
     ·show _ < _;simp only [];omega
    ·intro hc2;apply zn [0,2,3,4];apply b4r (A:=List TS×Bool×Int×Int) (fun p=>⟨[(0,.ptr 0 0 0),(2,.ptr 2 0 0),(3,.ptr 3 0 0),(4,.int .i64 m),(5,.ptr 5 0 0),(6,.bool p.2.1)],[cQ code p.2.2.1 p.2.2.2,eQ,.box (.agg [.int .i64 0,.ref 1]) .mix,.box (.agg [.int .i64 n,.ref 4]) .mix,aQ rQd l,.box (.agg [.int .i64 (bif p.2.1 then n else 0),.ref 6]) .mix,aQ rQd p.1],false,74,0⟩) (fun p=>(p.1.length≤l.length+1)∧a24≤p.2.2.1∧p.2.2.1≤a24+76)
     ·intro _ n20 _ _;apply d3e 19 (fun a s:Int=>cQ code a s) 4 15 [0,1,2,3,4,5,6,7,8,9,10,11,12,13,14,16] [0,2,3,4] [[26],[27],[28],[29],[30],[31],[32],[33],[34],[35],[36],[37],[38],[25],[25,39],[25,40],[5],[],[]] (fun O g=>g 0=.ptr 0 0 0∧g 2=.ptr 2 0 0∧g 3=.ptr 3 0 0∧g 4=.int .i64 m∧(1≠0∧O[1]? =some (eQ))∧(2≠0∧O[2]? =some (Zt (.agg [.int .i64 0,.ref 1]) .mix))∧(3≠0∧O[3]? =some (Zt (.agg [.int .i64 n,.ref 4]) .mix))∧(4≠0∧O[4]? =some (Zd (l.map rQd) .flat))) [fun O g=>g 26=.agg [.int .i64 n,.ref 4],fun O g=>g 27=.ptr 0 0 0,fun O g=>g 28=.int .i64 m,fun O g=>∃x:Int,g 29=Zc .i64 x,fun O g=>g 30=.int .i64 m,fun O g=>g 31=.ptr 0 0 0,fun O g=>g 32=.ptr 0 0 0,fun O g=>∃x:Int,g 33=Zc .i64 x,fun O g=>∃x:Int,g 34=Zc .i64 x,fun O g=>∃x:Nat×List Int,g 35=.ref x.1∧(x.1≠0∧O[x.1]? =some (Zd (x.2.map (Zc .i64)) .flat))∧(5≤x.1∧0 < x.2.length∧x.2.length≤1048576),fun O g=>∃x:Int,g 36=Zc .i64 x,fun O g=>∃x:TS,g 37=.agg [Zc .i64 x.1,Zc .i64 x.2.1,Zc .i64 x.2.2],fun O g=>∃x:Nat×List TS×Bool,g 38=.tup [.agg [.int .i64 (bif x.2.2 then n else 0),.ref x.1],.bool x.2.2]∧(x.1≠0∧O[x.1]? =some (Zd (x.2.1.map rQd) .flat))∧(5≤x.1∧x.2.1.length≤l.length+1),fun O g=>∃x:Nat×List TS×Bool,g 25=.tup [.agg [.int .i64 (bif x.2.2 then n else 0),.ref x.1],.bool x.2.2]∧(x.1≠0∧O[x.1]? =some (Zd (x.2.1.map rQd) .flat))∧(5≤x.1∧x.2.1.length≤l.length+1),fun O g=>∃x:Nat×List TS×Bool,g 25=.tup [.agg [.int .i64 (bif x.2.2 then n else 0),.ref x.1],.bool x.2.2]∧g 39=.agg [.int .i64 (bif x.2.2 then n else 0),.ref x.1]∧(x.1≠0∧O[x.1]? =some (Zd (x.2.1.map rQd) .flat))∧(5≤x.1∧x.2.1.length≤l.length+1),fun O g=>∃x:Nat×List TS×Bool,g 25=.tup [.agg [.int .i64 (bif x.2.2 then n else 0),.ref x.1],.bool x.2.2]∧g 40=.bool x.2.2∧(x.1≠0∧O[x.1]? =some (Zd (x.2.1.map rQd) .flat))∧(5≤x.1∧x.2.1.length≤l.length+1),fun O g=>∃x:Nat,g 5=.ptr (x+1) 0 0∧(x≠0∧O[x]? =some (eQ))∧(x+1≠0∧O[x+1]? =some (Zt (.agg [.int .i64 0,.ref x]) .mix))∧(5≤x),b9r,b9r] rfl tyk g4k
      ·exact ⟨rfl,rfl,rfl,rfl,⟨by decide,rfl⟩,⟨by decide,rfl⟩,⟨by decide,rfl⟩,⟨by decide,rfl⟩⟩
      ·refine b0o 19 ?_ (b0o 19 ?_ (b0o 19 ?_ (b0o 19 ?_ (b0o 19 ?_ (b0o 19 ?_ (b0o 19 ?_ (b0o 19 ?_ (b0o 19 ?_ (b0o 19 ?_ (b0o 19 ?_ (b0o 19 ?_ (b0o 19 ?_ (b0o 19 ?_ (b0o 19 ?_ (b0o 19 ?_ (b0o 19 ?_ b9l))))))))))))))))
       ·intro ee OO mm aa ss hc ha h0 hd;obtain ⟨⟨k25,l25,b25⟩,e25_0,⟨n25_0,b25_0⟩,q25⟩:=hd 13 rfl;have F:=fq2 e25_0 b25_0;apply (zsU);exact b17 hc (by decide) ⟨⟨k25,l25,b25⟩,e25_0,rfl,⟨n25_0,b25_0⟩,q25⟩
       ·intro ee OO mm aa ss hc ha h0 hd;have F:=fq2 h0.1 h0.2;apply (b3y);exact b17 hc (by decide) rfl
       ·intro ee OO mm aa ss hc ha h0 hd;have F:=fq2 h0.1 h0.2;apply (zsU);exact b17 hc (by decide) rfl
       ·intro ee OO mm aa ss hc ha h0 hd;have F:=fq2 h0.1 h0.2;apply (zsU);exact b17 hc (by decide) rfl
       ·intro ee OO mm aa ss hc ha h0 hd;have e27_0:Vm.look 27 ee=.ptr 0 0 0:=hd 1 rfl;have e28_0:Vm.look 28 ee=.int .i64 m:=hd 2 rfl;have F:=fq2 e27_0 e28_0;apply d6g (b1t code aa ss (m) hcode hcl (by omega));rintro _ _ ⟨v,a2,s2,hq,hk,rfl,rfl⟩;apply (zEl);exact c6k hc (by omega) ⟨v,rfl⟩
       ·intro ee OO mm aa ss hc ha h0 hd;have F:=fq2 h0.1 h0.2;apply (zsU);exact b17 hc (by decide) rfl
       ·intro ee OO mm aa ss hc ha h0 hd;have F:=fq2 h0.1 h0.2;apply (zsU);exact b17 hc (by decide) rfl
       ·intro ee OO mm aa ss hc ha h0 hd;have F:=fq2 h0.1 h0.2;apply (zsU);exact b17 hc (by decide) rfl
       ·intro ee OO mm aa ss hc ha h0 hd;have e32_0:Vm.look 32 ee=.ptr 0 0 0:=hd 6 rfl;have F:=Fc.mk e32_0;apply d6g (b1t code aa ss (200) hcode hcl (by omega));rintro _ _ ⟨v,a2,s2,hq,hk,rfl,rfl⟩;apply (zEl);exact c6k hc (by omega) ⟨v,rfl⟩
       ·intro ee OO mm aa ss hc ha h0 hd;obtain ⟨x33,e33_0⟩:=hd 7 rfl;have F:=Fc.mk e33_0;apply (c3u);exact b17 hc (by decide) ⟨_,rfl⟩
       ·intro ee OO mm aa ss hc ha h0 hd;obtain ⟨x34,e34_0⟩:=hd 8 rfl;have hlen:=b4x h0.2.2.2.2.2.2.2.2;have F:=Fc.mk e34_0;apply (b03);exact c1b hc (by decide) ⟨⟨_,[30,60,90,120,x34]⟩,rfl,⟨by omega,by simp⟩,by simp;omega⟩
       ·intro ee OO mm aa ss hc ha h0 hd;have e31_0:Vm.look 31 ee=.ptr 0 0 0:=hd 5 rfl;obtain ⟨⟨k35,l35⟩,e35_0,⟨n35_0,b35_0⟩,q35⟩:=hd 9 rfl;have F:=fq4 e31_0 e35_0 b35_0 (d9m (Ne.symm n35_0));apply g1n (b16 code aa ss l35 q35.2 hcode hcl (by omega));rintro _ _ ⟨v,a2,s2,hq,hk,rfl,rfl⟩;apply (zEt);exact f6f hc b35_0 n35_0 (by omega) ⟨v,rfl⟩
       ·intro ee OO mm aa ss hc ha h0 hd;obtain ⟨x29,e29_0⟩:=hd 3 rfl;have e30_0:Vm.look 30 ee=.int .i64 m:=hd 4 rfl;obtain ⟨x36,e36_0⟩:=hd 10 rfl;have F:=fq3 e29_0 e30_0 e36_0;apply (c6u);exact b17 hc (by decide) ⟨⟨_,_,_⟩,rfl⟩
       ·intro ee OO mm aa ss hc ha h0 hd;have e26_0:Vm.look 26 ee=.agg [.int .i64 n,.ref 4]:=hd 0 rfl;obtain ⟨x37,e37_0⟩:=hd 11 rfl;have hlen:=b4x h0.2.2.2.2.2.2.2.2;have F:=fq4 h0.1 h0.2 e26_0 e37_0;apply g0c (c5k n l x37.1 x37.2.1 x37.2.2 (by omega));rintro _ _ ⟨l38,b38,hl38,rfl,rfl⟩;apply (zEn);exact c1b hc (by decide) ⟨⟨_,l38,b38⟩,rfl,⟨by omega,by simp⟩,by omega,hl38⟩
       ·intro ee OO mm aa ss hc ha h0 hd;obtain ⟨⟨k38,l38,b38⟩,e38_0,⟨n38_0,b38_0⟩,q38⟩:=hd 12 rfl;have F:=fq2 e38_0 b38_0;apply (zsU);exact b17 hc (by decide) ⟨_,rfl,⟨n38_0,b38_0⟩,q38⟩
       ·intro ee OO mm aa ss hc ha h0 hd;obtain ⟨⟨k25,l25,b25⟩,e25_0,⟨n25_0,b25_0⟩,q25⟩:=hd 13 rfl;have F:=fq2 e25_0 b25_0;apply (zsU);exact b17 hc (by decide) ⟨⟨k25,l25,b25⟩,e25_0,rfl,⟨n25_0,b25_0⟩,q25⟩
       ·intro ee OO mm aa ss hc ha h0 hd;have hlen:=b4x h0.2.2.2.2.2.2.2.2;have F:=Fc.mk True.intro;apply (b35);exact c1b hc (by decide) ⟨_,rfl,⟨by omega,by simp⟩,⟨by omega,by simp⟩,by omega⟩
      ·intro _ q21 k21 ee OO mm a21 s21 hc _ h0 hd;obtain ⟨e0_0,e0_1,e0_2,e0_3,⟨n0_0,b0_0⟩,⟨n0_1,b0_1⟩,⟨n0_2,b0_2⟩,⟨n0_3,b0_3⟩⟩:=h0;obtain ⟨⟨k39,l39,b39⟩,e39_0,e39_1,⟨n39_0,b39_0⟩,q39⟩:=hd 14 rfl;obtain ⟨x5,e5_0,⟨n5_0,b5_0⟩,⟨n5_1,b5_1⟩,q5⟩:=hd 16 rfl;refine ⟨fun hfl=> ?_,?_⟩
       ·obtain ⟨⟨k40,l40,b40⟩,e40_0,e40_1,⟨n40_0,b40_0⟩,q40⟩:=hfl;have hbb:b39=b40:=by have:=e39_0.symm.trans e40_0;simp at this;exact this.2
        have hkb:x5+1≠k39:=b31 b5_1 b39_0 (by simp);have hlt:x5+1 < OO.length:=b4x b5_1;have hz:x5≠0∧x5≠1∧x5≠2∧x5≠3:=by omega
        have F:=fqa (b9p e0_0 e0_1 e0_2 e0_3 b0_0 b0_1 b0_2 b0_3 e39_0 e39_1 b39_0 e5_0) (fq6 b5_0 b5_1 hc e40_0 e40_1 b40_0);show b13 _ _ _ _ 2 #[true,true,true,true,true,true,true,true,true,true,true,true,true,true,true,true,true,false,false] _;apply b06 17;apply b0q 18;apply b0b (by kernel_rfl);apply k21 _;apply n20 (l39,b40,a21,s21) _
        ·exact ⟨q39.2,by show a24≤a21∧a21≤a24+76;omega⟩
        ·subst hbb;exact b5r _ _ [0,1,2,3,4,x5+1,k39] (by simp;omega) (by simp) rfl (by simp [b0f,Zs,Zl,‹Fc _›.h]) (by simp) (by simp [Zm,Zf]) (by simp [b9m,Zv,b1h,b1i,b1r,Zs,Zl,‹Fc _›.h,Ze,hz,hkb,hlt]) (by simp [Zu,b1h,b1i,b1r,Zm,Zf])
       ·obtain ⟨⟨k40,l40,b40⟩,e40_0,⟨n40_0,b40_0⟩,q40⟩:=hd 13 rfl;have F:=fqa (b9p e0_0 e0_1 e0_2 e0_3 b0_0 b0_1 b0_2 b0_3 e39_0 e39_1 b39_0 e5_0) (fq5 b5_0 b5_1 hc e40_0 b40_0);show b13 _ _ _ _ 3 #[true,true,true,true,true,true,true,true,true,true,true,true,true,true,true,false,true,false,false] _;refine zdU q21 false 15 40 ?_;have hbb:b39=b40:=by have:=e39_0.symm.trans e40_0;simp at this;exact this.2
        have hkb:x5+1≠k39:=b31 b5_1 b39_0 (by simp);have hlt:x5+1 < OO.length:=b4x b5_1;have hz:x5≠0∧x5≠1∧x5≠2∧x5≠3:=by omega
        have F:=fqa (b9p e0_0 e0_1 e0_2 e0_3 b0_0 b0_1 b0_2 b0_3 e39_0 e39_1 b39_0 e5_0) (fq5 b5_0 b5_1 hc e40_0 b40_0);show b13 _ _ _ _ 2 #[true,true,true,true,true,true,true,true,true,true,true,true,true,true,true,true,true,false,false] _;apply b06 17;apply b0q 18;apply b0b (by kernel_rfl);apply k21 _;apply n20 (l39,b40,a21,s21) _
        ·exact ⟨q39.2,by show a24≤a21∧a21≤a24+76;omega⟩
        ·subst hbb;exact b5r _ _ [0,1,2,3,4,x5+1,k39] (by simp;omega) (by simp) rfl (by simp [b0f,Zs,Zl,‹Fc _›.h]) (by simp) (by simp [Zm,Zf]) (by simp [b9m,Zv,b1h,b1i,b1r,Zs,Zl,‹Fc _›.h,Ze,hz,hkb,hlt]) (by simp [Zu,b1h,b1i,b1r,Zm,Zf])
      all_goals first | exact (0:Int) | exact fun _ _=>.dead
     ·rintro ⟨l4,b4,a4,s4⟩ hok20;obtain ⟨hl4,ha4⟩:=hok20;simp only [] at hl4 ha4⊢;have F:=Fc.mk True.intro;apply yR [0,2,3,4,5,41];apply b0c _ rfl
      ·intro hc3;have hb4:b4=true:=hc3;subst hb4;simp only [cond_true];apply yQ [0,2,3,4];apply (yV);apply n10 _ (l4,m+1,a4,s4)
       ·exact b0t [0,2,3,4] [0,1,2,3,6]
       ·exact ⟨by show (l4.length:Int)≤m+1;omega,by show 1≤m+1∧m+1≤n+1;omega,by show a1≤a4∧a4≤a1+80 * (m+1);omega⟩
       ·show _ < _;simp only [];omega
      ·intro hc3;apply zn [0,2,3,4];apply (yV);apply n10 _ (l,m+1,a4,s4)
       ·exact b0t [0,2,3,4] [0,1,2,3,4]
       ·exact ⟨by show (l.length:Int)≤m+1;omega,by show 1≤m+1∧m+1≤n+1;omega,by show a1≤a4∧a4≤a1+80 * (m+1);omega⟩
       ·show _ < _;simp only [];omega
   ·intro hc1;apply zn [0,2,3];apply b1l [0,2,3,7];intro _ k27;apply (zU);apply zxl (b1t code a2 s2 (6) hcode hcl (by omega));rintro _ _ ⟨v44,a44,s44,h44,k44,rfl,rfl⟩;apply (g0g);apply k27 _;apply (zk);apply b4r (A:=TS) (fun p=>⟨[(0,.ptr 0 0 0),(2,.ptr 2 0 0),(3,.ptr 3 0 0),(7,.int .i64 p.1)],[cQ code p.2.1 p.2.2,eQ,.box (.agg [.int .i64 0,.ref 1]) .mix,.box (.agg [.int .i64 n,.ref 4]) .mix,aQ rQd l],false,74,0⟩) (fun p=>(0≤p.1∧p.1≤200)∧a2≤p.2.1∧p.2.1≤a2+4)
    ·intro _ n28 _ _;apply b1l [0,2,3,7,46];intro _ k29;apply (zU);apply zxl (b7p code a44 s44 (16) hcode hcl (by omega));rintro _ _ ⟨v46,a46,s46,h46,k46,rfl,rfl⟩;apply (zEl);apply k29 _;apply (zk);apply b0c _ rfl
     ·intro hc4;apply (yV);apply n28 (200,a46,s46) _
      ·exact ⟨by simp,by show a2≤a46∧a46≤a2+4;omega⟩
      ·exact b0t [0,2,3,7] [0,1,2,3,4]
     ·intro hc4;apply b6m;apply n28 (v44,a46,s46) _
      ·exact ⟨by show 0≤v44∧v44≤200;omega,by show a2≤a46∧a46≤a2+4;omega⟩
      ·exact b0t [0,2,3,7] [0,1,2,3,4]
    ·rintro ⟨more,a5,s5⟩ hok28;obtain ⟨hmo,ha5⟩:=hok28;simp only [] at hmo ha5⊢;apply b0e;intros;apply b0g;intros;apply b05 (fun p=>⟨[(0,.ptr 0 0 0),(2,.ptr 2 0 0),(3,.ptr 3 0 0),(7,.int .i64 p.2.1)],[cQ code p.2.2.1 p.2.2.2,eQ,.box (.agg [.int .i64 0,.ref 1]) .mix,.box (.agg [.int .i64 n,.ref 4]) .mix,aQ rQd p.1],false,74,0⟩) (fun p=>(p.1.length:Int)≤15+(more - p.2.1)∧(0≤p.2.1∧p.2.1≤more)∧a5≤p.2.2.1∧p.2.2.1≤a5+92 * (more - p.2.1)) (fun p=>p.2.1.toNat) (l,more,a5,s5)
     ·exact b0t [0,2,3,7] [0,1,2,3,4]
     ·exact ⟨by simp;omega,by simp;omega,by simp⟩
     ·rintro ⟨l3,mo,a6,s6⟩ hok34 Q34 n34 e34 r34;obtain ⟨hl3,hmo2,ha6⟩:=hok34;simp only [] at hl3 hmo2 ha6⊢;apply b0e;intros;have F:=Fc.mk True.intro;apply yR [0,2,3,7,48];apply b0c _ rfl
      ·intro hc5;apply zn [0,2,3,7];apply b0e;intros;apply b0g;intros;apply b4r (A:=List TS×Bool×Int×Int) (fun p=>⟨[(0,.ptr 0 0 0),(2,.ptr 2 0 0),(3,.ptr 3 0 0),(7,.int .i64 mo),(8,.ptr 5 0 0),(9,.bool p.2.1)],[cQ code p.2.2.1 p.2.2.2,eQ,.box (.agg [.int .i64 0,.ref 1]) .mix,.box (.agg [.int .i64 n,.ref 4]) .mix,aQ rQd l3,.box (.agg [.int .i64 (bif p.2.1 then n else 0),.ref 6]) .mix,aQ rQd p.1],false,74,0⟩) (fun p=>(p.1.length≤l3.length+1)∧a6≤p.2.2.1∧p.2.2.1≤a6+92)
       ·intro _ n40 _ _;apply d3e 23 (fun a s:Int=>cQ code a s) 4 19 [0,1,2,3,4,5,6,7,8,9,10,11,12,13,14,15,16,17,18,20] [0,2,3,7] [[52],[53],[54],[55],[56],[57],[58],[59],[60],[61],[62],[63],[64],[65],[66],[67],[68],[51],[51,69],[51,70],[8],[],[]] (fun O g=>g 0=.ptr 0 0 0∧g 2=.ptr 2 0 0∧g 3=.ptr 3 0 0∧g 7=.int .i64 mo∧(1≠0∧O[1]? =some (eQ))∧(2≠0∧O[2]? =some (Zt (.agg [.int .i64 0,.ref 1]) .mix))∧(3≠0∧O[3]? =some (Zt (.agg [.int .i64 n,.ref 4]) .mix))∧(4≠0∧O[4]? =some (Zd (l3.map rQd) .flat))) [fun O g=>g 52=.agg [.int .i64 n,.ref 4],fun O g=>g 53=.ptr 0 0 0,fun O g=>g 54=.ptr 3 0 0,fun O g=>g 55=.int .i64 n,fun O g=>∃x:Int,g 56=Zc .i64 x,fun O g=>g 57=.ptr 0 0 0,fun O g=>g 58=.ptr 3 0 0,fun O g=>g 59=.int .i64 n,fun O g=>∃x:Int,g 60=Zc .i64 x,fun O g=>g 61=.ptr 0 0 0,fun O g=>g 62=.ptr 0 0 0,fun O g=>∃x:Int,g 63=Zc .i64 x,fun O g=>∃x:Int,g 64=Zc .i64 x,fun O g=>∃x:Nat×List Int,g 65=.ref x.1∧(x.1≠0∧O[x.1]? =some (Zd (x.2.map (Zc .i64)) .flat))∧(5≤x.1∧0 < x.2.length∧x.2.length≤1048576),fun O g=>∃x:Int,g 66=Zc .i64 x,fun O g=>∃x:TS,g 67=.agg [Zc .i64 x.1,Zc .i64 x.2.1,Zc .i64 x.2.2],fun O g=>∃x:Nat×List TS×Bool,g 68=.tup [.agg [.int .i64 (bif x.2.2 then n else 0),.ref x.1],.bool x.2.2]∧(x.1≠0∧O[x.1]? =some (Zd (x.2.1.map rQd) .flat))∧(5≤x.1∧x.2.1.length≤l3.length+1),fun O g=>∃x:Nat×List TS×Bool,g 51=.tup [.agg [.int .i64 (bif x.2.2 then n else 0),.ref x.1],.bool x.2.2]∧(x.1≠0∧O[x.1]? =some (Zd (x.2.1.map rQd) .flat))∧(5≤x.1∧x.2.1.length≤l3.length+1),fun O g=>∃x:Nat×List TS×Bool,g 51=.tup [.agg [.int .i64 (bif x.2.2 then n else 0),.ref x.1],.bool x.2.2]∧g 69=.agg [.int .i64 (bif x.2.2 then n else 0),.ref x.1]∧(x.1≠0∧O[x.1]? =some (Zd (x.2.1.map rQd) .flat))∧(5≤x.1∧x.2.1.length≤l3.length+1),fun O g=>∃x:Nat×List TS×Bool,g 51=.tup [.agg [.int .i64 (bif x.2.2 then n else 0),.ref x.1],.bool x.2.2]∧g 70=.bool x.2.2∧(x.1≠0∧O[x.1]? =some (Zd (x.2.1.map rQd) .flat))∧(5≤x.1∧x.2.1.length≤l3.length+1),fun O g=>∃x:Nat,g 8=.ptr (x+1) 0 0∧(x≠0∧O[x]? =some (eQ))∧(x+1≠0∧O[x+1]? =some (Zt (.agg [.int .i64 0,.ref x]) .mix))∧(5≤x),b9r,b9r] rfl tyk g4k
        ·exact ⟨rfl,rfl,rfl,rfl,⟨by decide,rfl⟩,⟨by decide,rfl⟩,⟨by decide,rfl⟩,⟨by decide,rfl⟩⟩
        ·refine b0o 23 ?_ (b0o 23 ?_ (b0o 23 ?_ (b0o 23 ?_ (b0o 23 ?_ (b0o 23 ?_ (b0o 23 ?_ (b0o 23 ?_ (b0o 23 ?_ (b0o 23 ?_ (b0o 23 ?_ (b0o 23 ?_ (b0o 23 ?_ (b0o 23 ?_ (b0o 23 ?_ (b0o 23 ?_ (b0o 23 ?_ (b0o 23 ?_ (b0o 23 ?_ (b0o 23 ?_ (b0o 23 ?_ b9l))))))))))))))))))))
         ·intro ee OO mm aa ss hc ha h0 hd;obtain ⟨⟨k51,l51,b51⟩,e51_0,⟨n51_0,b51_0⟩,q51⟩:=hd 17 rfl;have F:=fq2 e51_0 b51_0;apply (zsU);exact b17 hc (by decide) ⟨⟨k51,l51,b51⟩,e51_0,rfl,⟨n51_0,b51_0⟩,q51⟩
         ·intro ee OO mm aa ss hc ha h0 hd;have F:=fq2 h0.1 h0.2;apply (b3y);exact b17 hc (by decide) rfl
         ·intro ee OO mm aa ss hc ha h0 hd;have F:=fq2 h0.1 h0.2;apply (zsU);exact b17 hc (by decide) rfl
         ·intro ee OO mm aa ss hc ha h0 hd;have F:=fq2 h0.1 h0.2;apply (zsU);exact b17 hc (by decide) rfl
         ·intro ee OO mm aa ss hc ha h0 hd;have e54_0:Vm.look 54 ee=.ptr 3 0 0:=hd 2 rfl;have F:=fq3 h0.1 h0.2 e54_0;apply (b3y);exact b17 hc (by decide) rfl
         ·intro ee OO mm aa ss hc ha h0 hd;have e53_0:Vm.look 53 ee=.ptr 0 0 0:=hd 1 rfl;have e55_0:Vm.look 55 ee=.int .i64 n:=hd 3 rfl;have F:=fq2 e53_0 e55_0;apply d6g (b1t code aa ss (n) hcode hcl (by omega));rintro _ _ ⟨v,a2,s2,hq,hk,rfl,rfl⟩;apply (zEl);exact c6k hc (by omega) ⟨v,rfl⟩
         ·intro ee OO mm aa ss hc ha h0 hd;have F:=fq2 h0.1 h0.2;apply (zsU);exact b17 hc (by decide) rfl
         ·intro ee OO mm aa ss hc ha h0 hd;have F:=fq2 h0.1 h0.2;apply (zsU);exact b17 hc (by decide) rfl
         ·intro ee OO mm aa ss hc ha h0 hd;have e58_0:Vm.look 58 ee=.ptr 3 0 0:=hd 6 rfl;have F:=fq3 h0.1 h0.2 e58_0;apply (b3y);exact b17 hc (by decide) rfl
         ·intro ee OO mm aa ss hc ha h0 hd;have e57_0:Vm.look 57 ee=.ptr 0 0 0:=hd 5 rfl;have e59_0:Vm.look 59 ee=.int .i64 n:=hd 7 rfl;have F:=fq2 e57_0 e59_0;apply d6g (b1t code aa ss (n) hcode hcl (by omega));rintro _ _ ⟨v,a2,s2,hq,hk,rfl,rfl⟩;apply (zEl);exact c6k hc (by omega) ⟨v,rfl⟩
         ·intro ee OO mm aa ss hc ha h0 hd;have F:=fq2 h0.1 h0.2;apply (zsU);exact b17 hc (by decide) rfl
         ·intro ee OO mm aa ss hc ha h0 hd;have F:=fq2 h0.1 h0.2;apply (zsU);exact b17 hc (by decide) rfl
         ·intro ee OO mm aa ss hc ha h0 hd;have e62_0:Vm.look 62 ee=.ptr 0 0 0:=hd 10 rfl;have F:=Fc.mk e62_0;apply d6g (b1t code aa ss (400) hcode hcl (by omega));rintro _ _ ⟨v,a2,s2,hq,hk,rfl,rfl⟩;apply (zEl);exact c6k hc (by omega) ⟨v,rfl⟩
         ·intro ee OO mm aa ss hc ha h0 hd;obtain ⟨x63,e63_0⟩:=hd 11 rfl;have F:=Fc.mk e63_0;apply (c3u);exact b17 hc (by decide) ⟨_,rfl⟩
         ·intro ee OO mm aa ss hc ha h0 hd;obtain ⟨x64,e64_0⟩:=hd 12 rfl;have hlen:=b4x h0.2.2.2.2.2.2.2.2;have F:=Fc.mk e64_0;apply (b03);exact c1b hc (by decide) ⟨⟨_,[30,60,90,300,3600,x64]⟩,rfl,⟨by omega,by simp⟩,by simp;omega⟩
         ·intro ee OO mm aa ss hc ha h0 hd;have e61_0:Vm.look 61 ee=.ptr 0 0 0:=hd 9 rfl;obtain ⟨⟨k65,l65⟩,e65_0,⟨n65_0,b65_0⟩,q65⟩:=hd 13 rfl;have F:=fq4 e61_0 e65_0 b65_0 (d9m (Ne.symm n65_0));apply g1n (b16 code aa ss l65 q65.2 hcode hcl (by omega));rintro _ _ ⟨v,a2,s2,hq,hk,rfl,rfl⟩;apply (zEt);exact f6f hc b65_0 n65_0 (by omega) ⟨v,rfl⟩
         ·intro ee OO mm aa ss hc ha h0 hd;obtain ⟨x56,e56_0⟩:=hd 4 rfl;obtain ⟨x60,e60_0⟩:=hd 8 rfl;obtain ⟨x66,e66_0⟩:=hd 14 rfl;have F:=fq3 e56_0 e60_0 e66_0;apply (c6u);exact b17 hc (by decide) ⟨⟨_,_,_⟩,rfl⟩
         ·intro ee OO mm aa ss hc ha h0 hd;have e52_0:Vm.look 52 ee=.agg [.int .i64 n,.ref 4]:=hd 0 rfl;obtain ⟨x67,e67_0⟩:=hd 15 rfl;have hlen:=b4x h0.2.2.2.2.2.2.2.2;have F:=fq4 h0.1 h0.2 e52_0 e67_0;apply g0c (c5k n l3 x67.1 x67.2.1 x67.2.2 (by omega));rintro _ _ ⟨l68,b68,hl68,rfl,rfl⟩;apply (zEn);exact c1b hc (by decide) ⟨⟨_,l68,b68⟩,rfl,⟨by omega,by simp⟩,by omega,hl68⟩
         ·intro ee OO mm aa ss hc ha h0 hd;obtain ⟨⟨k68,l68,b68⟩,e68_0,⟨n68_0,b68_0⟩,q68⟩:=hd 16 rfl;have F:=fq2 e68_0 b68_0;apply (zsU);exact b17 hc (by decide) ⟨_,rfl,⟨n68_0,b68_0⟩,q68⟩
         ·intro ee OO mm aa ss hc ha h0 hd;obtain ⟨⟨k51,l51,b51⟩,e51_0,⟨n51_0,b51_0⟩,q51⟩:=hd 17 rfl;have F:=fq2 e51_0 b51_0;apply (zsU);exact b17 hc (by decide) ⟨⟨k51,l51,b51⟩,e51_0,rfl,⟨n51_0,b51_0⟩,q51⟩
         ·intro ee OO mm aa ss hc ha h0 hd;have hlen:=b4x h0.2.2.2.2.2.2.2.2;have F:=Fc.mk True.intro;apply (b35);exact c1b hc (by decide) ⟨_,rfl,⟨by omega,by simp⟩,⟨by omega,by simp⟩,by omega⟩
        ·intro _ q41 k41 ee OO mm a41 s41 hc _ h0 hd;obtain ⟨e0_0,e0_1,e0_2,e0_3,⟨n0_0,b0_0⟩,⟨n0_1,b0_1⟩,⟨n0_2,b0_2⟩,⟨n0_3,b0_3⟩⟩:=h0;obtain ⟨⟨k69,l69,b69⟩,e69_0,e69_1,⟨n69_0,b69_0⟩,q69⟩:=hd 18 rfl;obtain ⟨x8,e8_0,⟨n8_0,b8_0⟩,⟨n8_1,b8_1⟩,q8⟩:=hd 20 rfl;refine ⟨fun hfl=> ?_,?_⟩
         ·obtain ⟨⟨k70,l70,b70⟩,e70_0,e70_1,⟨n70_0,b70_0⟩,q70⟩:=hfl;have hbb:b69=b70:=by have:=e69_0.symm.trans e70_0;simp at this;exact this.2
          have hkb:x8+1≠k69:=b31 b8_1 b69_0 (by simp);have hlt:x8+1 < OO.length:=b4x b8_1;have hz:x8≠0∧x8≠1∧x8≠2∧x8≠3:=by omega
          have F:=fqa (b9p e0_0 e0_1 e0_2 e0_3 b0_0 b0_1 b0_2 b0_3 e69_0 e69_1 b69_0 e8_0) (fq6 b8_0 b8_1 hc e70_0 e70_1 b70_0);show b13 _ _ _ _ 2 #[true,true,true,true,true,true,true,true,true,true,true,true,true,true,true,true,true,true,true,true,true,false,false] _;apply b06 21;apply b0q 22;apply b0b (by kernel_rfl);apply k41 _;apply n40 (l69,b70,a41,s41) _
          ·exact ⟨q69.2,by show a6≤a41∧a41≤a6+92;omega⟩
          ·subst hbb;exact b5r _ _ [0,1,2,3,4,x8+1,k69] (by simp;omega) (by simp) rfl (by simp [b0f,Zs,Zl,‹Fc _›.h]) (by simp) (by simp [Zm,Zf]) (by simp [b9m,Zv,b1h,b1i,b1r,Zs,Zl,‹Fc _›.h,Ze,hz,hkb,hlt]) (by simp [Zu,b1h,b1i,b1r,Zm,Zf])
         ·obtain ⟨⟨k70,l70,b70⟩,e70_0,⟨n70_0,b70_0⟩,q70⟩:=hd 17 rfl;have F:=fqa (b9p e0_0 e0_1 e0_2 e0_3 b0_0 b0_1 b0_2 b0_3 e69_0 e69_1 b69_0 e8_0) (fq5 b8_0 b8_1 hc e70_0 b70_0);show b13 _ _ _ _ 3 #[true,true,true,true,true,true,true,true,true,true,true,true,true,true,true,true,true,true,true,false,true,false,false] _;refine zdU q41 false 19 70 ?_;have hbb:b69=b70:=by have:=e69_0.symm.trans e70_0;simp at this;exact this.2
          have hkb:x8+1≠k69:=b31 b8_1 b69_0 (by simp);have hlt:x8+1 < OO.length:=b4x b8_1;have hz:x8≠0∧x8≠1∧x8≠2∧x8≠3:=by omega
          have F:=fqa (b9p e0_0 e0_1 e0_2 e0_3 b0_0 b0_1 b0_2 b0_3 e69_0 e69_1 b69_0 e8_0) (fq5 b8_0 b8_1 hc e70_0 b70_0);show b13 _ _ _ _ 2 #[true,true,true,true,true,true,true,true,true,true,true,true,true,true,true,true,true,true,true,true,true,false,false] _;apply b06 21;apply b0q 22;apply b0b (by kernel_rfl);apply k41 _;apply n40 (l69,b70,a41,s41) _
          ·exact ⟨q69.2,by show a6≤a41∧a41≤a6+92;omega⟩
          ·subst hbb;exact b5r _ _ [0,1,2,3,4,x8+1,k69] (by simp;omega) (by simp) rfl (by simp [b0f,Zs,Zl,‹Fc _›.h]) (by simp) (by simp [Zm,Zf]) (by simp [b9m,Zv,b1h,b1i,b1r,Zs,Zl,‹Fc _›.h,Ze,hz,hkb,hlt]) (by simp [Zu,b1h,b1i,b1r,Zm,Zf])
        all_goals first | exact (0:Int) | exact fun _ _=>.dead
       ·rintro ⟨l7,b7,a7,s7⟩ hok40;obtain ⟨hl7,ha7⟩:=hok40;simp only [] at hl7 ha7⊢;have F:=Fc.mk True.intro;apply yR [0,2,3,7,8,71];apply b0c _ rfl
        ·intro hc6;have hb7:b7=true:=hc6;subst hb7;simp only [cond_true];apply yQ [0,2,3,7];apply (yV);apply n34 _ (l7,mo - 1,a7,s7)
         ·exact b0t [0,2,3,7] [0,1,2,3,6]
         ·exact ⟨by show (l7.length:Int)≤15+(more - (mo - 1));omega,by show 0≤mo - 1∧mo - 1≤more;omega,by show a5≤a7∧a7≤a5+92 * (more - (mo - 1));omega⟩
         ·show _ < _;simp only [];omega
        ·intro hc6;apply zn [0,2,3,7];apply (yV);apply n34 _ (l3,mo - 1,a7,s7)
         ·exact b0t [0,2,3,7] [0,1,2,3,4]
         ·exact ⟨by show (l3.length:Int)≤15+(more - (mo - 1));omega,by show 0≤mo - 1∧mo - 1≤more;omega,by show a5≤a7∧a7≤a5+92 * (more - (mo - 1));omega⟩
         ·show _ < _;simp only [];omega
      ·intro hc5;apply zn [2,3];apply yR [2];apply (zq3);refine b1g ?_;exact ⟨n,l3,_,_,⟨hn,by omega⟩,by omega,rfl,rfl⟩
theorem b67 {a:List TA} {x0:ByteArray} {x1:Int} {x2:Int} {x3:Int} {x4:Int}:a.map rQa++[V.agg [Zg x0,Zc .i64 x1,Zc .i64 x2,Zc .i64 x3,Zc .i64 x4]]=(a++[(x0,x1,x2,x3,x4)]).map rQa:=by simp
set_option maxRecDepth 8000 in
theorem c5t (code:List Int) (a s:Int) (nm:ByteArray) (nn:Int) (hcode:∀x∈code,0≤x∧x≤255) (hcl:code.length≤9223372036854775807) (ha:0≤a∧a < 16000000000):b76 prog 78 [.ptr 0 0 0,.str nm,.int .i64 nn] [cQ code a s] (fun r O'=>∃(x1 x2 x3 x4:Int) (a' s':Int),(True)∧(a≤a'∧a'≤a+20)∧r=.agg [.str nm,.int .i64 x1,.int .i64 x2,.int .i64 x3,.int .i64 x4]∧O'=[cQ code a' s']):=by
 apply zcx [.cell 6 98] [(75,[0,1]),(70,[0]),(73,[0])] func78 ntmps78;intro _ _ _;have T:=tq9 Y3 Y5 Y9 Y22 Y41 Y60 Y61 Y63 Y98;have F:=Fc.mk True.intro;apply yR [0,1,2,6];apply b1l [0,6,7];intro _ k2;apply (zq2);apply (b2c);apply zxt (b16 code a s [0,0,1,2,3] (by simp) hcode hcl (by omega));rintro _ _ ⟨v11,a11,s11,h11,k11,rfl,rfl⟩;apply (zEt);simp only [Zb,Za,or_false] at h11;apply (zq2);apply zxl (b1t code a11 s11 (nn) hcode hcl (by omega));rintro _ _ ⟨v14,a14,s14,h14,k14,rfl,rfl⟩;apply (zEl);apply (zq7);apply zxt (b16 code a14 s14 [6,4,3,2,1,9] (by simp) hcode hcl (by omega));rintro _ _ ⟨v17,a17,s17,h17,k17,rfl,rfl⟩;apply (zEt);simp only [Zb,Za,or_false] at h17;apply (zq7);apply zxt (b16 code a17 s17 [0,0,0,4,1,2,3,5] (by simp) hcode hcl (by omega));rintro _ _ ⟨v20,a20,s20,h20,k20,rfl,rfl⟩;apply (zEt);simp only [Zb,Za,or_false] at h20;apply (c7k);apply (g5x);apply k2 _;apply (zk);apply b0e;intro _ n3 _ _;apply b1l [0,6,7,23];intro _ k4;apply (zU);apply zxl (b1t code a20 s20 (80) hcode hcl (by omega));rintro _ _ ⟨v23,a23,s23,h23,k23,rfl,rfl⟩;apply (zEl);apply k4 _;apply (zk);apply b0g;intro _ n5 _ _ _;apply yR [0,6,7,23,24];apply b0c _ rfl
 ·intro hc0;apply b2u;intro _ k8;apply (zq7);apply zxt (b16 code a23 s23 [-1,4] (by simp) hcode hcl (by omega));rintro _ _ ⟨v28,a28,s28,h28,k28,rfl,rfl⟩;apply (zEt);simp only [Zb,Za,or_false] at h28;apply (f7s);apply k8 _;apply n5 _;apply n3 _ _ (b0a [6,7] _);apply (zk);apply yR [6];apply (zq3);refine b1g ?_;exact ⟨_,_,_,_,_,_,by omega,rfl,rfl⟩
 ·intro hc0;apply yR [0,6,7,23,30];apply b0c _ rfl
  ·intro hc1;apply b2u;intro _ k12;apply (zq7);apply zxt (b16 code a23 s23 [-1,13,14] (by simp) hcode hcl (by omega));rintro _ _ ⟨v34,a34,s34,h34,k34,rfl,rfl⟩;apply (zEt);simp only [Zb,Za,or_false] at h34;apply (f7s);apply k12 _;apply n5 _;apply n3 _ _ (b0a [6,7] _);apply (zk);apply yR [6];apply (zq3);refine b1g ?_;exact ⟨_,_,_,_,_,_,by omega,rfl,rfl⟩
  ·intro hc1;apply yR [0,6,7,23,36];apply b0c _ rfl
   ·intro hc2;apply b2u;intro _ k16;apply (zq7);apply zxt (b16 code a23 s23 [0,10,-9223372036854775808] (by simp) hcode hcl (by omega));rintro _ _ ⟨v40,a40,s40,h40,k40,rfl,rfl⟩;apply (zEt);simp only [Zb,Za,or_false] at h40;apply (f7s);apply k16 _;apply n5 _;apply n3 _ _ (b0a [6,7] _);apply (zk);apply yR [6];apply (zq3);refine b1g ?_;exact ⟨_,_,_,_,_,_,by omega,rfl,rfl⟩
   ·intro hc2;apply yR [0,6,7,42];apply b0c _ rfl
    ·intro hc3;apply b2u;intro _ k20;apply (zq7);apply zxt (b16 code a23 s23 [-1,6] (by simp) hcode hcl (by omega));rintro _ _ ⟨v46,a46,s46,h46,k46,rfl,rfl⟩;apply (zEt);simp only [Zb,Za,or_false] at h46;apply (f7s);apply k20 _;apply n5 _;apply n3 _ _ (b0a [6,7] _);apply (zk);apply yR [6];apply (zq3);refine b1g ?_;exact ⟨_,_,_,_,_,_,by omega,rfl,rfl⟩
    ·intro hc3;apply zn [6,7];apply yR [6];apply (zq3);refine b1g ?_;exact ⟨_,_,_,_,_,_,by omega,rfl,rfl⟩
set_option maxRecDepth 8000 in
theorem d2i (code:List Int) (a s:Int) (nn:Int) (hcode:∀x∈code,0≤x∧x≤255) (hcl:code.length≤9223372036854775807) (ha:0≤a∧a < 15000000000):b76 prog 68 [.ptr 0 0 0,.int .i64 nn] [cQ code a s] (fun r O'=>∃(l:List TA) (a' s':Int),(l.length≤12∧∀x∈l,x.1.size≤9)∧(a≤a'∧a'≤a+1000)∧r=.ref 1∧O'=[cQ code a' s',aQ rQa l]):=by
 apply zcx [.tmp 4] [(75,[0,1]),(70,[0]),(73,[0]),(78,[0])] func68 ntmps68;intro _ _ _;have T:=g5u Y3 Y4 Y5 Y9 Y22 Y28 Y48 Y60 Y61 Y63 Y98;have F:=Fc.mk True.intro;apply yR [0,1];apply yR [0,1,5];apply b0e;intros;apply yR [0,1,5,8,9,10];apply b0g;intros;apply b05 (fun p=>⟨[(0,.ptr 0 0 0),(1,.int .i64 nn),(5,.ref 1),(8,.ref 2),(9,.int .i64 7),(10,.int .i64 (Nat.cast p.1))],[cQ code p.2.2.1 p.2.2.2,aQ rQa p.2.1,.arr [Zg (⟨#[100,49]⟩:ByteArray),Zg (⟨#[112,49]⟩:ByteArray),Zg (⟨#[112,50]⟩:ByteArray),Zg (⟨#[112,51]⟩:ByteArray),Zg (⟨#[114,49]⟩:ByteArray),Zg (⟨#[116,49]⟩:ByteArray),Zg (⟨#[116,50]⟩:ByteArray)] .flat],false,43,0⟩) (fun p=>p.1≤7∧(p.2.1.length≤p.1∧∀x∈p.2.1,x.1.size≤9)∧a≤p.2.2.1∧p.2.2.1≤a+30 * (p.1:Int)) (fun p=>7 - p.1) ((0,[],a,s):Nat×List TA×Int×Int)
 ·refine b6c [0,1,5,8,9,10] [0,2,3] (by decide) (by simp) ?_ ?_ ?_
  ·simp [b0r,b0k,b0i,b0f,Zm,Zf,idx]<;>(first | rfl | decide)
  ·simp [Blk.kindIs,b02,b1m]
  simp only [aQ,fQ,b0r,b0k,b0i,b0f,b0n,Nat.reduceEqDiff,reduceIte,St.comp,Zn,Zp,Zs,Zl,idx,Zh,Zi,Nat.reduceBEq,cond_true,cond_false,Zr,Zo,Nat.reduceAdd,Zj];all_goals rfl
 ·exact ⟨qle _,⟨qle _,by simp⟩,by simp⟩
 ·rintro ⟨i,acc,a1,s1⟩ hok6 Q6 n6 e6 r6;obtain ⟨hi1,⟨hal,hsz⟩,ha1⟩:=hok6;simp only [] at hi1 hal hsz ha1⊢;apply yR [0,1,5,8,9,10,11];apply b0e;intros;apply b0c _ rfl
  ·intro hc0;have hlt:i < 7:=by omega
   obtain ⟨nm,hnm⟩:∃x,([(⟨#[100,49]⟩:ByteArray),(⟨#[112,49]⟩:ByteArray),(⟨#[112,50]⟩:ByteArray),(⟨#[112,51]⟩:ByteArray),(⟨#[114,49]⟩:ByteArray),(⟨#[116,49]⟩:ByteArray),(⟨#[116,50]⟩:ByteArray)]:List ByteArray)[i]? =some x:=⟨_,qla (show i < ([(⟨#[100,49]⟩:ByteArray),(⟨#[112,49]⟩:ByteArray),(⟨#[112,50]⟩:ByteArray),(⟨#[112,51]⟩:ByteArray),(⟨#[114,49]⟩:ByteArray),(⟨#[116,49]⟩:ByteArray),(⟨#[116,50]⟩:ByteArray)]:List ByteArray).length from hlt)⟩;have hnz:nm.size≤9:=by
    have hm:=qlb hnm;simp only [Zb,Za,or_false] at hm;rcases hm with e | e | e | e | e | e | e<;>(rw [e];decide)
   have hnm2:([Zg (⟨#[100,49]⟩:ByteArray),Zg (⟨#[112,49]⟩:ByteArray),Zg (⟨#[112,50]⟩:ByteArray),Zg (⟨#[112,51]⟩:ByteArray),Zg (⟨#[114,49]⟩:ByteArray),Zg (⟨#[116,49]⟩:ByteArray),Zg (⟨#[116,50]⟩:ByteArray)]:List V).getD i .any=Zg nm:=by
    have q:=b3u (f:=Zg) hnm;simpa only [Zn,Zp] using q
   apply zn [0,1,5,8,9,10];apply b0e;intro _ n10 _ _;apply b0g;intro _ n11 _ _ _;have F:=Fc.mk hnm2;apply yR [0,1,5,7,8,9,10];apply b1l [0,1,5,7,8,9,10,15];intro _ k13;apply (zU);apply zxl (b7p code a1 s1 (2) hcode hcl (by omega));rintro _ _ ⟨v15,a15,s15,h15,k15,rfl,rfl⟩;apply (zEl);apply k13 _;apply (zk);apply b0c _ rfl
   ·intro hc1;apply b2u;intro _ k15;apply (g0m);apply zxl (c5t code a15 s15 nm nn hcode hcl (by omega));rintro _ _ ⟨x20_1,x20_2,x20_3,x20_4,a20,s20,h20,k20,rfl,rfl⟩;apply (zEl);apply (b2c);apply (c5u);apply (b2h);apply k15 _;apply n11 _;apply n10 _ _ (b0a [0,1,5,8,9,10] _);apply (zk);apply (yV);apply n6 _ (i+1,acc++[(nm,x20_1,x20_2,x20_3,x20_4)],a20,s20)
    ·apply b0d [0,1,5,8,9,10] [0,4,2];rw [b67];rfl
    ·exact ⟨by show i+1≤7;omega,⟨by show (acc++_).length≤i+1;simp;omega,by show ∀x∈acc++_,_;intro x hx;rcases qll.1 hx with q | q;exact hsz x q;rw [qlm] at q;subst q;exact hnz⟩,by show a≤a20∧a20≤a+30 * ((i+1:Nat):Int);omega⟩
    ·show _ < _;show 7 - (i+1) < 7 - i;omega
   ·intro hc1;apply zn [0,1,5,8,9,10];apply (yV);apply n6 _ (i+1,acc,a15,s15)
    ·refine b6c [0,1,5,8,9,10] [0,1,2] (by decide) (by simp) ?_ ?_ ?_
     ·simp [b0r,b0k,b0i,b0f,Zm,Zf,idx]<;>(first | rfl | decide)
     ·simp [Blk.kindIs,b02,b1m]
     simp only [aQ,fQ,b0r,b0k,b0i,b0f,b0n,Nat.reduceEqDiff,reduceIte,St.comp,Zn,Zp,Zs,Zl,idx,Zh,Zi,Nat.reduceBEq,cond_true,cond_false,Zr,Zo,Nat.reduceAdd,Zj];all_goals rfl
    ·exact ⟨by show i+1≤7;omega,⟨by show acc.length≤i+1;omega,hsz⟩,by show a≤a15∧a15≤a+30 * ((i+1:Nat):Int);omega⟩
    ·show _ < _;show 7 - (i+1) < 7 - i;omega
  ·intro hc0;apply zn [0,1,5];apply b0e;intros;apply b1l [0,1,5,25];intro _ k19;apply (zU);apply zxl (b7p code a1 s1 (16) hcode hcl (by omega));rintro _ _ ⟨v25,a25,s25,h25,k25,rfl,rfl⟩;apply (zEl);apply k19 _;apply (zk);apply b0c _ rfl
   ·intro hc2;apply yR [0,1,5];apply b0g;intros;apply b05 (fun p=>⟨[(0,.ptr 0 0 0),(1,.int .i64 nn),(5,.ref 1)],[cQ code p.2.1 p.2.2,aQ rQa p.1],false,43,0⟩) (fun p=>(p.1.length≤12∧∀x∈p.1,x.1.size≤9)∧a25≤p.2.1∧p.2.1≤a25+30 * (p.1.length:Int)) (fun p=>12 - p.1.length) (([],a25,s25):List TA×Int×Int)
    ·refine b6c [0,1,5] [0,3] (by decide) (by simp) ?_ ?_ ?_
     ·simp [b0r,b0k,b0i,b0f,Zm,Zf,idx]<;>(first | rfl | decide)
     ·simp [Blk.kindIs,b02,b1m]
     simp only [aQ,fQ,b0r,b0k,b0i,b0f,b0n,Nat.reduceEqDiff,reduceIte,St.comp,Zn,Zp,Zs,Zl,idx,Zh,Zi,Nat.reduceBEq,cond_true,cond_false,Zr,Zo,Nat.reduceAdd,Zj];all_goals rfl
    ·exact ⟨⟨by simp,by simp⟩,by simp⟩
    ·rintro ⟨acc2,a4,s4⟩ hok23 Q23 n23 e23 r23;obtain ⟨⟨hal2,hsz2⟩,ha4⟩:=hok23;simp only [] at hal2 hsz2 ha4⊢;apply b0e;intros;apply yR [0,1,5,28];apply b0c _ rfl
     ·intro hc3;have hab:((⟨#[97,98,99,100,101,102,103,104,105,106,107,108]⟩:ByteArray)).size=12:=rfl;have hk1:((acc2.length:Int)+1).toNat=acc2.length+1:=by omega
      have hl12:acc2.length < 12:=by omega
      have hx1:((⟨#[112]⟩:ByteArray)).size=1:=rfl;apply zn [0,1,5];apply b0g;intro _ n27 _ _ _;apply b2u;intro _ k28;have F:=fq4 hab hk1 hx1 @Zq;apply (zq8);apply (g4m);apply (g5s);apply (b46);apply (f8j);apply (b46);apply (zU);apply zxl (c5t code a4 s4 ((⟨#[112]⟩:ByteArray)++Zk (⟨#[97,98,99,100,101,102,103,104,105,106,107,108]⟩:ByteArray) acc2.length (acc2.length+1)) nn hcode hcl (by omega));rintro _ _ ⟨x39_1,x39_2,x39_3,x39_4,a39,s39,h39,k39,rfl,rfl⟩;apply (zEl);apply (b2c);apply (c5u);apply (b2h);apply k28 _;apply n27 _;apply n23 _ (acc2++[(((⟨#[112]⟩:ByteArray)++Zk (⟨#[97,98,99,100,101,102,103,104,105,106,107,108]⟩:ByteArray) acc2.length (acc2.length+1)),x39_1,x39_2,x39_3,x39_4)],a39,s39)
      ·apply b0d [0,1,5] [0,3];rw [b67]
      ·exact ⟨⟨by show (acc2++_).length≤12;simp;omega,by show ∀x∈acc2++_,_;intro x hx;rcases qll.1 hx with q | q;exact hsz2 x q;rw [qlm] at q;subst q;exact by show ((⟨#[112]⟩:ByteArray)++Zk (⟨#[97,98,99,100,101,102,103,104,105,106,107,108]⟩:ByteArray) acc2.length (acc2.length+1)).size≤9;rw [ByteArray.size_append,Zq];have h1:((⟨#[112]⟩:ByteArray)).size=1:=rfl;have h2:((⟨#[97,98,99,100,101,102,103,104,105,106,107,108]⟩:ByteArray)).size=12:=rfl;omega⟩,by show a25≤a39∧a39≤a25+30 * ((acc2++_).length:Int);simp;omega⟩
      ·show _ < _;show 12 - (acc2++_).length < 12 - acc2.length;simp;omega
     ·intro hc3;apply zn [5];apply yR [4];apply (zr);refine b1g ?_;exact ⟨acc2,a4,s4,⟨by omega,hsz2⟩,by omega,rfl,rfl⟩
   ·intro hc2;apply zn [5];apply yR [4];apply (zr);refine b1g ?_;exact ⟨acc,_,_,⟨by omega,hsz⟩,by omega,rfl,rfl⟩
end Go.Proofs.YtmbbjhopngejaaaGreat
