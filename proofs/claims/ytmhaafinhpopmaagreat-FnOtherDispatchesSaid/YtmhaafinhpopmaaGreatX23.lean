/- What functions compute. No condition. -/
import Derived.Test.YtmhaafinhpopmaaGreatX22
import Derived.Test.YtmhaafinhpopmaaGreatX21
import Derived.Test.YtmhaafinhpopmaaGreatX16
set_option linter.unusedSimpArgs false
set_option linter.unusedVariables false
set_option linter.defProp false
namespace Go.Proofs.YtmhaafinhpopmaaGreat
open Go Go.Vm
set_option maxHeartbeats 8000000
set_option maxRecDepth 8000 in
theorem turnout_con (code:List Int) (a s:Int) (hcode:∀x∈code,0≤x∧x≤255) (hcl:code.length≤9223372036854775807) (ha:0≤a∧a < 13000000000):ConX Tryz.prog 20 [.ptr 0 0 0] [.box (.agg [.sl (code.map (V.int .u8)),.int .i64 a,.int .u64 s]) .shal] (fun r O'=>∃(n:Int) (l:List TS) (fl:List TA) (a' s':Int),(l.length≤302∧fl.length≤13∧∀x∈fl,x.1.size≤9)∧(a≤a'∧a'≤a+90000)∧r=.tup [.agg [.int .i64 n,.ref 1],.ref 2]∧O'=[.box (.agg [.sl (code.map (V.int .u8)),.int .i64 a',.int .u64 s']) .shal,.arr (l.map (fun t:TS=>V.agg [V.int .i64 t.1,V.int .i64 t.2.1,V.int .i64 t.2.2])) .flat,.arr (fl.map (fun t:TA=>V.agg [V.str t.1,V.int .i64 t.2.1,V.int .i64 t.2.2.1,V.int .i64 t.2.2.2.1,V.int .i64 t.2.2.2.2])) .flat]):=by
 refine v_conX [.cell 2 26,.tmp 3] [(55,[0,1]),(23,[0]),(22,[0]),(51,[0]),(52,[0]),(54,[0])] Tryz.func20 rfl rfl rfl (by simp [Tryz.ntmps20]) ?_;intro Q0 n0 r0;simp only [Tryz.ntmps20,envFrom,Nat.reduceAdd];have T:=Tys.mk (ai Ty.t3 (ai Ty.t4 (ai Ty.t5 (ai Ty.t9 (ai Ty.t22 (ai Ty.t24 (ai Ty.t26 (ai Ty.t27 (ai Ty.t47 (ai Ty.t48 (ai Ty.t50 (ai Ty.t72 Ty.t98))))))))))));have F:=Fc.mk True.intro;refine yR [0,2] ⟨?_⟩;refine v_seqR [0,2,4] ?_;intro K2 k2;refine zMove ⟨?_⟩;refine zxl (town_con code a s hcode hcl (by omega)) ⟨?_⟩;rintro _ _ ⟨n7,l7,a7,s7,h7,k7,rfl,rfl⟩;refine zEl ⟨?_⟩;refine zq6 ⟨?_⟩;refine k2 _ ?_;refine zk ⟨?_⟩;refine v_join (A:=Int×List TS×Int×Int) (fun p=>⟨[(0,.ptr 0 0 0),(2,.ptr 2 0 0),(4,.ptr 3 0 0)],[.box (.agg [.sl (code.map (V.int .u8)),.int .i64 p.2.2.1,.int .u64 p.2.2.2]) .shal,.arr [] .flat,.box (.agg [.int .i64 0,.ref 1]) .mix,.box (.agg [.int .i64 p.1,.ref 4]) .mix,.arr (p.2.1.map (fun t:TS=>V.agg [V.int .i64 t.1,V.int .i64 t.2.1,V.int .i64 t.2.2])) .flat],false,22,0⟩) (fun p=>p.2.1.length≤302∧a≤p.2.2.1∧p.2.2.1≤a+71000) ?_ ?_
 ·intro Q3 n3 e3 r3;refine v_seqR [0,2,4,9] ?_;intro K4 k4;refine zMove ⟨?_⟩;refine zxl (one_con code a7 s7 (24) hcode hcl (by omega)) ⟨?_⟩;rintro _ _ ⟨v9,a9,s9,h9,k9,rfl,rfl⟩;refine zEl ⟨?_⟩;refine k4 _ ?_;refine zk ⟨?_⟩;refine v_condS _ rfl ?_ ?_
  ·intro hc0;refine v_region ?_;intro K6 k6;refine zMove ⟨?_⟩;refine zxl (anyTown_con code a9 s9 hcode hcl (by omega)) ⟨?_⟩;rintro _ _ ⟨n11,l11,a11,s11,h11,k11,rfl,rfl⟩;refine zEl ⟨?_⟩;refine zStore ⟨?_⟩;refine k6 _ ?_;refine n3 (n11,l11,a11,s11) _ ?_ ?_
   ·exact ⟨h11,by show a≤a11∧a11≤a+71000;omega⟩
   ·exact weak_same [0,2,4] [0,1,2,6,7]
  ·intro hc0;refine v_skip ?_;refine n3 (n7,l7,a9,s9) _ ?_ ?_
   ·exact ⟨by show l7.length≤302;omega,by show a≤a9∧a9≤a+71000;omega⟩
   ·exact weak_same [0,2,4] [0,1,2,6,4]
 ·rintro ⟨n,l,a1,s1⟩ hok3;obtain ⟨hll,ha1⟩:=hok3;simp only [] at hll ha1⊢;obtain ⟨lo,hlo⟩:∃lo,lo=if n < 14 then n else 14:=⟨_,rfl⟩;obtain ⟨hi,hhi⟩:∃hi,hi=if lo > 1 then lo else 1:=⟨_,rfl⟩;have c1:=l1Least_con 14 n;have c2:=l1Most_con 1 lo;rw [←hlo] at c1;rw [←hhi] at c2;have F:=Fc.mk True.intro;refine yRcc [0,2,4,5] (c1) (c2) ⟨?_⟩;refine v_join (A:=TS) (fun p=>⟨[(0,.ptr 0 0 0),(2,.ptr 2 0 0),(4,.ptr 3 0 0),(5,.int .i64 p.1)],[.box (.agg [.sl (code.map (V.int .u8)),.int .i64 p.2.1,.int .u64 p.2.2]) .shal,.arr [] .flat,.box (.agg [.int .i64 0,.ref 1]) .mix,.box (.agg [.int .i64 n,.ref 4]) .mix,.arr (l.map (fun t:TS=>V.agg [V.int .i64 t.1,V.int .i64 t.2.1,V.int .i64 t.2.2])) .flat],false,22,0⟩) (fun p=>a1≤p.2.1∧p.2.1≤a1+4) ?_ ?_
  ·intro Q8 n8 e8 r8;refine v_seqR [0,2,4,5,17] ?_;intro K9 k9;refine zMove ⟨?_⟩;refine zxl (one_con code a1 s1 (24) hcode hcl (by omega)) ⟨?_⟩;rintro _ _ ⟨v17,a17,s17,h17,k17,rfl,rfl⟩;refine zEl ⟨?_⟩;refine k9 _ ?_;refine zk ⟨?_⟩;refine v_condS _ rfl ?_ ?_
   ·intro hc1;refine yV ⟨?_⟩;refine n8 (14,a17,s17) _ ?_ ?_
    ·show a1≤a17∧a17≤a1+4;omega
    ·exact weak_same [0,2,4,5] [0,1,2,3,4]
   ·intro hc1;refine v_skip ?_;refine n8 (hi,a17,s17) _ ?_ ?_
    ·show a1≤a17∧a17≤a1+4;omega
    ·exact weak_same [0,2,4,5] [0,1,2,3,4]
  ·rintro ⟨nn,a2,s2⟩ hok8;obtain ⟨ha2,ha2b⟩:=hok8;simp only [] at ha2 ha2b⊢;refine v_join (A:=List TA×Int×Int) (fun p=>⟨[(2,.ptr 1 0 0),(3,.ref 3)],[.box (.agg [.sl (code.map (V.int .u8)),.int .i64 p.2.1,.int .u64 p.2.2]) .shal,.box (.agg [.int .i64 n,.ref 2]) .mix,.arr (l.map (fun t:TS=>V.agg [V.int .i64 t.1,V.int .i64 t.2.1,V.int .i64 t.2.2])) .flat,.arr (p.1.map (fun t:TA=>V.agg [V.str t.1,V.int .i64 t.2.1,V.int .i64 t.2.2.1,V.int .i64 t.2.2.2.1,V.int .i64 t.2.2.2.2])) .flat],false,22,0⟩) (fun p=>(p.1.length≤13∧∀x∈p.1,x.1.size≤9)∧a2≤p.2.1∧p.2.1≤a2+7200) ?_ ?_
   ·intro Q12 n12 e12 r12;refine v_typed 6 (fun a s:Int=>.box (.agg [.sl (code.map (V.int .u8)),.int .i64 a,.int .u64 s]) .shal) 1200 [0,1,2,3] [0,2,4,5] [[18],[19],[20],[21],[],[]] (fun O g=>g 0=.ptr 0 0 0∧g 2=.ptr 2 0 0∧g 4=.ptr 3 0 0∧g 5=.int .i64 nn∧(1≠0∧O[1]? =some (Blk.arr [] .flat))∧(2≠0∧O[2]? =some (Blk.box (.agg [.int .i64 0,.ref 1]) .mix))∧(3≠0∧O[3]? =some (Blk.box (.agg [.int .i64 n,.ref 4]) .mix))∧(4≠0∧O[4]? =some (Blk.arr (l.map (fun t:TS=>V.agg [V.int .i64 t.1,V.int .i64 t.2.1,V.int .i64 t.2.2])) .flat))) [fun O g=>g 18=.agg [.int .i64 n,.ref 4],fun O g=>g 19=.ptr 0 0 0,fun O g=>g 20=.int .i64 nn,fun O g=>∃x:Nat×List TA,g 21=.ref x.1∧(x.1≠0∧O[x.1]? =some (Blk.arr (x.2.map (fun t:TA=>V.agg [V.str t.1,V.int .i64 t.2.1,V.int .i64 t.2.2.1,V.int .i64 t.2.2.2.1,V.int .i64 t.2.2.2.2])) .flat))∧(5≤x.1∧x.2.length≤13∧∀y∈x.2,y.1.size≤9),tYes,tYes] rfl tyk tyks ?_ ?_ ?_
    ·exact ⟨rfl,rfl,rfl,rfl,⟨by decide,rfl⟩,⟨by decide,rfl⟩,⟨by decide,rfl⟩,⟨by decide,rfl⟩⟩
    ·refine ops_cons 6 ?_ (ops_cons 6 ?_ (ops_cons 6 ?_ (ops_cons 6 ?_ ops_nil)))
     ·intro ee OO mm aa ss hc ha h0 hd;have F:=Fc.mk (ai h0.1 h0.2);refine zsLoad ⟨?_⟩;exact postN hc (by decide) rfl
     ·intro ee OO mm aa ss hc ha h0 hd;have F:=Fc.mk (ai h0.1 h0.2);refine zsMove ⟨?_⟩;exact postN hc (by decide) rfl
     ·intro ee OO mm aa ss hc ha h0 hd;have F:=Fc.mk (ai h0.1 h0.2);refine zsMove ⟨?_⟩;exact postN hc (by decide) rfl
     ·intro ee OO mm aa ss hc ha h0 hd;have e19_0:Vm.look 19 ee=.ptr 0 0 0:=hd 1 rfl;have e20_0:Vm.look 20 ee=.int .i64 nn:=hd 2 rfl;have hlen:=ge_of h0.2.2.2.2.2.2.2.2;have F:=Fc.mk (ai e19_0 e20_0);refine zsxl (anyFleet_con code aa ss nn hcode hcl (by omega)) ⟨?_⟩;rintro _ _ ⟨v,a2,s2,hq,hk,rfl,rfl⟩;refine zEl ⟨?_⟩;exact postE hc (by omega) ⟨⟨_,v⟩,rfl,⟨by omega,by simp⟩,by omega,hq⟩
    ·intro K13 q13 k13 ee OO mm a13 s13 hc ha13 h0 hd;obtain ⟨e0_0,e0_1,e0_2,e0_3,⟨n0_0,b0_0⟩,⟨n0_1,b0_1⟩,⟨n0_2,b0_2⟩,⟨n0_3,b0_3⟩⟩:=h0;have e18_0:Vm.look 18 ee=.agg [.int .i64 n,.ref 4]:=hd 0 rfl;obtain ⟨⟨k21,l21⟩,e21_0,⟨n21_0,b21_0⟩,q21⟩:=hd 3 rfl;have hz:k21≠2∧k21≠0:=by omega
     have hl2:2 < OO.length:=ge_of b0_1;have F:=Fc.mk (ai e0_0 (ai e0_1 (ai e0_2 (ai e0_3 (ai b0_0 (ai b0_1 (ai b0_2 (ai b0_3 (ai e18_0 (ai e21_0 (ai b21_0 hc)))))))))));show aAny _ _ _ _ 2 #[true,true,true,true,false,false] _;refine zoStore 4 ⟨?_⟩;refine zoAssign 5 ⟨?_⟩;refine aAny_done (by kernel_rfl) ?_;refine k13 _ ?_;refine n12 (l21,a13,s13) _ ?_ ?_
     ·exact ⟨q21.2,by show a2≤a13∧a13≤a2+7200;omega⟩
     ·exact weak_op _ _ [0,2,4,k21] (by simp;omega) (by simp) rfl (by simp [look_cons,V.ren,V.renL,‹Fc _›.h]) (by simp) (by simp [V.only,V.onlyL]) (by simp [BkAll,Blk.renM,isMix_flat,isMix_shal,isMix_mix,V.ren,V.renL,‹Fc _›.h,List.getElem?_set,hz,hl2,Ne.symm hz.1]) (by simp [Blk.onlyM,isMix_flat,isMix_shal,isMix_mix,V.only,V.onlyL])
   ·rintro ⟨fl,a3,s3⟩ hok12;obtain ⟨hfl,ha3⟩:=hok12;simp only [] at hfl ha3⊢;refine zq3 ⟨?_⟩;refine ret_viewX ?_;exact ⟨n,l,fl,_,_,⟨hll,hfl⟩,by omega,rfl,rfl⟩
theorem pSameTexts_con (l:List (ByteArray)) (hl:l.length≤1048576):Con Tryz.prog 15 [.sl (l.map V.str),.sl (l.map V.str)] [] (.bool true) []:=by
 refine v_con [.tmp 4] [] Tryz.func15 rfl rfl rfl (by simp [Tryz.ntmps15]) ?_;intro Q0 n0 r0;simp only [Tryz.ntmps15,envFrom,Nat.reduceAdd];have T:=Tys.mk (ai Ty.t3 (ai Ty.t9 Ty.t38));have F:=Fc.mk True.intro;refine yR [0,1] ⟨?_⟩;refine v_seq ?_;intros;refine yR [0,1,10] ⟨?_⟩;refine v_cond _ rfl ?_ ?_
 ·intro hc0;exfalso;simp at hc0
 ·intro hc0;try simp only [zC,reduceCtorEq] at hc0
  refine zn [0,1] ⟨?_⟩;refine v_seq ?_;intros;refine yR [0,1,12,13] ⟨?_⟩;refine v_block ?_;intros;refine v_loop (fun i=>⟨[(0,.sl (l.map V.str)),(1,.sl (l.map V.str)),(12,.int .i64 l.length),(13,.int .i64 (Nat.cast i))],[],false,26,0⟩) (fun i=>i≤l.length) (fun i=>l.length - i) 0 ?_ ?_ ?_
  ·refine weak_of [0,1,12,13] ?_;simp only [keep_mk,keepE_nil,keepE_cons,look_cons,look_nil,Nat.reduceEqDiff,reduceIte];rfl
  ·exact qlk _
  ·rintro i hok8 Q8 n8 e8 r8;have hi1:i≤l.length:=hok8;refine yR [0,1,12,13,14] ⟨?_⟩;refine v_seq ?_;intros;refine v_condS _ rfl ?_ ?_
   ·intro hc1;have hlt:i < l.length:=by omega
    obtain ⟨x,hx⟩:∃x,l[i]? =some x:=⟨l[i],qla hlt⟩;refine zn [0,1,12,13] ⟨?_⟩;refine v_seq ?_;intros;refine v_block ?_;intros;have F:=Fc.mk (gdm hx);refine yR [0,1,5,12,13] ⟨?_⟩;refine v_seq ?_;intro Q15 n15 e15 r15;refine v_draw (by kernel_rfl) ?_;intro K16 q16 k16;show aAny _ _ _ _ 9 (Array.replicate 9 false) _;refine zdMove q16 true 0 16 ?_;refine zdMove q16 true 1 17 ?_;refine zdIndexAddr q16 true 2 18 ?_;refine zdLoad q16 true 3 19 ?_;refine zdMove q16 true 4 20 ?_;refine zdMove q16 true 5 21 ?_;refine zdIndexAddr q16 true 6 22 ?_;refine zdLoad q16 true 7 23 ?_;refine zdBinOp q16 true 8 24 ?_;refine aAny_done (by kernel_rfl) ?_;refine k16 _ ?_;refine n15 _ _ (weak_keep [0,1,12,13,24] _) ?_;refine zk ⟨?_⟩;refine v_cond _ rfl ?_ ?_
    ·intro hc2;exfalso;simp at hc2
    ·intro hc2;try simp only [zC,reduceCtorEq] at hc2
     refine zn [0,1,12,13] ⟨?_⟩;refine yV ⟨?_⟩;refine n8 _ (i+1) ?_ ?_ ?_
     ·refine weak_bothS [0,1,12,13] [] ⟨?_⟩;rfl
     ·exact hlt
     ·show _ < _;omega
   ·intro hc1;refine zn [] ⟨?_⟩;refine yR [4] ⟨?_⟩;refine zr ⟨?_⟩;exact ret_pure rfl rfl (.inl rfl)
theorem pSum_con (l:List Int) (hl:l.length≤1048576) (hb:∀x∈l,0≤x∧x≤1000):Con Tryz.prog 10 [.sl (l.map (V.int .i64))] [] (.int .i64 l.sum) []:=by
 refine v_con [.tmp 2] [] Tryz.func10 rfl rfl rfl (by simp [Tryz.ntmps10]) ?_;intro Q0 n0 r0;simp only [Tryz.ntmps10,envFrom,Nat.reduceAdd];have T:=Tys.mk (ai Ty.t3 Ty.t28);have F:=Fc.mk True.intro;refine yR [0] ⟨?_⟩;refine yR [0,3] ⟨?_⟩;refine v_seq ?_;intros;refine yR [3,6,7,8] ⟨?_⟩;refine v_block ?_;intros;refine v_loop (fun i=>⟨[(3,.int .i64 (l.take i).sum),(6,.sl (l.map (V.int .i64))),(7,.int .i64 l.length),(8,.int .i64 (Nat.cast i))],[],false,17,0⟩) (fun i=>i≤l.length∧0≤(l.take i).sum∧(l.take i).sum≤1000 * (i:Int)) (fun i=>l.length - i) 0 ?_ ?_ ?_
 ·refine weak_of [3,6,7,8] ?_;simp only [keep_mk,keepE_nil,keepE_cons,look_cons,look_nil,Nat.reduceEqDiff,reduceIte];rfl
 ·exact ⟨qlk _,by simp⟩
 ·rintro i hok6 Q6 n6 e6 r6;obtain ⟨hi1,hs⟩:=hok6;refine yR [3,6,7,8,9] ⟨?_⟩;refine v_seq ?_;intros;refine v_condS _ rfl ?_ ?_
  ·intro hc0;have hlt:i < l.length:=by omega
   obtain ⟨x,hx⟩:∃x,l[i]? =some x:=⟨l[i],qla hlt⟩;have hxb:=hb x (qlb hx);have hnx:(l.take (i+1)).sum=(l.take i).sum+x:=by rw [qme,hx];simp
   refine zn [3,6,7,8] ⟨?_⟩;refine v_seq ?_;intros;refine v_block ?_;intros;have F:=Fc.mk (gdm hx);refine yR [3,5,6,7,8] ⟨?_⟩;refine yQ [3,6,7,8] ⟨?_⟩;refine yV ⟨?_⟩;refine n6 _ (i+1) ?_ ?_ ?_
   ·refine weak_bothS [3,6,7,8] [] ⟨?_⟩;rw [hnx];rfl
   ·exact ⟨hlt,by rw [hnx];omega⟩
   ·show _ < _;omega
  ·intro hc0;refine zn [3] ⟨?_⟩;refine yR [2] ⟨?_⟩;refine zr ⟨?_⟩;have hie:l.take i=l:=qmg (by omega);rw [hie];exact ret_pure rfl rfl (.inl rfl)
def totTS:List (List ByteArray)→Int
  | []=>0
  | l::ll=>l.length+totTS ll
theorem totTS_pos:∀ll:List (List ByteArray),0≤totTS ll
  | []=>Int.le_refl _
  | l::ll=>by have:=totTS_pos ll;rw [totTS];omega
end Go.Proofs.YtmhaafinhpopmaaGreat
