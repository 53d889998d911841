/- What functions compute. No condition. -/
import Derived.Test.YtmhaafinhpopmaaGreatX3
import Derived.Test.YtmhaafinhpopmaaGreatX4
import Derived.Test.YtmhaafinhpopmaaGreatX5
set_option linter.unusedSimpArgs false
set_option linter.unusedVariables false
set_option linter.defProp false
namespace Go.Proofs.YtmhaafinhpopmaaGreat
open Go Go.Vm
set_option maxHeartbeats 8000000
def tmL (n:Int) (ss:List TS) (node:Int):List Int:=Tm.times n.toNat ss node.toNat
theorem strOK_facts {n:Int} {x:TS} (h1:1≤n∧n≤14) (h:strOK n x=true):0≤x.1∧x.1 < n∧0≤x.2.1∧x.2.1 < n∧x.1 < x.2.1∧1≤x.2.2∧x.2.2≤3600:=by
  simp only [strOK,hasB,Bool.and_eq_true,decide_eq_true_eq,wrap64 (show -9223372036854775808≤n - 1 by omega) (show n - 1≤9223372036854775807 by omega)] at h;omega
theorem edges_good {m:Nat} {ss:List TS} (hm:1≤m∧m≤14) (h:∀s∈ss,strOK (m:Int) s=true):∀e∈Tm.edges ss,Tm.Good m e∧e.2.2≤3600:=by
  intro e he;obtain ⟨s,hs,he⟩:=Tm.edges_mem he;have:=strOK_facts (by omega) (h s hs);rcases he with rfl | rfl<;>(unfold Tm.Good;simp only [];refine ⟨⟨?_,?_,?_,?_⟩,?_⟩<;>omega)
def fillI (m i:Nat):List Int:=List.replicate i (-1)++List.replicate (m - i) 0
theorem fillI_zero (m:Nat):(fillI m 0).map (V.int .i64)=List.replicate m (V.int .i64 0):=by simp [fillI]
theorem fillI_len {m i:Nat} (h:i≤m):(fillI m i).length=m:=by simp [fillI];omega
theorem fillI_set {m i:Nat} (h:i < m):(fillI m i).set i (-1)=fillI m (i+1):=by
  rw [fillI,List.set_append_right _ _ (by simp),List.length_replicate,Nat.sub_self,show m - i=(m - (i+1))+1 by omega,List.replicate_succ,List.set_cons_zero,fillI,List.replicate_succ',qlw];rfl
theorem fillI_end {m i:Nat} (h:i=m):fillI m i=List.replicate m (-1):=by subst h;simp [fillI]
theorem times_len (n:Int) (ss:List TS) (node:Int):(tmL n ss node).length=n.toNat:=Tm.iter_len (Tm.start_len ..) _
theorem tm_facts {n node:Int} {ss:List TS} (hn:1≤n∧n≤14) (hu:0≤node∧node < n) (hss:∀s∈ss,strOK n s=true) (hsl:ss.length≤40):∀v,-1≤Tm.at_ (tmL n ss node) v∧Tm.at_ (tmL n ss node) v≤4608000:=by
  obtain ⟨m,rfl⟩:=qlf (show 0≤n by omega);obtain ⟨u,rfl⟩:=qlf hu.1;have h:=Tm.within_facts (n:=m) (node:=u) (es:=Tm.edges ss) (by omega) (edges_good (by omega) hss) (by rw [Tm.edges_len];omega) m 0 (by omega);exact h.2
set_option maxRecDepth 8000 in
theorem tTimes_con (n:Int) (ss:List TS) (node:Int) (hn:1≤n∧n≤14) (hu:0≤node∧node < n) (hss:∀s∈ss,strOK n s=true) (hsl:ss.length≤40):Con Tryz.prog 37 [.pv [.agg [.int .i64 n,.sl (ss.map (fun t:TS=>V.agg [V.int .i64 t.1,V.int .i64 t.2.1,V.int .i64 t.2.2]))]] 0 0,.int .i64 node] [] (.ref 0) [.arr ((tmL n ss node).map (V.int .i64)) .flat]:=by
 obtain ⟨m,rfl⟩:=qlf (show 0≤n by omega);obtain ⟨u,rfl⟩:=qlf hu.1;have hum:u < m:=by omega
 have hm1:1≤m∧m≤14:=by omega
 have hg:=edges_good hm1 hss;have hg1:∀e∈Tm.edges ss,Tm.Good m e:=fun e he=>(hg e he).1
 have hel:=Tm.edges_len ss;have hel2:(Tm.edges ss).length≤80:=by omega
 rw [show tmL (m:Int) ss (u:Int)=Tm.times m ss u from rfl];have hru:(List.replicate m (-1:Int))[u]? =some (-1):=by rw [List.getElem?_replicate,if_pos hum]
 refine v_con [.tmp 4] [] Tryz.func37 rfl rfl rfl (by simp [Tryz.ntmps37]) ?_;intro Q0 n0 r0;simp only [Tryz.ntmps37,envFrom,Nat.reduceAdd];have T:=Tys.mk (ai Ty.t3 (ai Ty.t24 (ai Ty.t26 (ai Ty.t28 (ai Ty.t98 (ai Ty.t99 Ty.t100))))));have F:=Fc.mk True.intro;have F:=Fc.mk (ai (gdm hru) @set_map);refine yR [0,1] ⟨?_⟩;refine yRc [0,1,5] (repeat_con (-1) m hm1.1 (by omega)) ⟨?_⟩;refine yR [0,5] ⟨?_⟩;refine v_seq ?_;intros;refine yR [0,5,6] ⟨?_⟩;refine v_block ?_;intros;refine v_loop (fun p=>⟨[(0,.pv [.agg [.int .i64 (Nat.cast m),.sl (ss.map (fun t:TS=>V.agg [V.int .i64 t.1,V.int .i64 t.2.1,V.int .i64 t.2.2]))]] 0 0),(5,.ref 0),(6,.bool p.2)],[.arr ((Tm.within m u (Tm.edges ss) p.1 0).map (V.int .i64)) .flat],false,83,0⟩) (fun p=>p.1≤m+1∧(p.2=true→p.1≤m)∧(p.2=false→Tm.iter (Tm.edges ss) p.1 (Tm.start m u)=Tm.times m ss u)) (fun p=>m+1 - p.1) ((0,true):Nat×Bool) ?_ ?_ ?_
 ·refine weak_bothS [0,5,6] [2] ⟨?_⟩;rfl
 ·exact ⟨qlk _,fun _=>qlk _,fun h=>by cases h⟩
 ·rintro ⟨k,c⟩ hok7 Q7 n7 e7 r7;obtain ⟨hk1,hck,hcf⟩:=hok7;simp only [] at hk1 hck hcf⊢;refine v_seq ?_;intros;refine yR [0,5,22] ⟨?_⟩;refine v_condS _ rfl ?_ ?_
  ·intro hc0;have hk:=hck hc0;refine zn [0,5] ⟨?_⟩;refine v_block ?_;intros;refine yR [0,5,6] ⟨?_⟩;refine yR [0,5,6,26,27,28] ⟨?_⟩;refine v_block ?_;intros;refine v_loop (fun i=>⟨[(0,.pv [.agg [.int .i64 (Nat.cast m),.sl (ss.map (fun t:TS=>V.agg [V.int .i64 t.1,V.int .i64 t.2.1,V.int .i64 t.2.2]))]] 0 0),(5,.ref 0),(6,.bool (Tm.chg m u (Tm.edges ss) k (2 * i))),(26,.sl (ss.map (fun t:TS=>V.agg [V.int .i64 t.1,V.int .i64 t.2.1,V.int .i64 t.2.2]))),(27,.int .i64 ss.length),(28,.int .i64 (Nat.cast i))],[.arr ((Tm.within m u (Tm.edges ss) k (2 * i)).map (V.int .i64)) .flat],false,83,0⟩) (fun i=>i≤ss.length) (fun i=>ss.length - i) 0 ?_ ?_ ?_
   ·refine weak_bothS [0,5,6,26,27,28] [0] ⟨?_⟩;rfl
   ·exact qlk _
   ·rintro i hok15 Q15 n15 e15 r15;have hi1:i≤ss.length:=hok15;refine yR [0,5,6,26,27,28,29] ⟨?_⟩;refine v_seq ?_;intros;refine v_condS _ rfl ?_ ?_
    ·intro hc1;have hlt:i < ss.length:=by omega
     obtain ⟨⟨x0,x1,x2⟩,hx⟩:∃x:TS,ss[i]? =some x:=⟨ss[i]'(by omega),qla (by omega)⟩;have hso:=strOK_facts (by omega) (hss _ (qlb hx));simp only [] at hso;obtain ⟨a,rfl⟩:=qlf hso.1;obtain ⟨b,rfl⟩:=qlf hso.2.2.1;have hes:=Tm.edges_at hx;simp only [Int.toNat_natCast] at hes;refine zn [0,5,6,26,27,28] ⟨?_⟩;refine v_seq ?_;intros;refine v_block ?_;intros;have F:=Fc.mk (ai (gdm hru) (ai @set_map (gdm hx)));refine yR [0,5,6,8,26,27,28] ⟨?_⟩;refine yR [0,5,6,8,26,27,28,42,43,44] ⟨?_⟩;refine v_block ?_;intros;refine v_loop (fun j=>⟨[(0,.pv [.agg [.int .i64 (Nat.cast m),.sl (ss.map (fun t:TS=>V.agg [V.int .i64 t.1,V.int .i64 t.2.1,V.int .i64 t.2.2]))]] 0 0),(5,.ref 0),(6,.bool (Tm.chg m u (Tm.edges ss) k (2 * i+j))),(8,.ptr 1 0 0),(26,.sl (ss.map (fun t:TS=>V.agg [V.int .i64 t.1,V.int .i64 t.2.1,V.int .i64 t.2.2]))),(27,.int .i64 ss.length),(28,.int .i64 (Nat.cast i)),(42,.ref 2),(43,.int .i64 2),(44,.int .i64 (Nat.cast j))],[.arr ((Tm.within m u (Tm.edges ss) k (2 * i+j)).map (V.int .i64)) .flat,.box (.agg [V.int .i64 (Nat.cast a),V.int .i64 (Nat.cast b),V.int .i64 x2]) .flat,.arr [V.agg [V.int .i64 (Nat.cast a),V.int .i64 (Nat.cast b)],V.agg [V.int .i64 (Nat.cast b),V.int .i64 (Nat.cast a)]] .flat],false,83,0⟩) (fun j=>j≤2) (fun j=>2 - j) 0 ?_ ?_ ?_
     ·refine weak_bothS [0,5,6,8,26,27,28,42,43,44] [0,1,2] ⟨?_⟩;rfl
     ·exact qlk _
     ·rintro j hok24 Q24 n24 e24 r24;have hj1:j≤2:=hok24;refine yR [0,5,6,8,26,27,28,42,43,44,45] ⟨?_⟩;refine v_seq ?_;intros;refine v_condS _ rfl ?_ ?_
      ·intro hc2;have hj:j=0∨j=1:=by omega
       rcases hj with rfl | rfl
       ·skip;have hwf:=Tm.within_facts hum hg hel2 k (2 * i) (by omega);have hwl:=hwf.1;obtain ⟨p,hp⟩:∃p,(Tm.within m u (Tm.edges ss) k (2 * i))[a]? =some p:=⟨_,qla (by rw [hwl];omega)⟩;obtain ⟨q,hq⟩:∃q,(Tm.within m u (Tm.edges ss) k (2 * i))[b]? =some q:=⟨_,qla (by rw [hwl];omega)⟩;have hpb:=hwf.2 a;rw [Tm.at_get hp] at hpb;have hqb:=hwf.2 b;rw [Tm.at_get hq] at hqb;have he:(Tm.edges ss)[2 * i]? =some (a,b,x2):=hes.1;have hst:(Tm.within m u (Tm.edges ss) k (2 * i+1))=Tm.relax (Tm.within m u (Tm.edges ss) k (2 * i)) (a,b,x2):=Tm.within_step he;have hry:=fun h=>Tm.relax_yes hp hq (w:=x2) h
        have hrn:=fun h=>Tm.relax_no hp hq (w:=x2) h
        have hcn:(Tm.chg m u (Tm.edges ss) k (2 * i+1))=((Tm.chg m u (Tm.edges ss) k (2 * i)) || Tm.trig (Tm.within m u (Tm.edges ss) k (2 * i)) (a,b,x2)):=Tm.chg_next he;refine zn [0,5,6,8,26,27,28,42,43,44] ⟨?_⟩;refine v_seq ?_;intros;refine v_block ?_;intros;have F:=Fc.mk (ai (gdm hru) (ai @set_map (ai (gdm hx) (ai hwl (ai (gdm hp) (ai (gdm hq) @set_map))))));refine yR [0,5,6,8,10,26,27,28,42,43,44] ⟨?_⟩;refine v_seq ?_;intro Q31 n31 e31 r31;refine v_draw (by kernel_rfl) ?_;intro K32 q32 k32;show aAny _ _ _ _ 12 (Array.replicate 12 false) _;refine zdMove q32 true 0 48 ?_;refine zdIndexAddr q32 true 1 49 ?_;refine zdLoad q32 true 2 50 ?_;refine zdIndexAddr q32 true 3 51 ?_;refine zdLoad q32 true 4 52 ?_;refine zdMove q32 true 5 53 ?_;refine zdIndexAddr q32 true 6 54 ?_;refine zdLoad q32 true 7 55 ?_;refine zdIndexAddr q32 true 8 56 ?_;refine zdLoad q32 true 9 57 ?_;refine zoAssign 10 ⟨?_⟩;refine zoAssign 11 ⟨?_⟩;refine aAny_done (by kernel_rfl) ?_;refine k32 _ ?_;refine n31 _ _ (weak_keep [0,5,6,8,10,11,12,26,27,28,42,43,44] _) ?_;refine zk ⟨?_⟩;refine yR [0,5,6,8,10,11,26,27,28,42,43,44,71] ⟨?_⟩;refine v_condS _ rfl ?_ ?_
        ·intro hc3;obtain ⟨hty,hre⟩:=hry (by omega);rw [hre] at hst;rw [hty,Bool.or_true] at hcn;refine yR [0,5,8,26,27,28,42,43,44] ⟨?_⟩;refine yQ [0,5,6,8,26,27,28,42,43,44] ⟨?_⟩;refine yV ⟨?_⟩;refine n24 _ 1 ?_ ?_ ?_
         ·refine weak_bothS [0,5,6,8,26,27,28,42,43,44] [0,1,2] ⟨?_⟩;rw [hcn,hst];rfl
         ·omega
         ·show _ < _;omega
        ·intro hc3;obtain ⟨htn,hre⟩:=hrn (by omega);rw [hre] at hst;rw [htn,Bool.or_false] at hcn;refine zn [0,5,6,8,26,27,28,42,43,44] ⟨?_⟩;refine yV ⟨?_⟩;refine n24 _ 1 ?_ ?_ ?_
         ·refine weak_bothS [0,5,6,8,26,27,28,42,43,44] [0,1,2] ⟨?_⟩;rw [hcn,hst];rfl
         ·omega
         ·show _ < _;omega
       ·skip;have hwf:=Tm.within_facts hum hg hel2 k (2 * i+1) (by omega);have hwl:=hwf.1;obtain ⟨p,hp⟩:∃p,(Tm.within m u (Tm.edges ss) k (2 * i+1))[b]? =some p:=⟨_,qla (by rw [hwl];omega)⟩;obtain ⟨q,hq⟩:∃q,(Tm.within m u (Tm.edges ss) k (2 * i+1))[a]? =some q:=⟨_,qla (by rw [hwl];omega)⟩;have hpb:=hwf.2 b;rw [Tm.at_get hp] at hpb;have hqb:=hwf.2 a;rw [Tm.at_get hq] at hqb;have he:(Tm.edges ss)[2 * i+1]? =some (b,a,x2):=hes.2;have hst:(Tm.within m u (Tm.edges ss) k (2 * i+2))=Tm.relax (Tm.within m u (Tm.edges ss) k (2 * i+1)) (b,a,x2):=Tm.within_step he;have hry:=fun h=>Tm.relax_yes hp hq (w:=x2) h
        have hrn:=fun h=>Tm.relax_no hp hq (w:=x2) h
        have hcn:(Tm.chg m u (Tm.edges ss) k (2 * i+2))=((Tm.chg m u (Tm.edges ss) k (2 * i+1)) || Tm.trig (Tm.within m u (Tm.edges ss) k (2 * i+1)) (b,a,x2)):=Tm.chg_next he;refine zn [0,5,6,8,26,27,28,42,43,44] ⟨?_⟩;refine v_seq ?_;intros;refine v_block ?_;intros;have F:=Fc.mk (ai (gdm hru) (ai @set_map (ai (gdm hx) (ai hwl (ai (gdm hp) (ai (gdm hq) @set_map))))));refine yR [0,5,6,8,10,26,27,28,42,43,44] ⟨?_⟩;refine v_seq ?_;intro Q42 n42 e42 r42;refine v_draw (by kernel_rfl) ?_;intro K43 q43 k43;show aAny _ _ _ _ 12 (Array.replicate 12 false) _;refine zdMove q43 true 0 48 ?_;refine zdIndexAddr q43 true 1 49 ?_;refine zdLoad q43 true 2 50 ?_;refine zdIndexAddr q43 true 3 51 ?_;refine zdLoad q43 true 4 52 ?_;refine zdMove q43 true 5 53 ?_;refine zdIndexAddr q43 true 6 54 ?_;refine zdLoad q43 true 7 55 ?_;refine zdIndexAddr q43 true 8 56 ?_;refine zdLoad q43 true 9 57 ?_;refine zoAssign 10 ⟨?_⟩;refine zoAssign 11 ⟨?_⟩;refine aAny_done (by kernel_rfl) ?_;refine k43 _ ?_;refine n42 _ _ (weak_keep [0,5,6,8,10,11,12,26,27,28,42,43,44] _) ?_;refine zk ⟨?_⟩;refine yR [0,5,6,8,10,11,26,27,28,42,43,44,71] ⟨?_⟩;refine v_condS _ rfl ?_ ?_
        ·intro hc3;obtain ⟨hty,hre⟩:=hry (by omega);rw [hre] at hst;rw [hty,Bool.or_true] at hcn;refine yR [0,5,8,26,27,28,42,43,44] ⟨?_⟩;refine yQ [0,5,6,8,26,27,28,42,43,44] ⟨?_⟩;refine yV ⟨?_⟩;refine n24 _ 2 ?_ ?_ ?_
         ·refine weak_bothS [0,5,6,8,26,27,28,42,43,44] [0,1,2] ⟨?_⟩;rw [hcn,hst];rfl
         ·omega
         ·show _ < _;omega
        ·intro hc3;obtain ⟨htn,hre⟩:=hrn (by omega);rw [hre] at hst;rw [htn,Bool.or_false] at hcn;refine zn [0,5,6,8,26,27,28,42,43,44] ⟨?_⟩;refine yV ⟨?_⟩;refine n24 _ 2 ?_ ?_ ?_
         ·refine weak_bothS [0,5,6,8,26,27,28,42,43,44] [0,1,2] ⟨?_⟩;rw [hcn,hst];rfl
         ·omega
         ·show _ < _;omega
      ·intro hc2;refine zn [0,5,6,26,27,28] ⟨?_⟩;refine yV ⟨?_⟩;refine n15 _ (i+1) ?_ ?_ ?_
       ·refine weak_bothS [0,5,6,26,27,28] [0] ⟨?_⟩;rw [show 2 * i+j=2 * (i+1) by omega];rfl
       ·exact hlt
       ·show _ < _;omega
    ·intro hc1;refine zx ⟨?_⟩;refine n7 _ (k+1,(Tm.chg m u (Tm.edges ss) k (Tm.edges ss).length)) ?_ ?_ ?_
     ·refine weak_bothS [0,5,6] [0] ⟨?_⟩;rw [show (Tm.within m u (Tm.edges ss) k (2 * i))=(Tm.within m u (Tm.edges ss) (k+1) 0) from Tm.within_end (by omega),show 2 * i=(Tm.edges ss).length by omega]
     ·exact ⟨by show k+1≤m+1;omega,(Tm.end_of hum hg1 hk).1,(Tm.end_of hum hg1 hk).2⟩
     ·show _ < _;show m+1 - (k+1) < m+1 - k;omega
  ·intro hc0;refine zn [5] ⟨?_⟩;refine yR [4] ⟨?_⟩;refine zr ⟨?_⟩;rw [show (Tm.within m u (Tm.edges ss) k 0)=Tm.times m ss u from hcf hc0];exact ret_ref rfl (.inl rfl)
set_option maxRecDepth 8000 in
theorem toTimes_con (n:Int) (ss:List TS) (node:Int) (hn:1≤n∧n≤14) (hu:0≤node∧node < n) (hss:∀s∈ss,strOK n s=true) (hsl:ss.length≤40):Con Tryz.prog 40 [.agg [.int .i64 n,.sl (ss.map (fun t:TS=>V.agg [V.int .i64 t.1,V.int .i64 t.2.1,V.int .i64 t.2.2]))],.int .i64 node] [] (.ref 0) [.arr ((tmL n ss node).map (V.int .i64)) .flat]:=by
 obtain ⟨m,rfl⟩:=qlf (show 0≤n by omega);obtain ⟨u,rfl⟩:=qlf hu.1;have hum:u < m:=by omega
 have hm1:1≤m∧m≤14:=by omega
 have hg:=edges_good hm1 hss;have hg1:∀e∈Tm.edges ss,Tm.Good m e:=fun e he=>(hg e he).1
 have hel:=Tm.edges_len ss;have hel2:(Tm.edges ss).length≤80:=by omega
 rw [show tmL (m:Int) ss (u:Int)=Tm.times m ss u from rfl];have hru:(List.replicate m (-1:Int))[u]? =some (-1):=by rw [List.getElem?_replicate,if_pos hum]
 have hfz:=fillI_zero m;refine v_con [.tmp 4] [] Tryz.func40 rfl rfl rfl (by simp [Tryz.ntmps40]) ?_;intro Q0 n0 r0;simp only [Tryz.ntmps40,envFrom,Nat.reduceAdd];have T:=Tys.mk (ai Ty.t3 (ai Ty.t24 (ai Ty.t26 (ai Ty.t28 (ai Ty.t98 Ty.t102)))));have F:=Fc.mk True.intro;have F:=Fc.mk (ai (gdm hru) @set_map);refine yR [1,2] ⟨?_⟩;refine yR [1,2,5] ⟨?_⟩;refine v_seq ?_;intros;refine yR [1,2,5,18,19] ⟨?_⟩;refine v_block ?_;intros;refine v_loop (fun i=>⟨[(1,.int .i64 (Nat.cast u)),(2,.ptr 0 0 0),(5,.ref 1),(18,.int .i64 (Nat.cast m)),(19,.int .i64 (Nat.cast i))],[.box (.agg [.int .i64 (Nat.cast m),.sl (ss.map (fun t:TS=>V.agg [V.int .i64 t.1,V.int .i64 t.2.1,V.int .i64 t.2.2]))]) .shal,.arr ((fillI m i).map (V.int .i64)) .flat],false,97,0⟩) (fun i=>i≤m) (fun i=>m - i) 0 ?_ ?_ ?_
 ·refine weak_bothS [1,2,5,18,19] [0,2] ⟨?_⟩;first | (rw [hfz];rfl) | (simp [hfz];done) | trace_state
 ·exact qlk _
 ·rintro i hok6 Q6 n6 e6 r6;have hi1:i≤m:=hok6;refine yR [1,2,5,18,19,20] ⟨?_⟩;refine v_seq ?_;intros;refine v_condS _ rfl ?_ ?_
  ·intro hc0;have hfl:=fillI_len hi1;have hlt:i < m:=by omega
   have hfs:=fillI_set hlt;obtain ⟨w,hw⟩:∃w,(fillI m i)[i]? =some w:=⟨_,qla (by rw [hfl];omega)⟩;refine zn [1,2,5,18,19] ⟨?_⟩;refine v_seq ?_;intros;refine v_block ?_;intros;have F:=Fc.mk (ai (gdm hru) (ai @set_map (ai hfl (ai (gdm hw) hfs))));refine yR [1,2,5,6,18,19] ⟨?_⟩;refine yQ [1,2,5,18,19] ⟨?_⟩;refine yV ⟨?_⟩;refine n6 _ (i+1) ?_ ?_ ?_
   ·refine weak_bothS [1,2,5,18,19] [0,1] ⟨?_⟩;rfl
   ·exact hlt
   ·show _ < _;omega
  ·intro hc0;have hend:=fillI_end (show i=m by omega);refine zn [1,2,5] ⟨?_⟩;have F:=Fc.mk (ai (gdm hru) (ai @set_map hend));refine yR [2,5] ⟨?_⟩;refine v_seq ?_;intros;refine yR [2,5,7] ⟨?_⟩;refine v_block ?_;intros;refine v_loop (fun k=>⟨[(2,.ptr 0 0 0),(5,.ref 1),(7,.int .i64 (Nat.cast k))],[.box (.agg [.int .i64 (Nat.cast m),.sl (ss.map (fun t:TS=>V.agg [V.int .i64 t.1,V.int .i64 t.2.1,V.int .i64 t.2.2]))]) .shal,.arr ((Tm.within m u (Tm.edges ss) k 0).map (V.int .i64)) .flat],false,97,0⟩) (fun k=>k≤m) (fun k=>m - k) 0 ?_ ?_ ?_
   ·refine weak_bothS [2,5,7] [0,1] ⟨?_⟩;rfl
   ·exact qlk _
   ·rintro k hok19 Q19 n19 e19 r19;have hk1:k≤m:=hok19;refine v_seq ?_;intros;refine yR [2,5,7,32] ⟨?_⟩;refine v_condS _ rfl ?_ ?_
    ·intro hc1;have hk:k < m:=by omega
     refine zn [2,5,7] ⟨?_⟩;refine v_seq ?_;intros;refine v_block ?_;intros;refine yR [2,5,7,36,37,38] ⟨?_⟩;refine v_block ?_;intros;refine v_loop (fun i=>⟨[(2,.ptr 0 0 0),(5,.ref 1),(7,.int .i64 (Nat.cast k)),(36,.sl (ss.map (fun t:TS=>V.agg [V.int .i64 t.1,V.int .i64 t.2.1,V.int .i64 t.2.2]))),(37,.int .i64 ss.length),(38,.int .i64 (Nat.cast i))],[.box (.agg [.int .i64 (Nat.cast m),.sl (ss.map (fun t:TS=>V.agg [V.int .i64 t.1,V.int .i64 t.2.1,V.int .i64 t.2.2]))]) .shal,.arr ((Tm.within m u (Tm.edges ss) k (2 * i)).map (V.int .i64)) .flat],false,97,0⟩) (fun i=>i≤ss.length) (fun i=>ss.length - i) 0 ?_ ?_ ?_
     ·refine weak_bothS [2,5,7,36,37,38] [0,1] ⟨?_⟩;rfl
     ·exact qlk _
     ·rintro i hok27 Q27 n27 e27 r27;have hi1:i≤ss.length:=hok27;refine yR [2,5,7,36,37,38,39] ⟨?_⟩;refine v_seq ?_;intros;refine v_condS _ rfl ?_ ?_
      ·intro hc2;have hlt:i < ss.length:=by omega
       obtain ⟨⟨x0,x1,x2⟩,hx⟩:∃x:TS,ss[i]? =some x:=⟨ss[i]'(by omega),qla (by omega)⟩;have hso:=strOK_facts (by omega) (hss _ (qlb hx));simp only [] at hso;obtain ⟨a,rfl⟩:=qlf hso.1;obtain ⟨b,rfl⟩:=qlf hso.2.2.1;have hes:=Tm.edges_at hx;simp only [Int.toNat_natCast] at hes;refine zn [2,5,7,36,37,38] ⟨?_⟩;refine v_seq ?_;intros;refine v_block ?_;intros;have F:=Fc.mk (ai (gdm hru) (ai @set_map (ai hend (gdm hx))));refine yR [2,5,7,9,36,37,38] ⟨?_⟩;refine yR [2,5,7,9,36,37,38,52,53,54] ⟨?_⟩;refine v_block ?_;intros;refine v_loop (fun j=>⟨[(2,.ptr 0 0 0),(5,.ref 1),(7,.int .i64 (Nat.cast k)),(9,.ptr 2 0 0),(36,.sl (ss.map (fun t:TS=>V.agg [V.int .i64 t.1,V.int .i64 t.2.1,V.int .i64 t.2.2]))),(37,.int .i64 ss.length),(38,.int .i64 (Nat.cast i)),(52,.ref 5),(53,.int .i64 2),(54,.int .i64 (Nat.cast j))],[.box (.agg [.int .i64 (Nat.cast m),.sl (ss.map (fun t:TS=>V.agg [V.int .i64 t.1,V.int .i64 t.2.1,V.int .i64 t.2.2]))]) .shal,.arr ((Tm.within m u (Tm.edges ss) k (2 * i+j)).map (V.int .i64)) .flat,.box (.agg [V.int .i64 (Nat.cast a),V.int .i64 (Nat.cast b),V.int .i64 x2]) .flat,.arr [V.int .i64 (Nat.cast a),V.int .i64 (Nat.cast b)] .flat,.arr [V.int .i64 (Nat.cast b),V.int .i64 (Nat.cast a)] .flat,.arr [V.ref 3,V.ref 4] .mix],false,97,0⟩) (fun j=>j≤2) (fun j=>2 - j) 0 ?_ ?_ ?_
       ·refine weak_of [2,5,7,9,36,37,38,52,53,54] ?_;simp only [keep_mk,keepE_nil,keepE_cons,look_cons,look_nil,Nat.reduceEqDiff,reduceIte];rfl
       ·exact qlk _
       ·rintro j hok36 Q36 n36 e36 r36;have hj1:j≤2:=hok36;refine yR [2,5,7,9,36,37,38,52,53,54,55] ⟨?_⟩;refine v_seq ?_;intros;refine v_condS _ rfl ?_ ?_
        ·intro hc3;have hj:j=0∨j=1:=by omega
         rcases hj with rfl | rfl
         ·skip;have hwf:=Tm.within_facts hum hg hel2 k (2 * i) (by omega);have hwl:=hwf.1;obtain ⟨p,hp⟩:∃p,(Tm.within m u (Tm.edges ss) k (2 * i))[a]? =some p:=⟨_,qla (by rw [hwl];omega)⟩;obtain ⟨q,hq⟩:∃q,(Tm.within m u (Tm.edges ss) k (2 * i))[b]? =some q:=⟨_,qla (by rw [hwl];omega)⟩;have hpb:=hwf.2 a;rw [Tm.at_get hp] at hpb;have hqb:=hwf.2 b;rw [Tm.at_get hq] at hqb;have he:(Tm.edges ss)[2 * i]? =some (a,b,x2):=hes.1;have hst:(Tm.within m u (Tm.edges ss) k (2 * i+1))=Tm.relax (Tm.within m u (Tm.edges ss) k (2 * i)) (a,b,x2):=Tm.within_step he;have hry:=fun h=>Tm.relax_yes hp hq (w:=x2) h
          have hrn:=fun h=>Tm.relax_no hp hq (w:=x2) h
          refine zn [2,5,7,9,36,37,38,52,53,54] ⟨?_⟩;refine v_seq ?_;intros;refine v_block ?_;intros;have F:=Fc.mk (ai (gdm hru) (ai @set_map (ai hend (ai (gdm hx) (ai hwl (ai (gdm hp) (ai (gdm hq) @set_map)))))));refine yR [2,5,7,9,11,36,37,38,52,53,54] ⟨?_⟩;refine v_seq ?_;intro Q43 n43 e43 r43;refine v_draw (by kernel_rfl) ?_;intro K44 q44 k44;show aAny _ _ _ _ 11 (Array.replicate 11 false) _;refine zdMove q44 true 0 58 ?_;refine zdMove q44 true 1 59 ?_;refine zdIndexAddr q44 true 2 60 ?_;refine zdLoad q44 true 3 61 ?_;refine zdIndexAddr q44 true 4 62 ?_;refine zdLoad q44 true 5 63 ?_;refine zdMove q44 true 6 64 ?_;refine zdIndexAddr q44 true 7 65 ?_;refine zdLoad q44 true 8 66 ?_;refine zoAssign 9 ⟨?_⟩;refine zoAssign 10 ⟨?_⟩;refine aAny_done (by kernel_rfl) ?_;refine k44 _ ?_;refine n43 _ _ (weak_keep [2,5,7,9,12,13,36,37,38,52,53,54] _) ?_;refine zk ⟨?_⟩;refine v_seq ?_;intro Q45 n45 e45 r45;refine v_draw (by kernel_rfl) ?_;intro K46 q46 k46;show aAny _ _ _ _ 20 (Array.replicate 20 false) _;refine zdMove q46 true 0 67 ?_;refine zdBinOp q46 true 1 68 ?_;refine zdMove q46 true 2 69 ?_;refine zdgMove q46 true 3 70 ?_;refine zdgMove q46 true 4 71 ?_;refine zdgIndexAddr q46 true 5 72 ?_;refine zdgLoad q46 true 6 73 ?_;refine zdgBinOp q46 true 7 74 ?_;refine zdgMove q46 true 8 75 ?_;refine zdgMove q46 true 9 76 ?_;refine zdgFieldAddr q46 true 10 77 ?_;refine zdgLoad q46 true 11 78 ?_;refine zdgBinOpW q46 true 12 79 ?_;refine zdgMove q46 true 13 80 ?_;refine zdgMove q46 true 14 81 ?_;refine zdgIndexAddr q46 true 15 82 ?_;refine zdgLoad q46 true 16 83 ?_;refine zdgBinOp q46 true 17 84 ?_;refine zdgPick q46 true 18 85 ?_;refine zdPick q46 true 19 86 ?_;refine aAny_done (by kernel_rfl) ?_;refine k46 _ ?_;refine n45 _ _ (weak_keep [2,5,7,9,12,13,36,37,38,52,53,54,86] _) ?_;refine zk ⟨?_⟩;refine v_condS _ rfl ?_ ?_
          ·intro hc4;obtain ⟨hty,hre⟩:=hry (by omega);rw [hre] at hst;refine yQ [2,5,7,9,36,37,38,52,53,54] ⟨?_⟩;refine yV ⟨?_⟩;refine n36 _ 1 ?_ ?_ ?_
           ·refine weak_of [2,5,7,9,36,37,38,52,53,54] ?_;simp only [keep_mk,keepE_nil,keepE_cons,look_cons,look_nil,Nat.reduceEqDiff,reduceIte];rw [hst];rfl
           ·omega
           ·show _ < _;omega
          ·intro hc4;obtain ⟨htn,hre⟩:=hrn (by omega);rw [hre] at hst;refine zn [2,5,7,9,36,37,38,52,53,54] ⟨?_⟩;refine yV ⟨?_⟩;refine n36 _ 1 ?_ ?_ ?_
           ·refine weak_of [2,5,7,9,36,37,38,52,53,54] ?_;simp only [keep_mk,keepE_nil,keepE_cons,look_cons,look_nil,Nat.reduceEqDiff,reduceIte];rw [hst];rfl
           ·omega
           ·show _ < _;omega
         ·skip;have hwf:=Tm.within_facts hum hg hel2 k (2 * i+1) (by omega);have hwl:=hwf.1;obtain ⟨p,hp⟩:∃p,(Tm.within m u (Tm.edges ss) k (2 * i+1))[b]? =some p:=⟨_,qla (by rw [hwl];omega)⟩;obtain ⟨q,hq⟩:∃q,(Tm.within m u (Tm.edges ss) k (2 * i+1))[a]? =some q:=⟨_,qla (by rw [hwl];omega)⟩;have hpb:=hwf.2 b;rw [Tm.at_get hp] at hpb;have hqb:=hwf.2 a;rw [Tm.at_get hq] at hqb;have he:(Tm.edges ss)[2 * i+1]? =some (b,a,x2):=hes.2;have hst:(Tm.within m u (Tm.edges ss) k (2 * i+2))=Tm.relax (Tm.within m u (Tm.edges ss) k (2 * i+1)) (b,a,x2):=Tm.within_step he;have hry:=fun h=>Tm.relax_yes hp hq (w:=x2) h
          have hrn:=fun h=>Tm.relax_no hp hq (w:=x2) h
          refine zn [2,5,7,9,36,37,38,52,53,54] ⟨?_⟩;refine v_seq ?_;intros;refine v_block ?_;intros;have F:=Fc.mk (ai (gdm hru) (ai @set_map (ai hend (ai (gdm hx) (ai hwl (ai (gdm hp) (ai (gdm hq) @set_map)))))));refine yR [2,5,7,9,11,36,37,38,52,53,54] ⟨?_⟩;refine v_seq ?_;intro Q54 n54 e54 r54;refine v_draw (by kernel_rfl) ?_;intro K55 q55 k55;show aAny _ _ _ _ 11 (Array.replicate 11 false) _;refine zdMove q55 true 0 58 ?_;refine zdMove q55 true 1 59 ?_;refine zdIndexAddr q55 true 2 60 ?_;refine zdLoad q55 true 3 61 ?_;refine zdIndexAddr q55 true 4 62 ?_;refine zdLoad q55 true 5 63 ?_;refine zdMove q55 true 6 64 ?_;refine zdIndexAddr q55 true 7 65 ?_;refine zdLoad q55 true 8 66 ?_;refine zoAssign 9 ⟨?_⟩;refine zoAssign 10 ⟨?_⟩;refine aAny_done (by kernel_rfl) ?_;refine k55 _ ?_;refine n54 _ _ (weak_keep [2,5,7,9,12,13,36,37,38,52,53,54] _) ?_;refine zk ⟨?_⟩;refine v_seq ?_;intro Q56 n56 e56 r56;refine v_draw (by kernel_rfl) ?_;intro K57 q57 k57;show aAny _ _ _ _ 20 (Array.replicate 20 false) _;refine zdMove q57 true 0 67 ?_;refine zdBinOp q57 true 1 68 ?_;refine zdMove q57 true 2 69 ?_;refine zdgMove q57 true 3 70 ?_;refine zdgMove q57 true 4 71 ?_;refine zdgIndexAddr q57 true 5 72 ?_;refine zdgLoad q57 true 6 73 ?_;refine zdgBinOp q57 true 7 74 ?_;refine zdgMove q57 true 8 75 ?_;refine zdgMove q57 true 9 76 ?_;refine zdgFieldAddr q57 true 10 77 ?_;refine zdgLoad q57 true 11 78 ?_;refine zdgBinOpW q57 true 12 79 ?_;refine zdgMove q57 true 13 80 ?_;refine zdgMove q57 true 14 81 ?_;refine zdgIndexAddr q57 true 15 82 ?_;refine zdgLoad q57 true 16 83 ?_;refine zdgBinOp q57 true 17 84 ?_;refine zdgPick q57 true 18 85 ?_;refine zdPick q57 true 19 86 ?_;refine aAny_done (by kernel_rfl) ?_;refine k57 _ ?_;refine n56 _ _ (weak_keep [2,5,7,9,12,13,36,37,38,52,53,54,86] _) ?_;refine zk ⟨?_⟩;refine v_condS _ rfl ?_ ?_
          ·intro hc4;obtain ⟨hty,hre⟩:=hry (by omega);rw [hre] at hst;refine yQ [2,5,7,9,36,37,38,52,53,54] ⟨?_⟩;refine yV ⟨?_⟩;refine n36 _ 2 ?_ ?_ ?_
           ·refine weak_of [2,5,7,9,36,37,38,52,53,54] ?_;simp only [keep_mk,keepE_nil,keepE_cons,look_cons,look_nil,Nat.reduceEqDiff,reduceIte];rw [hst];rfl
           ·omega
           ·show _ < _;omega
          ·intro hc4;obtain ⟨htn,hre⟩:=hrn (by omega);rw [hre] at hst;refine zn [2,5,7,9,36,37,38,52,53,54] ⟨?_⟩;refine yV ⟨?_⟩;refine n36 _ 2 ?_ ?_ ?_
           ·refine weak_of [2,5,7,9,36,37,38,52,53,54] ?_;simp only [keep_mk,keepE_nil,keepE_cons,look_cons,look_nil,Nat.reduceEqDiff,reduceIte];rw [hst];rfl
           ·omega
           ·show _ < _;omega
        ·intro hc3;refine zn [2,5,7,36,37,38] ⟨?_⟩;refine yV ⟨?_⟩;refine n27 _ (i+1) ?_ ?_ ?_
         ·refine weak_bothS [2,5,7,36,37,38] [0,1] ⟨?_⟩;rw [show 2 * i+j=2 * (i+1) by omega];rfl
         ·exact hlt
         ·show _ < _;omega
      ·intro hc2;refine zn [2,5,7] ⟨?_⟩;refine yV ⟨?_⟩;refine n19 _ (k+1) ?_ ?_ ?_
       ·refine weak_bothS [2,5,7] [0,1] ⟨?_⟩;rw [show (Tm.within m u (Tm.edges ss) k (2 * i))=(Tm.within m u (Tm.edges ss) (k+1) 0) from Tm.within_end (by omega)];rfl
       ·exact hk
       ·show _ < _;omega
    ·intro hc1;refine zn [5] ⟨?_⟩;refine yR [4] ⟨?_⟩;refine zr ⟨?_⟩;have hend2:k=m:=by omega
     subst hend2;exact ret_ref rfl (.inl rfl)
end Go.Proofs.YtmhaafinhpopmaaGreat
