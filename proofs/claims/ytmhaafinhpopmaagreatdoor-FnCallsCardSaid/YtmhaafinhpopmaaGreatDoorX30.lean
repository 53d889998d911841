/- What functions compute. No condition. -/
import Derived.Test.YtmhaafinhpopmaaGreatDoorX12
import Derived.Test.YtmhaafinhpopmaaGreatDoorX23
import Derived.Test.YtmhaafinhpopmaaGreatDoorX29
import Derived.Test.YtmhaafinhpopmaaGreatDoorX6
import Derived.Test.YtmhaafinhpopmaaGreatDoorX26
set_option linter.unusedSimpArgs false
set_option linter.unusedVariables false
set_option linter.defProp false
namespace Go.Proofs.YtmhaafinhpopmaaGreatDoor
open Go Go.Vm
set_option maxHeartbeats 8000000
theorem drawParseCalls_con (code:List Int) (hcode:∀x∈code,0≤x∧x≤255) (hcl:code.length≤9223372036854775807):ConX Tryz.prog 25 [.sl (code.map (V.int .u8))] [] (fun r O'=>∃(v:ByteArray),(v.size≤700)∧r=.str v∧O'=[]):=by
 refine v_conX [.tmp 2] [(46,[0]),(56,[0]),(47,[0]),(48,[0,1]),(62,[0]),(105,[0]),(69,[0,1]),(68,[0])] Tryz.func25 rfl rfl rfl (by simp [Tryz.ntmps25]) ?_;intro Q0 n0 r0;simp only [Tryz.ntmps25,envFrom,Nat.reduceAdd];have T:=Tys.mk (ai Ty.t3 (ai Ty.t4 (ai Ty.t5 (ai Ty.t9 (ai Ty.t22 (ai Ty.t24 (ai Ty.t26 (ai Ty.t59 (ai Ty.t83 (ai Ty.t84 Ty.t86))))))))));have F:=Fc.mk True.intro;refine yR [0] ⟨?_⟩;refine yR [3] ⟨?_⟩;refine v_seqR [3,4] ?_;intro K3 k3;refine zMove ⟨?_⟩;refine zxl (drawCalls_con code 0 0 hcode hcl (by omega)) ⟨?_⟩;rintro _ _ ⟨v10,a10,s10,h10,k10,rfl,rfl⟩;refine zq5 ⟨?_⟩;refine k3 _ ?_;refine zk ⟨?_⟩;refine yR [3,4,5] ⟨?_⟩;refine v_join (A:=ByteArray×Int×Int) (fun p=>⟨[(3,.ptr 0 0 0),(5,.str p.1)],[.box (.agg [.sl (code.map (V.int .u8)),.int .i64 p.2.1,.int .u64 p.2.2]) .shal],false,29,0⟩) (fun p=>p.1.size≤660∧0≤p.2.1∧p.2.1≤3000) ?_ ?_
 ·intro Q5 n5 e5 r5;refine yRc [3,4,5,12] (clGood_con v10 (by omega)) ⟨?_⟩;refine v_condS _ rfl ?_ ?_
  ·intro hc0;have hb:csB v10=true:=hc0;have hcz:=ctTo_size (cs_each hb) v10.length;have hc20:=cs_len hb;refine yVc (clText_con v10 hb) ⟨?_⟩;refine n5 (ctx v10,a10,s10) _ ?_ ?_
   ·exact ⟨by show (ctx v10).size≤660;rw [ctx];omega,by show 0≤a10;omega,by show a10≤3000;omega⟩
   ·refine weak_both [3,5] [0] (by decide) (by simp) ?_ ?_ ?_
    ·simp [keep_mk,keepE_nil,keepE_cons,look_cons,V.only,V.onlyL,idx]<;>(first | rfl | decide)
    ·simp [Blk.kindIs,fillK_mix,thK_mix]
    simp only [keep_mk,keepE_nil,keepE_cons,look_cons,look_nil,Nat.reduceEqDiff,reduceIte,St.comp,List.map_cons,List.map_nil,V.ren,V.renL,idx,List.getD_cons_zero,List.getD_cons_succ,Nat.reduceBEq,cond_true,cond_false,Option.map_some,Option.getD_some,Nat.reduceAdd,Nat.beq_eq_true_eq];all_goals rfl
  ·intro hc0;refine v_skip ?_;refine n5 ((⟨#[53,44,49,48,48,44,49,48,48,44,49,44,55,59]⟩:ByteArray),a10,s10) _ ?_ ?_
   ·exact ⟨by show ((⟨#[53,44,49,48,48,44,49,48,48,44,49,44,55,59]⟩:ByteArray)).size≤660;decide,by show 0≤a10;omega,by show a10≤3000;omega⟩
   ·refine weak_both [3,5] [0] (by decide) (by simp) ?_ ?_ ?_
    ·simp [keep_mk,keepE_nil,keepE_cons,look_cons,V.only,V.onlyL,idx]<;>(first | rfl | decide)
    ·simp [Blk.kindIs,fillK_mix,thK_mix]
    simp only [keep_mk,keepE_nil,keepE_cons,look_cons,look_nil,Nat.reduceEqDiff,reduceIte,St.comp,List.map_cons,List.map_nil,V.ren,V.renL,idx,List.getD_cons_zero,List.getD_cons_succ,Nat.reduceBEq,cond_true,cond_false,Option.map_some,Option.getD_some,Nat.reduceAdd,Nat.beq_eq_true_eq];all_goals rfl
 ·rintro ⟨st,a1,s1⟩ hok5;obtain ⟨hst,ha1,ha2⟩:=hok5;simp only [] at hst ha1 ha2⊢;refine v_seq ?_;intros;refine v_seqR [3,5,16] ?_;intro K10 k10;have F:=Fc.mk True.intro;refine zMove ⟨?_⟩;refine zxl (pick_con code a1 s1 (6) hcode hcl (by omega)) ⟨?_⟩;rintro _ _ ⟨v16,a16,s16,h16,k16,rfl,rfl⟩;refine zEl ⟨?_⟩;refine k10 _ ?_;refine zk ⟨?_⟩;refine v_block ?_;intros;refine v_seq ?_;intros;refine yR [3,5,16,17] ⟨?_⟩;refine v_condS _ rfl ?_ ?_
  ·intro hc1;refine zn [3,5,16,17] ⟨?_⟩;refine v_condS _ rfl ?_ ?_
   ·intro hc2;refine v_seqR [2] ?_;intro K16 k16;refine zq2 ⟨?_⟩;refine zxl (spoilt_con code a16 s16 st (⟨#[44,59,48,49,57]⟩:ByteArray) (by omega) (by decide) hcode hcl (by omega)) ⟨?_⟩;rintro _ _ ⟨v22,a22,s22,h22,k22,rfl,rfl⟩;refine zq5 ⟨?_⟩;refine k16 _ ?_;refine zq1 ⟨?_⟩;refine ret_viewX ?_;exact ⟨v22,by omega,rfl,rfl⟩
   ·intro hc2;refine yR [3,5,23] ⟨?_⟩;refine v_condS _ rfl ?_ ?_
    ·intro hc3;refine v_seqR [2] ?_;intro K19 k19;refine zq3 ⟨?_⟩;refine zxt (of_con code a16 s16 [.empty,(⟨#[59]⟩:ByteArray),(⟨#[53,44,49,48,48,44,49,48,48,44,49,44,55]⟩:ByteArray),(⟨#[53,44,49,48,48,44,49,48,48,44,49,59]⟩:ByteArray),(⟨#[48,53,44,49,48,48,44,49,48,48,44,49,44,55,59]⟩:ByteArray),(⟨#[54,44,48,44,48,44,49,44,55,59,53,44,48,44,48,44,49,44,55,59]⟩:ByteArray),(⟨#[53,44,49,48,48,44,49,48,48,44,54,44,55,59]⟩:ByteArray)] (by simp) hcode hcl (by omega)) ⟨?_⟩;rintro _ _ ⟨v27,a27,s27,h27,k27,rfl,rfl⟩;have hz27:v27.size≤30:=by
      simp only [List.mem_cons,List.not_mem_nil,or_false] at h27;rcases h27 with e | e | e | e | e | e | e<;>(rw [e];decide)
     refine zEt ⟨?_⟩;refine zAssign ⟨?_⟩;refine k19 _ ?_;refine zq1 ⟨?_⟩;refine ret_viewX ?_;exact ⟨v27,by omega,rfl,rfl⟩
    ·intro hc3;refine zn [5] ⟨?_⟩;refine yR [2] ⟨?_⟩;refine zr ⟨?_⟩;refine ret_viewX ?_;exact ⟨st,by omega,rfl,rfl⟩
  ·intro hc1;refine yQ [3,5,16,17] ⟨?_⟩;refine v_condS _ rfl ?_ ?_
   ·intro hc4;refine v_seqR [2] ?_;intro K23 k23;refine zq2 ⟨?_⟩;refine zxl (spoilt_con code a16 s16 st (⟨#[44,59,48,49,57]⟩:ByteArray) (by omega) (by decide) hcode hcl (by omega)) ⟨?_⟩;rintro _ _ ⟨v22,a22,s22,h22,k22,rfl,rfl⟩;refine zq5 ⟨?_⟩;refine k23 _ ?_;refine zq1 ⟨?_⟩;refine ret_viewX ?_;exact ⟨v22,by omega,rfl,rfl⟩
   ·intro hc4;refine yR [3,5,23] ⟨?_⟩;refine v_condS _ rfl ?_ ?_
    ·intro hc5;refine v_seqR [2] ?_;intro K26 k26;refine zq3 ⟨?_⟩;refine zxt (of_con code a16 s16 [.empty,(⟨#[59]⟩:ByteArray),(⟨#[53,44,49,48,48,44,49,48,48,44,49,44,55]⟩:ByteArray),(⟨#[53,44,49,48,48,44,49,48,48,44,49,59]⟩:ByteArray),(⟨#[48,53,44,49,48,48,44,49,48,48,44,49,44,55,59]⟩:ByteArray),(⟨#[54,44,48,44,48,44,49,44,55,59,53,44,48,44,48,44,49,44,55,59]⟩:ByteArray),(⟨#[53,44,49,48,48,44,49,48,48,44,54,44,55,59]⟩:ByteArray)] (by simp) hcode hcl (by omega)) ⟨?_⟩;rintro _ _ ⟨v27,a27,s27,h27,k27,rfl,rfl⟩;have hz27:v27.size≤30:=by
      simp only [List.mem_cons,List.not_mem_nil,or_false] at h27;rcases h27 with e | e | e | e | e | e | e<;>(rw [e];decide)
     refine zEt ⟨?_⟩;refine zAssign ⟨?_⟩;refine k26 _ ?_;refine zq1 ⟨?_⟩;refine ret_viewX ?_;exact ⟨v27,by omega,rfl,rfl⟩
    ·intro hc5;refine zn [5] ⟨?_⟩;refine yR [2] ⟨?_⟩;refine zr ⟨?_⟩;refine ret_viewX ?_;exact ⟨st,by omega,rfl,rfl⟩
theorem chain_ins {α:Type} {ok:α→Bool} {bf:α→α→Bool} {c:α} (hc:ok c=true):∀{A B:List α} {p:Option α},chainFrom ok bf p (A++B)=true→(∀y,(A.getLast?.or p)=some y→bf y c=true)→(∀y,B.head? =some y→bf c y=true)→chainFrom ok bf p (A++c::B)=true
  | [], B,p,h,h1,h2=>by
    have ht:chainFrom ok bf (some c) B=true:=by
      cases B with
      | nil=>rfl
      | cons y B=>
        have hb:=h2 y rfl;cases p<;>simp [chainFrom] at h⊢<;>simp [h,hb]
    cases p with
    | none=>simp [chainFrom,hc,ht]
    | some q=>simp [chainFrom,hc,ht,h1 q rfl]
  | a ::A,B,p,h,h1,h2=>by
    have hr:chainFrom ok bf (some a) (A++B)=true:=by cases p<;>simp [chainFrom] at h<;>simp [h]
    have ih:=chain_ins hc (A:=A) (B:=B) (p:=some a) hr (fun y hy=>h1 y (by
      cases A with
      | nil=>simpa using hy
      | cons b A=>
        obtain ⟨z,e⟩:∃z,(b::A).getLast? =some z:=⟨_,List.getLast?_eq_some_getLast (by simp)⟩;rw [e] at hy;rw [List.getLast?_cons_cons,e];exact hy)) h2
    cases p<;>simp [chainFrom] at h⊢<;>simp [h,ih]
theorem add_good {l:List (Int×Int×Int×Int×Int)} {c:(Int×Int×Int×Int×Int)} (h:adB l c=true):csB (addL l c)=true:=by
  rw [adB,qlc,qlc,Bool.not_eq_true',decide_eq_false_iff_not] at h;obtain ⟨⟨h1,h2⟩,h3⟩:=h;have hl:=cs_len h1;have hle:=insC_le l c;have hsp:=insAtC_spec l c.1 l.length (qlf _);have hch:chainAt cOne cBefore l 0=true:=by
    rw [csB,qlc] at h1;exact h1.1
  have hf:chainFrom cOne cBefore none (l.take (insC l c)++l.drop (insC l c))=true:=by
    rw [List.take_append_drop];simpa [chainAt] using hch
  have hi : chainFrom cOne cBefore none (addL l c)=true:=by
    rw [addL];refine chain_ins h2 hf (fun y hy=> ?_) (fun y hy=> ?_)
    · rw [Option.or_none,List.getLast?_eq_getElem?,qlk] at hy
      rcases hsp.2 with e | ⟨z,hz,hzc⟩
      · have e2:insC l c=0:=e
        rw [e2] at hy;simp at hy
      · have e2:insAtC l c.1 l.length=insC l c:=rfl
        rw [e2] at hz;rw [show min (insC l c) l.length=insC l c by omega,List.getElem?_take] at hy;split at hy
        · rw [hz] at hy
          cases hy;rw [cBefore,decide_eq_true_eq];exact hzc
        · cases hy
    · rw [List.head?_drop] at hy
      have hlt:=(qlt.1 hy).1;have:=hsp.1 (insC l c) y (qlf _) hlt hy;rw [cBefore,decide_eq_true_eq];omega
  rw [csB,qlc,decide_eq_true_eq,addL_len];exact ⟨by simpa [chainAt] using hi,by omega⟩
theorem adR_yes {l:List (Int×Int×Int×Int×Int)} {c:(Int×Int×Int×Int×Int)} (h:adB l c=true):adR l c=addL l c:=if_pos h
theorem adR_len (l:List (Int×Int×Int×Int×Int)) (c:(Int×Int×Int×Int×Int)):(adR l c).length≤l.length+1:=by
  rw [adR];split
  · rw [addL_len];exact qlf _
  · exact qlo _
theorem rpR_len (l:List (Int×Int×Int×Int×Int)) (w:Int):(rpR l w).length≤l.length:=by
  rw [rpR];split
  · exact rpTo_len _ _ _
  · exact qlo _
theorem rpR_has {l:List (Int×Int×Int×Int×Int)} {w:Int} {i:Nat} {x:(Int×Int×Int×Int×Int)} (h:rpB l w=true) (hx:l[i]? =some x):decide ((i:Int)∈rpR l w)=(l.take i).any (befB w x):=by
  have hi:=(qlt.1 hx).1;rw [rpR,if_pos h,←rpAt_at hx,Bool.eq_iff_iff,decide_eq_true_eq,rpTo_mem hi]
theorem bwV_facts {l:List (Int×Int×Int×Int×Int)} {n:Int} (h:bwB l n=true):1≤(bwV l n).2∧(bwV l n).2≤l.length:=by
  have h2:=h;rw [bwB,qlc,qlc,qlc,decide_eq_true_eq,decide_eq_true_eq,decide_eq_true_eq] at h2;rw [bwV,if_pos h];exact ⟨bwTo_pos h2.1.2.1 h2.2 (qlf _),bwTo_le _ _ _⟩
theorem cells_call (x c:(Int×Int×Int×Int×Int)):cellsEq [.int .i64 x.1,.int .i64 x.2.1,.int .i64 x.2.2.1,.int .i64 x.2.2.2.1,.int .i64 x.2.2.2.2] [.int .i64 c.1,.int .i64 c.2.1,.int .i64 c.2.2.1,.int .i64 c.2.2.2.1,.int .i64 c.2.2.2.2]=decide (x=c):=by
  obtain ⟨x0,x1,x2,x3,x4⟩:=x;obtain ⟨c0,c1,c2,c3,c4⟩:=c;simp [cellsEq,cellEq,Prod.mk.injEq,Bool.decide_and]
theorem take_has {A:List (Int×Int×Int×Int×Int)} {i:Nat} {x c:(Int×Int×Int×Int×Int)} (h:A[i]? =some x):decide (c∈A.take (i+1))=(decide (c∈A.take i) || decide (x=c)):=by
  rw [List.take_add_one,h,Option.toList_some,Bool.eq_iff_iff,Bool.or_eq_true,decide_eq_true_eq,decide_eq_true_eq,decide_eq_true_eq,qlh,qlq];exact ⟨fun h=>h.imp id fun e=>e.symm,fun h=>h.imp id fun e=>e.symm⟩
end Go.Proofs.YtmhaafinhpopmaaGreatDoor
