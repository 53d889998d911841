/- What functions compute. No condition. -/
import Derived.Test.YtbameklegpgkfaaDoorUz
import Derived.Test.YtbameklegpgkfaaDoorUty
import Derived.Test.YtbameklegpgkfaaDoorUmG
import Derived.Test.YtbameklegpgkfaaDoorShelf
import Derived.Test.YtbameklegpgkfaaDoorX3
import Derived.Test.YtbameklegpgkfaaDoorX5
import Derived.Test.YtbameklegpgkfaaDoorX4
set_option linter.unusedSimpArgs false
set_option linter.unusedVariables false
set_option linter.defProp false
namespace Go.Proofs.YtbameklegpgkfaaDoor
open Go Go.Vm
theorem compare_con (a b:ByteArray):Con Tryd.prog 196 [.str a,.str b] [] (.int .i64 (cmpStr a b)) []:=
  con_str2 ⟨_,Tryd.func196,rfl,rfl⟩ (fun _ _=>.int _ _) (fun w=>Tryd.strings_Compare a b w)
set_option maxHeartbeats 1000000 in
theorem moveThing1_con (x0:ByteArray) (x1:Int) (x2:Int) (y0:ByteArray) (y1:Int) (y2:Int):Con Tryd.prog 195 [.agg [V.str x0,V.int .i64 x1,V.int .i64 x2],.agg [V.str y0,V.int .i64 y1,V.int .i64 y2]] [] (.int .i64 (cmpStr x0 y0)) []:=by
 refine v_con [.tmp 4] [] Tryd.func195 rfl rfl rfl (by simp [Tryd.ntmps195]) ?_
 intro Q0 n0 r0
 simp only [Tryd.ntmps195,envFrom,Nat.reduceAdd]
 have T:=Tys.mk (And.intro Ty.t3 (And.intro Ty.t9 Ty.t93))
 have F:=Fc.mk True.intro
 refine v_seqR [2,3] ?_;intro K1 k1;refine zBox ⟨?_⟩;refine zq21 ⟨?_⟩;refine k1 _ ?_;refine zk ⟨?_⟩;refine v_seqR [4] ?_;intro K2 k2;refine zq2 ⟨?_⟩;refine zq2 ⟨?_⟩;refine zc (compare_con x0 y0) ⟨?_⟩;refine zAssign ⟨?_⟩;refine k2 _ ?_;refine zk ⟨?_⟩;refine v_ret ?_;refine r0 _ ?_;refine zf ⟨?_⟩
 exact ret_pure rfl (by first | rfl | simp) (.inl rfl)
set_option maxHeartbeats 1000000 in
theorem bsearch_con (l:List (ByteArray×Int×Int)) (g:Nat) (y0:ByteArray) (y1:Int) (y2:Int) (hl:l.length≤1048576) (hs:SortedT l) (hg:∀x0 x1 x2,Con Tryd.prog g [.agg [V.str x0,V.int .i64 x1,V.int .i64 x2],.agg [V.str y0,V.int .i64 y1,V.int .i64 y2]] [] (.int .i64 (cmpStr x0 y0)) []):Con Tryd.prog 194 [.sl (l.map (fun t:ByteArray×Int×Int=>V.agg [V.str t.1,V.int .i64 t.2.1,V.int .i64 t.2.2])),.agg [V.str y0,V.int .i64 y1,V.int .i64 y2],.fn g []] [] (.tup [.int .i64 (Nat.cast (lbT l y0)),.bool (thereT l y0)]) []:=by
 refine v_con [.tmp 6,.tmp 7] [] Tryd.func194 rfl rfl rfl (by simp [Tryd.ntmps194]) ?_
 intro Q0 n0 r0
 simp only [Tryd.ntmps194,envFrom,Nat.reduceAdd]
 have T:=Tys.mk (And.intro Ty.t3 (And.intro Ty.t9 (And.intro Ty.t63 (And.intro Ty.t93 Ty.t141))))
 have F:=Fc.mk True.intro
 refine v_seqR [0,2,4] ?_;intro K1 k1;refine zq43 ⟨?_⟩;refine k1 _ ?_;refine zk ⟨?_⟩;refine v_seqR [0,2,4,8] ?_;intro K2 k2;refine zq5 ⟨?_⟩;refine zAssign ⟨?_⟩;refine k2 _ ?_;refine zk ⟨?_⟩;refine v_seqR [0,2,4,8,9,10] ?_;intro K3 k3;refine zq41 ⟨?_⟩;refine k3 _ ?_;refine zk ⟨?_⟩;refine v_seq ?_;intro Q4 n4 e4 r4;refine v_block ?_;intro Q5 n5 x5 e5 r5;refine v_loop (fun p=>⟨[(0,.sl (l.map (fun t:ByteArray×Int×Int=>V.agg [V.str t.1,V.int .i64 t.2.1,V.int .i64 t.2.2]))),(2,.fn g []),(4,.ptr 0 0 0),(8,.int .i64 l.length),(9,.int .i64 (Nat.cast p.1)),(10,.int .i64 (Nat.cast p.2))],[.box (.agg [V.str y0,V.int .i64 y1,V.int .i64 y2]) .flat],false,49,0⟩) (fun p=>p.1≤p.2∧p.2≤l.length∧(∀k x,l[k]? =some x→k < p.1→strLt x.1 y0=true)∧(∀k x,l[k]? =some x→p.2≤k→strLt x.1 y0=false)) (fun p=>p.2 - p.1) ((0,l.length):Nat×Nat) ?_ ?_ ?_
 ·refine weak_bothS [0,2,4,8,9,10] [0] ⟨?_⟩
  rfl
 ·exact ⟨Nat.zero_le _,Nat.le_refl _,fun k x _ h=>absurd h (Nat.not_lt_zero _),fun k x hk h=>absurd (List.getElem?_eq_some_iff.1 hk).1 (by show ¬_;omega)⟩
 ·rintro ⟨i,j⟩ hok6 Q6 n6 e6 r6
  obtain ⟨hj1,hj2,hR1,hR2⟩:=hok6
  simp only [] at hj1 hj2 hR1 hR2⊢
  refine v_seq ?_;intro Q7 n7 e7 r7;refine v_seqR [0,2,4,8,9,10,17] ?_;intro K8 k8;refine zq56 ⟨?_⟩;refine k8 _ ?_;refine zk ⟨?_⟩;refine v_condS _ rfl ?_ ?_
  ·intro hc0
   have hij:i < j:=by omega
   have hh:(i+j) / 2 < l.length:=by omega
   obtain ⟨⟨x0,x1,x2⟩,hx⟩:∃x:ByteArray×Int×Int,l[(i+j) / 2]? =some x:=⟨l[(i+j) / 2]'(by omega),List.getElem?_eq_getElem (by omega)⟩
   have hmid:IntKind.i64.wrap ((IntKind.u64.wrap ((i:Int)+(j:Int))).fdiv (2 ^ min 1 IntKind.u64.bits))=(((i+j) / 2:Nat):Int):=by
    have e:(2:Int) ^ min 1 IntKind.u64.bits=2:=by decide
    rw [e]
    exact mid_half i j (by omega)
   have hmid2:IntKind.i64.wrap ((IntKind.u64.wrap ((i:Int)+(j:Int))).fdiv (2 ^ min (Int.toNat 1) IntKind.u64.bits))=(((i+j) / 2:Nat):Int):=hmid
   refine v_skip ?_;refine n7 _ _ (weak_keep [0,2,4,8,9,10] _) ?_;refine zk ⟨?_⟩;refine v_block ?_;intro Q10 n10 x10 e10 r10;refine v_seqR [0,2,4,8,9,10,11] ?_;intro K11 k11
   have F:=Fc.mk (And.intro hmid (And.intro @Int.toNat_natCast (fun f=>getD_map (f:=f) hx)))
   refine zq3 ⟨?_⟩;refine zBinOpW ⟨?_⟩;refine zConvert ⟨?_⟩;refine zBinOp ⟨?_⟩;refine zConvert ⟨?_⟩;refine zAssign ⟨?_⟩;refine k11 _ ?_;refine zk ⟨?_⟩;refine v_seq ?_;intro Q12 n12 e12 r12;refine v_draw (by kernel_rfl) ?_;intro K13 q13 k13
   show aAny _ _ _ _ 8 (Array.replicate 8 false) _
   refine zdMove q13 true 0 24 ?_;refine zdMove q13 true 1 25 ?_;refine zdMove q13 true 2 26 ?_;refine zdIndexAddr q13 true 3 27 ?_;refine zdLoad q13 true 4 28 ?_;refine zdLoad q13 true 5 29 ?_;refine zoc 6 (hg x0 x1 x2) ⟨?_⟩;refine zdBinOp q13 true 7 31 ?_;refine aAny_done (by kernel_rfl) ?_;refine k13 _ ?_;refine n12 _ _ (weak_keep [0,2,4,8,9,10,11,31] _) ?_;refine zk ⟨?_⟩;refine v_condS _ rfl ?_ ?_
   ·intro hc1
    have hst:strLt x0 y0=true:=(cmpStr_lt _ _).1 hc1
    have hlo:=bs_lo hs hx hst
    refine v_region ?_;intro K15 k15;refine zMove ⟨?_⟩;refine zq25 ⟨?_⟩;refine k15 _ ?_;refine n10 _ ?_;refine n6 _ ((i+j) / 2+1,j) ?_ ?_ ?_
    ·refine weak_bothS [0,2,4,8,9,10] [0] ⟨?_⟩
     rw [hmid2];rfl
    ·exact ⟨by show (i+j) / 2+1≤j;omega,hj2,hlo,hR2⟩
    ·show _ < _;first | (show j - ((i+j) / 2+1) < j - i;omega) | (show (i+j) / 2 - i < j - i;omega)
   ·intro hc1
    have hst:strLt x0 y0=false:=by
     cases q:strLt x0 y0 with
     |false=>rfl
     |true=>(have:=(cmpStr_lt _ _).2 q;omega)
    have hhi:=bs_hi (j:=j) hs hx hst
    refine v_region ?_;intro K16 k16;refine zq19 ⟨?_⟩;refine k16 _ ?_;refine n10 _ ?_;refine n6 _ (i,(i+j) / 2) ?_ ?_ ?_
    ·refine weak_bothS [0,2,4,8,9,10] [0] ⟨?_⟩
     rw [hmid2]
    ·exact ⟨by show i≤(i+j) / 2;omega,by show (i+j) / 2≤l.length;omega,hR1,hhi⟩
    ·show _ < _;first | (show j - ((i+j) / 2+1) < j - i;omega) | (show (i+j) / 2 - i < j - i;omega)
  ·intro hc0
   have hij:i=j:=by omega
   subst hij
   have hlb:=lb_unique hs hj2 hR1 hR2
   rcases Nat.lt_or_ge i l.length with hlt | hge
   ·skip
    obtain ⟨⟨x0,x1,x2⟩,hx⟩:∃x:ByteArray×Int×Int,l[i]? =some x:=⟨l[i]'(by omega),List.getElem?_eq_getElem (by omega)⟩
    have hil:((i:Int) < (l.length:Int)):=by omega
    have hx2:=hx
    rw [hlb] at hx2
    have hth:=thereT_at hx2
    have hce:decide (cmpStr x0 y0=0)=decide (x0=y0):=decide_eq_decide.2 (cmpStr_eq _ _)
    refine v_exit ?_;refine e7 _ _ ?_;refine e6 _ _ ?_;refine x5 _ ?_;refine n4 _ _ (weak_keep [0,2,4,8,9] _) ?_;refine zk ⟨?_⟩;refine v_seq ?_;intro Q17 n17 e17 r17;refine v_draw (by kernel_rfl) ?_;intro K18 q18 k18
    show aAny _ _ _ _ 16 (Array.replicate 16 false) _
    have F:=Fc.mk (And.intro hil (And.intro @decide_true (fun f=>getD_map (f:=f) hx)))
    refine zdMove q18 true 0 35 ?_;refine zdMove q18 true 1 36 ?_;refine zdMove q18 true 2 37 ?_;refine zdBinOp q18 true 3 38 ?_;refine zdMove q18 true 4 39 ?_;refine zdgMove q18 true 5 40 ?_;refine zdgMove q18 true 6 41 ?_;refine zdgMove q18 true 7 42 ?_;refine zdgIndexAddr q18 true 8 43 ?_;refine zdgLoad q18 true 9 44 ?_;refine zdgLoad q18 true 10 45 ?_
    first
    |refine zogc 11 (hg x0 x1 x2) ⟨?_⟩
    |(refine aAny_pass 11 46 4 true rfl rfl (show 46 < 49 by decide) (by kernel_rfl) rfl ?_ ?_;(focus first | rfl | (simp only [zV,guardV,Nat.reduceEqDiff,reduceIte];done));simp only [zW,set_some,Nat.reduceEqDiff,reduceIte])
    refine zdgBinOp q18 true 12 47 ?_;refine zdPick q18 true 13 48 ?_;refine zoAssign 14 ⟨?_⟩;refine zoAssign 15 ⟨?_⟩;refine aAny_done (by kernel_rfl) ?_;refine k18 _ ?_;refine n17 _ _ (weak_keep [6,7] _) ?_;refine zk ⟨?_⟩;refine v_ret ?_;refine r0 _ ?_;refine zf ⟨?_⟩
    exact ret_pure rfl (by first | (rw [←hlb,hth];done) | (rw [←hlb,hth];first | rfl | (rw [←hce];rfl) | simp [←hce])) (.inl rfl)
   ·skip
    have hil:¬((i:Int) < (l.length:Int)):=by omega
    have hth:=thereT_end (s:=y0) (l:=l) (by omega)
    refine v_exit ?_;refine e7 _ _ ?_;refine e6 _ _ ?_;refine x5 _ ?_;refine n4 _ _ (weak_keep [0,2,4,8,9] _) ?_;refine zk ⟨?_⟩;refine v_seq ?_;intro Q19 n19 e19 r19;refine v_draw (by kernel_rfl) ?_;intro K20 q20 k20
    show aAny _ _ _ _ 16 (Array.replicate 16 false) _
    have F:=Fc.mk (And.intro hil @decide_false)
    refine zdMove q20 true 0 35 ?_;refine zdMove q20 true 1 36 ?_;refine zdMove q20 true 2 37 ?_;refine zdBinOp q20 true 3 38 ?_;refine zdMove q20 true 4 39 ?_;refine zdgMove q20 true 5 40 ?_;refine zdgMove q20 true 6 41 ?_;refine zdgMove q20 true 7 42 ?_;refine zdgIndexAddr q20 true 8 43 ?_;refine zdgLoad q20 true 9 44 ?_;refine zdgLoad q20 true 10 45 ?_
    first
    |refine zogc 11 (hg x0 x1 x2) ⟨?_⟩
    |(refine aAny_pass 11 46 4 true rfl rfl (show 46 < 49 by decide) (by kernel_rfl) rfl ?_ ?_;(focus first | rfl | (simp only [zV,guardV,Nat.reduceEqDiff,reduceIte];done));simp only [zW,set_some,Nat.reduceEqDiff,reduceIte])
    refine zdgBinOp q20 true 12 47 ?_;refine zdPick q20 true 13 48 ?_;refine zoAssign 14 ⟨?_⟩;refine zoAssign 15 ⟨?_⟩;refine aAny_done (by kernel_rfl) ?_;refine k20 _ ?_;refine n19 _ _ (weak_keep [6,7] _) ?_;refine zk ⟨?_⟩;refine v_ret ?_;refine r0 _ ?_;refine zf ⟨?_⟩
    exact ret_pure rfl (by first | (rw [←hlb,hth];done) | (rw [←hlb,hth];simp)) (.inl rfl)
theorem snoc_Thing {a:List (ByteArray×Int×Int)} {x0:ByteArray} {x1:Int} {x2:Int}:a.map (fun t:ByteArray×Int×Int=>V.agg [V.str t.1,V.int .i64 t.2.1,V.int .i64 t.2.2])++[V.agg [V.str x0,V.int .i64 x1,V.int .i64 x2]]=(a++[(x0,x1,x2)]).map (fun t:ByteArray×Int×Int=>V.agg [V.str t.1,V.int .i64 t.2.1,V.int .i64 t.2.2]):=by simp
theorem setat_Thing {a:List (ByteArray×Int×Int)} {i:Nat} {x0:ByteArray} {x1:Int} {x2:Int}:(a.map (fun t:ByteArray×Int×Int=>V.agg [V.str t.1,V.int .i64 t.2.1,V.int .i64 t.2.2])).set i (V.agg [V.str x0,V.int .i64 x1,V.int .i64 x2])=(a.set i (x0,x1,x2)).map (fun t:ByteArray×Int×Int=>V.agg [V.str t.1,V.int .i64 t.2.1,V.int .i64 t.2.2]):=by rw [List.map_set]
set_option maxRecDepth 8000 in
set_option maxHeartbeats 4000000 in
theorem things_con (code:List Int) (a s:Int) (hcode:∀x∈code,0≤x∧x≤255) (hcl:code.length≤9223372036854775807) (ha:0≤a∧a < 16000000000):ConX Tryd.prog 115 [.ptr 0 0 0] [.box (.agg [.sl (code.map (V.int .u8)),.int .i64 a,.int .u64 s]) .shal] (fun r O'=>∃(l:List (ByteArray×Int×Int)) (a' s':Int),(l.length≤18∧∀x∈l,x.1.size≤9)∧(a≤a'∧a'≤a+1000)∧r=.ref 1∧O'=[.box (.agg [.sl (code.map (V.int .u8)),.int .i64 a',.int .u64 s']) .shal,.arr (l.map (fun t:ByteArray×Int×Int=>V.agg [V.str t.1,V.int .i64 t.2.1,V.int .i64 t.2.2])) .flat]):=by
 refine v_conX [.tmp 2] [(76,[0,1]),(73,[0]),(75,[0]),(155,[0,1])] Tryd.func115 rfl rfl rfl (by simp [Tryd.ntmps115]) ?_
 intro Q0 n0 r0
 simp only [Tryd.ntmps115,envFrom,Nat.reduceAdd]
 have T:=Tys.mk (And.intro Ty.t3 (And.intro Ty.t4 (And.intro Ty.t5 (And.intro Ty.t9 (And.intro Ty.t22 (And.intro Ty.t36 (And.intro Ty.t63 (And.intro Ty.t74 (And.intro Ty.t93 (And.intro Ty.t95 (And.intro Ty.t96 Ty.t98)))))))))))
 have F:=Fc.mk True.intro
 refine v_seqR [0] ?_;intro K1 k1;refine zAssign ⟨?_⟩;refine k1 _ ?_;refine zk ⟨?_⟩;refine v_seqR [0,3] ?_;intro K2 k2;refine zAssign ⟨?_⟩;refine k2 _ ?_;refine zk ⟨?_⟩;refine v_seq ?_;intro Q3 n3 e3 r3;refine v_seqR [0,3,8,9,10] ?_;intro K4 k4;refine zBuildSlice ⟨?_⟩;refine zq46 ⟨?_⟩;refine k4 _ ?_;refine zk ⟨?_⟩;refine v_block ?_;intro Q5 n5 x5 e5 r5;refine v_loop (fun p=>⟨[(0,.ptr 0 0 0),(3,.ref 1),(8,.ref 2),(9,.int .i64 5),(10,.int .i64 (Nat.cast p.1))],[.box (.agg [.sl (code.map (V.int .u8)),.int .i64 p.2.2.1,.int .u64 p.2.2.2]) .shal,.arr (p.2.1.map (fun t:ByteArray×Int×Int=>V.agg [V.str t.1,V.int .i64 t.2.1,V.int .i64 t.2.2])) .flat,.arr [V.str (⟨#[97,120,101]⟩:ByteArray),V.str (⟨#[102,111,97,109]⟩:ByteArray),V.str (⟨#[104,111,115,101]⟩:ByteArray),V.str (⟨#[109,97,115,107]⟩:ByteArray),V.str (⟨#[114,111,112,101]⟩:ByteArray)] .flat],false,66,0⟩) (fun p=>p.1≤5∧(p.2.1.length≤p.1∧∀x∈p.2.1,x.1.size≤9)∧a≤p.2.2.1∧p.2.2.1≤a+10 * (p.1:Int)) (fun p=>5 - p.1) ((0,[],a,s):Nat×List (ByteArray×Int×Int)×Int×Int) ?_ ?_ ?_
 ·refine weak_both [0,3,8,9,10] [0,2,3] (by decide) (by simp) ?_ ?_ ?_
  ·simp [keep_mk,keepE_nil,keepE_cons,look_cons,V.only,V.onlyL,idx]<;>(first | rfl | decide)
  ·simp [Blk.kindIs,fillK_mix]
  simp only [keep_mk,keepE_nil,keepE_cons,look_cons,look_nil,Nat.reduceEqDiff,reduceIte,St.comp,List.map_cons,List.map_nil,V.ren,V.renL,idx,List.getD_cons_zero,List.getD_cons_succ,Nat.reduceBEq,cond_true,cond_false,Option.map_some,Option.getD_some,Nat.reduceAdd,Nat.beq_eq_true_eq]
  all_goals rfl
 ·exact ⟨Nat.zero_le _,⟨Nat.zero_le _,by simp⟩,by simp⟩
 ·rintro ⟨i,acc,a1,s1⟩ hok6 Q6 n6 e6 r6
  obtain ⟨hi1,⟨hal,hsz⟩,ha1⟩:=hok6
  simp only [] at hi1 hal hsz ha1⊢
  refine v_seqR [0,3,8,9,10,11] ?_;intro K7 k7;refine zBinOp ⟨?_⟩;refine k7 _ ?_;refine zk ⟨?_⟩;refine v_seq ?_;intro Q8 n8 e8 r8;refine v_condS _ rfl ?_ ?_
  ·intro hc0
   have hlt:i < 5:=by omega
   obtain ⟨nm,hnm⟩:∃x,([(⟨#[97,120,101]⟩:ByteArray),(⟨#[102,111,97,109]⟩:ByteArray),(⟨#[104,111,115,101]⟩:ByteArray),(⟨#[109,97,115,107]⟩:ByteArray),(⟨#[114,111,112,101]⟩:ByteArray)]:List ByteArray)[i]? =some x:=⟨_,List.getElem?_eq_getElem (show i < ([(⟨#[97,120,101]⟩:ByteArray),(⟨#[102,111,97,109]⟩:ByteArray),(⟨#[104,111,115,101]⟩:ByteArray),(⟨#[109,97,115,107]⟩:ByteArray),(⟨#[114,111,112,101]⟩:ByteArray)]:List ByteArray).length from hlt)⟩
   have hnz:nm.size≤9:=by
    have hm:=List.mem_of_getElem? hnm
    simp only [List.mem_cons,List.not_mem_nil,or_false] at hm
    rcases hm with e | e | e | e | e<;>(rw [e];decide)
   have hnm2:([V.str (⟨#[97,120,101]⟩:ByteArray),V.str (⟨#[102,111,97,109]⟩:ByteArray),V.str (⟨#[104,111,115,101]⟩:ByteArray),V.str (⟨#[109,97,115,107]⟩:ByteArray),V.str (⟨#[114,111,112,101]⟩:ByteArray)]:List V).getD i .any=V.str nm:=by
    have q:=getD_map (f:=V.str) hnm
    simpa only [List.map_cons,List.map_nil] using q
   refine v_skip ?_;refine n8 _ _ (weak_keep [0,3,8,9,10] _) ?_;refine zk ⟨?_⟩;refine v_seq ?_;intro Q10 n10 e10 r10;refine v_block ?_;intro Q11 n11 x11 e11 r11;refine v_seqR [0,3,5,8,9,10] ?_;intro K12 k12
   have F:=Fc.mk hnm2
   refine zq13 ⟨?_⟩;refine zAssign ⟨?_⟩;refine k12 _ ?_;refine zk ⟨?_⟩;refine v_seqR [0,3,5,8,9,10,15] ?_;intro K13 k13;refine zMove ⟨?_⟩;refine v_op ?_;intro K k
   simp only [zE,zM,aStepM,optable,set_some,Nat.reduceEqDiff,reduceIte,Nat.reduceLT,implies_true,forall_const,reduceCtorEq,V.ofValue,V.ofScalar,V.un,V.gd,aExec,lentIds,lendOf,‹Tys _›.h,‹Fc _›.h]
   repeat (refine andC ?_)
   refine aCall_lentXA (one_con code a1 s1 (2) hcode hcl (by omega)) ?_
   rintro _ _ ⟨v15,a15,s15,h15,k15,rfl,rfl⟩
   refine ⟨_,_,rfl,by first | exact .inr (List.all_eq_true.1 rfl) | exact .inl ⟨rfl,by simp [Blk.kindIs,fillK_fd]⟩,?_⟩;refine k _ ?_;clear k K
   simp only [zY,zW,set_some,Nat.reduceEqDiff,reduceIte,rho_one,rho_s,rho2_s,rho2_0,rho2_1,V.ren,V.renL,List.set_cons_zero,List.set_cons_succ,rho,Nat.reduceAdd,Nat.add_zero]
   refine k13 _ ?_;refine zk ⟨?_⟩;refine v_condS _ rfl ?_ ?_
   ·intro hc1
    refine v_region ?_;intro K15 k15;refine zq3 ⟨?_⟩;refine zq60 ⟨?_⟩;refine v_op ?_;intro K k
    simp only [zE,zM,aStepM,optable,set_some,Nat.reduceEqDiff,reduceIte,Nat.reduceLT,implies_true,forall_const,reduceCtorEq,V.ofValue,V.ofScalar,V.un,V.gd,aExec,lentIds,lendOf,‹Tys _›.h,‹Fc _›.h]
    repeat (refine andC ?_)
    refine aCall_lent2XA (among_con code a15 s15 [1,2,3,5,8,99] (by simp) hcode hcl (by omega)) ?_
    rintro _ _ ⟨v20,a20,s20,h20,k20,rfl,rfl⟩
    refine ⟨_,_,_,rfl,by first | exact .inr (List.all_eq_true.1 rfl) | exact .inl ⟨rfl,by simp [Blk.kindIs,fillK_fd]⟩,?_⟩;refine k _ ?_;clear k K
    simp only [zY,zW,set_some,Nat.reduceEqDiff,reduceIte,rho_one,rho_s,rho2_s,rho2_0,rho2_1,V.ren,V.renL,List.set_cons_zero,List.set_cons_succ,rho,Nat.reduceAdd,Nat.add_zero]
    simp only [List.mem_cons,List.not_mem_nil,or_false] at h20
    refine zq60 ⟨?_⟩;refine v_op ?_;intro K k
    simp only [zE,zM,aStepM,optable,set_some,Nat.reduceEqDiff,reduceIte,Nat.reduceLT,implies_true,forall_const,reduceCtorEq,V.ofValue,V.ofScalar,V.un,V.gd,aExec,lentIds,lendOf,‹Tys _›.h,‹Fc _›.h]
    repeat (refine andC ?_)
    refine aCall_lent2XA (among_con code a20 s20 [0,7,10,100,9999] (by simp) hcode hcl (by omega)) ?_
    rintro _ _ ⟨v23,a23,s23,h23,k23,rfl,rfl⟩
    refine ⟨_,_,_,rfl,by first | exact .inr (List.all_eq_true.1 rfl) | exact .inl ⟨rfl,by simp [Blk.kindIs,fillK_fd]⟩,?_⟩;refine k _ ?_;clear k K
    simp only [zY,zW,set_some,Nat.reduceEqDiff,reduceIte,rho_one,rho_s,rho2_s,rho2_0,rho2_1,V.ren,V.renL,List.set_cons_zero,List.set_cons_succ,rho,Nat.reduceAdd,Nat.add_zero]
    simp only [List.mem_cons,List.not_mem_nil,or_false] at h23
    refine zBuild ⟨?_⟩;refine zq35 ⟨?_⟩;refine k15 _ ?_;refine n11 _ ?_;refine n10 _ _ (weak_keep [0,3,8,9,10] _) ?_;refine zk ⟨?_⟩;refine v_region ?_;intro K16 k16;refine zq6 ⟨?_⟩;refine k16 _ ?_;refine n6 _ (i+1,acc++[(nm,v20,v23)],a23,s23) ?_ ?_ ?_
    ·refine weak_bothS [0,3,8,9,10] [0,6,2] ⟨?_⟩
     rw [snoc_Thing];rfl
    ·exact ⟨by show i+1≤5;omega,⟨by show (acc++_).length≤i+1;simp;omega,by show ∀x∈acc++_,_;intro x hx;rcases List.mem_append.1 hx with q | q;exact hsz x q;rw [List.mem_singleton] at q;subst q;exact hnz⟩,by show a≤a23∧a23≤a+10 * ((i+1:Nat):Int);omega⟩
    ·show _ < _;show 5 - (i+1) < 5 - i;omega
   ·intro hc1
    refine v_skip ?_;refine n11 _ ?_;refine n10 _ _ (weak_keep [0,3,8,9,10] _) ?_;refine zk ⟨?_⟩;refine v_region ?_;intro K17 k17;refine zq6 ⟨?_⟩;refine k17 _ ?_;refine n6 _ (i+1,acc,a15,s15) ?_ ?_ ?_
    ·refine weak_both [0,3,8,9,10] [0,1,2] (by decide) (by simp) ?_ ?_ ?_
     ·simp [keep_mk,keepE_nil,keepE_cons,look_cons,V.only,V.onlyL,idx]<;>(first | rfl | decide)
     ·simp [Blk.kindIs,fillK_mix]
     simp only [keep_mk,keepE_nil,keepE_cons,look_cons,look_nil,Nat.reduceEqDiff,reduceIte,St.comp,List.map_cons,List.map_nil,V.ren,V.renL,idx,List.getD_cons_zero,List.getD_cons_succ,Nat.reduceBEq,cond_true,cond_false,Option.map_some,Option.getD_some,Nat.reduceAdd,Nat.beq_eq_true_eq]
     all_goals rfl
    ·exact ⟨by show i+1≤5;omega,⟨by show acc.length≤i+1;omega,hsz⟩,by show a≤a15∧a15≤a+10 * ((i+1:Nat):Int);omega⟩
    ·show _ < _;show 5 - (i+1) < 5 - i;omega
  ·intro hc0
   refine v_exit ?_;refine e8 _ _ ?_;refine e6 _ _ ?_;refine x5 _ ?_;refine n3 _ _ (weak_keep [0,3] _) ?_;refine zk ⟨?_⟩;refine v_seq ?_;intro Q18 n18 e18 r18;refine v_seqR [0,3,29] ?_;intro K19 k19;refine zMove ⟨?_⟩;refine v_op ?_;intro K k
   simp only [zE,zM,aStepM,optable,set_some,Nat.reduceEqDiff,reduceIte,Nat.reduceLT,implies_true,forall_const,reduceCtorEq,V.ofValue,V.ofScalar,V.un,V.gd,aExec,lentIds,lendOf,‹Tys _›.h,‹Fc _›.h]
   repeat (refine andC ?_)
   refine aCall_lentXA (pick_con code a1 s1 (30) hcode hcl (by omega)) ?_
   rintro _ _ ⟨v29,a29,s29,h29,k29,rfl,rfl⟩
   refine ⟨_,_,rfl,by first | exact .inr (List.all_eq_true.1 rfl) | exact .inl ⟨rfl,by simp [Blk.kindIs,fillK_fd]⟩,?_⟩;refine k _ ?_;clear k K
   simp only [zY,zW,set_some,Nat.reduceEqDiff,reduceIte,rho_one,rho_s,rho2_s,rho2_0,rho2_1,V.ren,V.renL,List.set_cons_zero,List.set_cons_succ,rho,Nat.reduceAdd,Nat.add_zero]
   refine k19 _ ?_;refine zk ⟨?_⟩;refine v_block ?_;intro Q20 n20 x20 e20 r20;refine v_seqR [0,3,29,30] ?_;intro K21 k21;refine zq28 ⟨?_⟩;refine k21 _ ?_;refine zk ⟨?_⟩;refine v_condS _ rfl ?_ ?_
   ·intro hc2
    refine v_region ?_;intro K23 k23;refine zq3 ⟨?_⟩;refine zBuildSlice ⟨?_⟩;refine v_op ?_;intro K k
    simp only [zE,zM,aStepM,optable,set_some,Nat.reduceEqDiff,reduceIte,Nat.reduceLT,implies_true,forall_const,reduceCtorEq,V.ofValue,V.ofScalar,V.un,V.gd,aExec,lentIds,lendOf,‹Tys _›.h,‹Fc _›.h]
    repeat (refine andC ?_)
    refine aCall_lent2XA (of_con code a29 s29 [(⟨#[122,122]⟩:ByteArray),(⟨#[97]⟩:ByteArray),(⟨#[90]⟩:ByteArray),(⟨#[110,105,110,101,99,104,97,114,115]⟩:ByteArray)] (by simp) hcode hcl (by omega)) ?_
    rintro _ _ ⟨v35,a35,s35,h35,k35,rfl,rfl⟩
    have hz35:v35.size≤9:=by
     simp only [List.mem_cons,List.not_mem_nil,or_false] at h35
     rcases h35 with e | e | e | e<;>(rw [e];decide)
    refine ⟨_,_,_,rfl,by first | exact .inr (List.all_eq_true.1 rfl) | exact .inl ⟨rfl,by simp [Blk.kindIs,fillK_fd]⟩,?_⟩;refine k _ ?_;clear k K
    simp only [zY,zW,set_some,Nat.reduceEqDiff,reduceIte,rho_one,rho_s,rho2_s,rho2_0,rho2_1,V.ren,V.renL,List.set_cons_zero,List.set_cons_succ,rho,Nat.reduceAdd,Nat.add_zero]
    refine zq60 ⟨?_⟩;refine v_op ?_;intro K k
    simp only [zE,zM,aStepM,optable,set_some,Nat.reduceEqDiff,reduceIte,Nat.reduceLT,implies_true,forall_const,reduceCtorEq,V.ofValue,V.ofScalar,V.un,V.gd,aExec,lentIds,lendOf,‹Tys _›.h,‹Fc _›.h]
    repeat (refine andC ?_)
    refine aCall_lent2XA (among_con code a35 s35 [1,0,100] (by simp) hcode hcl (by omega)) ?_
    rintro _ _ ⟨v38,a38,s38,h38,k38,rfl,rfl⟩
    refine ⟨_,_,_,rfl,by first | exact .inr (List.all_eq_true.1 rfl) | exact .inl ⟨rfl,by simp [Blk.kindIs,fillK_fd]⟩,?_⟩;refine k _ ?_;clear k K
    simp only [zY,zW,set_some,Nat.reduceEqDiff,reduceIte,rho_one,rho_s,rho2_s,rho2_0,rho2_1,V.ren,V.renL,List.set_cons_zero,List.set_cons_succ,rho,Nat.reduceAdd,Nat.add_zero]
    simp only [List.mem_cons,List.not_mem_nil,or_false] at h38
    refine zq60 ⟨?_⟩;refine v_op ?_;intro K k
    simp only [zE,zM,aStepM,optable,set_some,Nat.reduceEqDiff,reduceIte,Nat.reduceLT,implies_true,forall_const,reduceCtorEq,V.ofValue,V.ofScalar,V.un,V.gd,aExec,lentIds,lendOf,‹Tys _›.h,‹Fc _›.h]
    repeat (refine andC ?_)
    refine aCall_lent2XA (among_con code a38 s38 [0,-1,10000] (by simp) hcode hcl (by omega)) ?_
    rintro _ _ ⟨v41,a41,s41,h41,k41,rfl,rfl⟩
    refine ⟨_,_,_,rfl,by first | exact .inr (List.all_eq_true.1 rfl) | exact .inl ⟨rfl,by simp [Blk.kindIs,fillK_fd]⟩,?_⟩;refine k _ ?_;clear k K
    simp only [zY,zW,set_some,Nat.reduceEqDiff,reduceIte,rho_one,rho_s,rho2_s,rho2_0,rho2_1,V.ren,V.renL,List.set_cons_zero,List.set_cons_succ,rho,Nat.reduceAdd,Nat.add_zero]
    simp only [List.mem_cons,List.not_mem_nil,or_false] at h41
    refine zBuild ⟨?_⟩;refine zq35 ⟨?_⟩;refine k23 _ ?_;refine n20 _ ?_;refine n18 _ _ (weak_keep [3] _) ?_;refine zk ⟨?_⟩;refine v_seqR [2] ?_;intro K24 k24;refine zq19 ⟨?_⟩;refine k24 _ ?_;refine zk ⟨?_⟩;refine v_ret ?_;refine r0 _ ?_;refine zf ⟨?_⟩;refine ret_viewX ?_
    exact ⟨acc++[(v35,v38,v41)],a41,s41,⟨by simp;omega,by intro x hx;rcases List.mem_append.1 hx with q | q;exact hsz x q;rw [List.mem_singleton] at q;subst q;exact hz35⟩,by omega,rfl,by rw [snoc_Thing];rfl⟩
   ·intro hc2
    refine v_seqR [0,3,45] ?_;intro K25 k25;refine zq28 ⟨?_⟩;refine k25 _ ?_;refine zk ⟨?_⟩;refine v_condS _ rfl ?_ ?_
    ·intro hc3
     refine v_seqR [0,3] ?_;intro K27 k27;refine zAssign ⟨?_⟩;refine k27 _ ?_;refine zk ⟨?_⟩;refine v_seqR [3,6] ?_;intro K28 k28;refine zMove ⟨?_⟩;refine v_op ?_;intro K k
     simp only [zE,zM,aStepM,optable,set_some,Nat.reduceEqDiff,reduceIte,Nat.reduceLT,implies_true,forall_const,reduceCtorEq,V.ofValue,V.ofScalar,V.un,V.gd,aExec,lentIds,lendOf,‹Tys _›.h,‹Fc _›.h]
     repeat (refine andC ?_)
     refine aCall_lentXA (pick_con code a29 s29 (2) hcode hcl (by omega)) ?_
     rintro _ _ ⟨v48,a48,s48,h48,k48,rfl,rfl⟩
     refine ⟨_,_,rfl,by first | exact .inr (List.all_eq_true.1 rfl) | exact .inl ⟨rfl,by simp [Blk.kindIs,fillK_fd]⟩,?_⟩;refine k _ ?_;clear k K
     simp only [zY,zW,set_some,Nat.reduceEqDiff,reduceIte,rho_one,rho_s,rho2_s,rho2_0,rho2_1,V.ren,V.renL,List.set_cons_zero,List.set_cons_succ,rho,Nat.reduceAdd,Nat.add_zero]
     refine zq25 ⟨?_⟩;refine k28 _ ?_;refine zk ⟨?_⟩;refine v_block ?_;intro Q29 n29 x29 e29 r29;refine v_loop (fun acc2=>⟨[(3,.ref 1),(6,.int .i64 (12+v48))],[.box (.agg [.sl (code.map (V.int .u8)),.int .i64 a48,.int .u64 s48]) .shal,.arr (acc2.map (fun t:ByteArray×Int×Int=>V.agg [V.str t.1,V.int .i64 t.2.1,V.int .i64 t.2.2])) .flat],false,66,0⟩) (fun acc2=>(acc2.length:Int)≤12+v48∧∀x∈acc2,x.1.size≤9) (fun acc2=>(12+v48 - (acc2.length:Int)).toNat) ([]:List (ByteArray×Int×Int)) ?_ ?_ ?_
     ·refine weak_both [3,6] [0,3] (by decide) (by simp) ?_ ?_ ?_
      ·simp [keep_mk,keepE_nil,keepE_cons,look_cons,V.only,V.onlyL,idx]<;>(first | rfl | decide)
      ·simp [Blk.kindIs,fillK_mix]
      simp only [keep_mk,keepE_nil,keepE_cons,look_cons,look_nil,Nat.reduceEqDiff,reduceIte,St.comp,List.map_cons,List.map_nil,V.ren,V.renL,idx,List.getD_cons_zero,List.getD_cons_succ,Nat.reduceBEq,cond_true,cond_false,Option.map_some,Option.getD_some,Nat.reduceAdd,Nat.beq_eq_true_eq]
      all_goals rfl
     ·exact ⟨by simp;omega,by simp⟩
     ·rintro acc2 hok30 Q30 n30 e30 r30
      obtain ⟨hal2,hsz2⟩:=hok30
      refine v_seq ?_;intro Q31 n31 e31 r31;refine v_seqR [3,6,53] ?_;intro K32 k32;refine zq14 ⟨?_⟩;refine zBinOp ⟨?_⟩;refine k32 _ ?_;refine zk ⟨?_⟩;refine v_condS _ rfl ?_ ?_
      ·intro hc4
       have hab:((⟨#[97,98,99,100,101,102,103,104,105,106,107,108,109]⟩:ByteArray)).size=13:=rfl
       have hk1:((acc2.length:Int)+1).toNat=acc2.length+1:=by omega
       have hl13:acc2.length < 13:=by omega
       have hx1:((⟨#[120]⟩:ByteArray)).size=1:=rfl
       refine v_skip ?_;refine n31 _ _ (weak_keep [3,6] _) ?_;refine zk ⟨?_⟩;refine v_block ?_;intro Q34 n34 x34 e34 r34;refine v_seqR [3,6,7] ?_;intro K35 k35
       have F:=Fc.mk (And.intro hab (And.intro hk1 (And.intro hx1 @ByteArray.size_extract)))
       refine zq5 ⟨?_⟩;refine zAssign ⟨?_⟩;refine k35 _ ?_;refine zk ⟨?_⟩;refine v_region ?_;intro K36 k36;refine zq3 ⟨?_⟩;refine zMove ⟨?_⟩;refine zBinOpW ⟨?_⟩;refine zSlice ⟨?_⟩;refine zBinOpW ⟨?_⟩;refine zBuild ⟨?_⟩;refine zq35 ⟨?_⟩;refine k36 _ ?_;refine n34 _ ?_;refine n30 _ (acc2++[((⟨#[120]⟩:ByteArray)++ByteArray.extract (⟨#[97,98,99,100,101,102,103,104,105,106,107,108,109]⟩:ByteArray) acc2.length (acc2.length+1),1,0)]) ?_ ?_ ?_
       ·refine weak_bothS [3,6] [0,3] ⟨?_⟩
        rw [snoc_Thing]
       ·exact ⟨by show ((acc2++_).length:Int)≤_;simp;omega,by show ∀x∈acc2++_,_;intro x hx;rcases List.mem_append.1 hx with q | q;exact hsz2 x q;rw [List.mem_singleton] at q;subst q;show ((⟨#[120]⟩:ByteArray)++ByteArray.extract (⟨#[97,98,99,100,101,102,103,104,105,106,107,108,109]⟩:ByteArray) acc2.length (acc2.length+1)).size≤9;rw [ByteArray.size_append,ByteArray.size_extract];have h1:((⟨#[120]⟩:ByteArray)).size=1:=rfl;have h2:((⟨#[97,98,99,100,101,102,103,104,105,106,107,108,109]⟩:ByteArray)).size=13:=rfl;omega⟩
       ·show _ < _;show (12+v48 - ((acc2++_).length:Int)).toNat < (12+v48 - (acc2.length:Int)).toNat;simp;omega
      ·intro hc4
       refine v_exit ?_;refine e31 _ _ ?_;refine e30 _ _ ?_;refine x29 _ ?_;refine n20 _ ?_;refine n18 _ _ (weak_keep [3] _) ?_;refine zk ⟨?_⟩;refine v_seqR [2] ?_;intro K37 k37;refine zq19 ⟨?_⟩;refine k37 _ ?_;refine zk ⟨?_⟩;refine v_ret ?_;refine r0 _ ?_;refine zf ⟨?_⟩;refine ret_viewX ?_
       exact ⟨acc2,_,_,⟨by omega,hsz2⟩,by omega,rfl,rfl⟩
    ·intro hc3
     refine v_skip ?_;refine n20 _ ?_;refine n18 _ _ (weak_keep [3] _) ?_;refine zk ⟨?_⟩;refine v_seqR [2] ?_;intro K38 k38;refine zq19 ⟨?_⟩;refine k38 _ ?_;refine zk ⟨?_⟩;refine v_ret ?_;refine r0 _ ?_;refine zf ⟨?_⟩;refine ret_viewX ?_
     exact ⟨acc,_,_,⟨by omega,hsz⟩,by omega,rfl,rfl⟩
set_option maxHeartbeats 1000000 in
theorem thingName_con (code:List Int) (a s:Int) (hcode:∀x∈code,0≤x∧x≤255) (hcl:code.length≤9223372036854775807) (ha:0≤a∧a < 17000000000):ConX Tryd.prog 131 [.ptr 0 0 0] [.box (.agg [.sl (code.map (V.int .u8)),.int .i64 a,.int .u64 s]) .shal] (fun r O'=>∃(v:ByteArray) (a' s':Int),(v.size≤9)∧(a≤a'∧a'≤a+4)∧r=.str v∧O'=[.box (.agg [.sl (code.map (V.int .u8)),.int .i64 a',.int .u64 s']) .shal]):=by
 refine v_conX [.tmp 2] [(155,[0,1])] Tryd.func131 rfl rfl rfl (by simp [Tryd.ntmps131]) ?_
 intro Q0 n0 r0
 simp only [Tryd.ntmps131,envFrom,Nat.reduceAdd]
 have T:=Tys.mk (And.intro Ty.t3 (And.intro Ty.t5 (And.intro Ty.t9 (And.intro Ty.t22 (And.intro Ty.t74 (And.intro Ty.t95 (And.intro Ty.t96 Ty.t98)))))))
 have F:=Fc.mk True.intro
 refine v_seqR [0] ?_;intro K1 k1;refine zAssign ⟨?_⟩;refine k1 _ ?_;refine zk ⟨?_⟩;refine v_seqR [2] ?_;intro K2 k2;refine zq60 ⟨?_⟩;refine v_op ?_;intro K k
 simp only [zE,zM,aStepM,optable,set_some,Nat.reduceEqDiff,reduceIte,Nat.reduceLT,implies_true,forall_const,reduceCtorEq,V.ofValue,V.ofScalar,V.un,V.gd,aExec,lentIds,lendOf,‹Tys _›.h,‹Fc _›.h]
 repeat (refine andC ?_)
 refine aCall_lent2XA (of_con code a s [(⟨#[97,120,101]⟩:ByteArray),(⟨#[102,111,97,109]⟩:ByteArray),(⟨#[104,111,115,101]⟩:ByteArray),(⟨#[104,111,115,101]⟩:ByteArray),(⟨#[109,97,115,107]⟩:ByteArray),(⟨#[114,111,112,101]⟩:ByteArray),(⟨#[122,122]⟩:ByteArray),.empty] (by simp) hcode hcl (by omega)) ?_
 rintro _ _ ⟨v5,a5,s5,h5,k5,rfl,rfl⟩
 have hz5:v5.size≤9:=by
  simp only [List.mem_cons,List.not_mem_nil,or_false] at h5
  rcases h5 with e | e | e | e | e | e | e | e<;>(rw [e];decide)
 refine ⟨_,_,_,rfl,by first | exact .inr (List.all_eq_true.1 rfl) | exact .inl ⟨rfl,by simp [Blk.kindIs,fillK_fd]⟩,?_⟩;refine k _ ?_;clear k K
 simp only [zY,zW,set_some,Nat.reduceEqDiff,reduceIte,rho_one,rho_s,rho2_s,rho2_0,rho2_1,V.ren,V.renL,List.set_cons_zero,List.set_cons_succ,rho,Nat.reduceAdd,Nat.add_zero]
 refine zAssign ⟨?_⟩;refine k2 _ ?_;refine zk ⟨?_⟩;refine v_ret ?_;refine r0 _ ?_;refine zf ⟨?_⟩;refine ret_viewX ?_
 exact ⟨_,_,_,hz5,by omega,rfl,rfl⟩
set_option maxRecDepth 8000 in
set_option maxHeartbeats 1000000 in
theorem load_con (code:List Int) (a s:Int) (nm:ByteArray) (hnm:nm.size≤9) (hcode:∀x∈code,0≤x∧x≤255) (hcl:code.length≤9223372036854775807) (ha:0≤a∧a < 15000000000):ConX Tryd.prog 114 [.ptr 0 0 0,.str nm] [.box (.agg [.sl (code.map (V.int .u8)),.int .i64 a,.int .u64 s]) .shal] (fun r O'=>∃(b:ByteArray) (l:List (ByteArray×Int×Int)) (a' s':Int),(b.size≤9∧l.length≤18∧∀x∈l,x.1.size≤9)∧(a≤a'∧a'≤a+1100)∧r=.agg [.str b,.ref 1]∧O'=[.box (.agg [.sl (code.map (V.int .u8)),.int .i64 a',.int .u64 s']) .shal,.arr (l.map (fun t:ByteArray×Int×Int=>V.agg [V.str t.1,V.int .i64 t.2.1,V.int .i64 t.2.2])) .flat]):=by
 refine v_conX [.cell 4 65] [(75,[0]),(115,[0]),(155,[0,1])] Tryd.func114 rfl rfl rfl (by simp [Tryd.ntmps114]) ?_
 intro Q0 n0 r0
 simp only [Tryd.ntmps114,envFrom,Nat.reduceAdd]
 have T:=Tys.mk (And.intro Ty.t3 (And.intro Ty.t4 (And.intro Ty.t5 (And.intro Ty.t9 (And.intro Ty.t22 (And.intro Ty.t63 (And.intro Ty.t65 (And.intro Ty.t74 (And.intro Ty.t93 (And.intro Ty.t95 (And.intro Ty.t96 Ty.t98)))))))))))
 have F:=Fc.mk True.intro
 refine v_seqR [0,1,4] ?_;intro K1 k1;refine zAlloc ⟨?_⟩;refine k1 _ ?_;refine zk ⟨?_⟩;refine v_join (A:=ByteArray×Int×Int) (fun p=>⟨[(0,.ptr 0 0 0),(1,.str p.1),(4,.ptr 2 0 0)],[.box (.agg [.sl (code.map (V.int .u8)),.int .i64 p.2.1,.int .u64 p.2.2]) .shal,.arr [] .flat,.box (.agg [.str .empty,.ref 1]) .mix],false,14,0⟩) (fun p=>p.1.size≤9∧a≤p.2.1∧p.2.1≤a+8) ?_ ?_
 ·intro Q2 n2 e2 r2
  refine v_seqR [0,1,4,6] ?_;intro K3 k3;refine zMove ⟨?_⟩;refine v_op ?_;intro K k
  simp only [zE,zM,aStepM,optable,set_some,Nat.reduceEqDiff,reduceIte,Nat.reduceLT,implies_true,forall_const,reduceCtorEq,V.ofValue,V.ofScalar,V.un,V.gd,aExec,lentIds,lendOf,‹Tys _›.h,‹Fc _›.h]
  repeat (refine andC ?_)
  refine aCall_lentXA (one_con code a s (40) hcode hcl (by omega)) ?_
  rintro _ _ ⟨v6,a6,s6,h6,k6,rfl,rfl⟩
  refine ⟨_,_,rfl,by first | exact .inr (List.all_eq_true.1 rfl) | exact .inl ⟨rfl,by simp [Blk.kindIs,fillK_fd]⟩,?_⟩;refine k _ ?_;clear k K
  simp only [zY,zW,set_some,Nat.reduceEqDiff,reduceIte,rho_one,rho_s,rho2_s,rho2_0,rho2_1,V.ren,V.renL,List.set_cons_zero,List.set_cons_succ,rho,Nat.reduceAdd,Nat.add_zero]
  refine k3 _ ?_;refine zk ⟨?_⟩;refine v_condS _ rfl ?_ ?_
  ·intro hc0
   refine v_region ?_;intro K5 k5;refine zq60 ⟨?_⟩;refine v_op ?_;intro K k
   simp only [zE,zM,aStepM,optable,set_some,Nat.reduceEqDiff,reduceIte,Nat.reduceLT,implies_true,forall_const,reduceCtorEq,V.ofValue,V.ofScalar,V.un,V.gd,aExec,lentIds,lendOf,‹Tys _›.h,‹Fc _›.h]
   repeat (refine andC ?_)
   refine aCall_lent2XA (of_con code a6 s6 [.empty,(⟨#[49,112]⟩:ByteArray),(⟨#[115,101,118,101,110,120,120]⟩:ByteArray)] (by simp) hcode hcl (by omega)) ?_
   rintro _ _ ⟨v9,a9,s9,h9,k9,rfl,rfl⟩
   have hz9:v9.size≤9:=by
    simp only [List.mem_cons,List.not_mem_nil,or_false] at h9
    rcases h9 with e | e | e<;>(rw [e];decide)
   refine ⟨_,_,_,rfl,by first | exact .inr (List.all_eq_true.1 rfl) | exact .inl ⟨rfl,by simp [Blk.kindIs,fillK_fd]⟩,?_⟩;refine k _ ?_;clear k K
   simp only [zY,zW,set_some,Nat.reduceEqDiff,reduceIte,rho_one,rho_s,rho2_s,rho2_0,rho2_1,V.ren,V.renL,List.set_cons_zero,List.set_cons_succ,rho,Nat.reduceAdd,Nat.add_zero]
   refine zAssign ⟨?_⟩;refine k5 _ ?_;refine n2 (v9,a9,s9) _ ?_ ?_
   ·exact ⟨hz9,by show a≤a9∧a9≤a+8;omega⟩
   ·exact weak_same [0,1,4] [0,1,2]
  ·intro hc0
   refine v_skip ?_;refine n2 (nm,a6,s6) _ ?_ ?_
   ·exact ⟨hnm,by show a≤a6∧a6≤a+8;omega⟩
   ·exact weak_same [0,1,4] [0,1,2]
 ·rintro ⟨b,a1,s1⟩ hok2
  obtain ⟨hbz,ha1⟩:=hok2
  simp only [] at hbz ha1⊢
  refine v_seqR [4] ?_;intro K6 k6
  have F:=Fc.mk True.intro
  refine zq3 ⟨?_⟩;refine v_op ?_;intro K k
  simp only [zE,zM,aStepM,optable,set_some,Nat.reduceEqDiff,reduceIte,Nat.reduceLT,implies_true,forall_const,reduceCtorEq,V.ofValue,V.ofScalar,V.un,V.gd,aExec,lentIds,lendOf,‹Tys _›.h,‹Fc _›.h]
  repeat (refine andC ?_)
  refine aCall_lentXA (things_con code a1 s1 hcode hcl (by omega)) ?_
  rintro _ _ ⟨v12,a12,s12,h12,k12,rfl,rfl⟩
  refine ⟨_,_,rfl,by first | exact .inr (List.all_eq_true.1 rfl) | exact .inl ⟨rfl,by simp [Blk.kindIs,fillK_fd]⟩,?_⟩;refine k _ ?_;clear k K
  simp only [zY,zW,set_some,Nat.reduceEqDiff,reduceIte,rho_one,rho_s,rho2_s,rho2_0,rho2_1,V.ren,V.renL,List.set_cons_zero,List.set_cons_succ,rho,Nat.reduceAdd,Nat.add_zero]
  refine zq17 ⟨?_⟩;refine k6 _ ?_;refine zk ⟨?_⟩;refine v_ret ?_;refine r0 _ ?_;refine zf ⟨?_⟩
  simp only [zE,zL,zO,zN,aStepM,optable,set_some,Nat.reduceEqDiff,reduceIte,Nat.reduceLT,implies_true,forall_const,reduceCtorEq,V.ofValue,V.ofScalar,V.un,V.gd,aLoad,row_mk,Blk.row,PartOK,Go.Vm.part,V.cells,V.noSl,V.noRef,Nat.reduceAdd,Nat.reduceLeDiff,Nat.reduceMul,Tryd.underlying9,Ty.c9,Ty.a9,Tryd.underlying63,Ty.c63,Ty.a63,Tryd.underlying65,Ty.c65,Ty.a65]
  refine ret_viewX ?_
  exact ⟨b,v12,_,_,⟨hbz,h12⟩,by omega,rfl,rfl⟩
set_option maxHeartbeats 4000000 in
theorem eqMove_con (fa:ByteArray) (fl:List (ByteArray×Int×Int)) (ta:ByteArray) (tl:List (ByteArray×Int×Int)) (s:ByteArray) (n:Int) (hfa:nameB fa=true) (hta:nameB ta=true) (hfk:ThOK fl) (htk:ThOK tl) (hsn:tnB s=true) (hn:1≤n∧n≤99):Con Tryd.prog 126 [.agg [.str fa,.sl (fl.map (fun t:ByteArray×Int×Int=>V.agg [V.str t.1,V.int .i64 t.2.1,V.int .i64 t.2.2]))],.agg [.str ta,.sl (tl.map (fun t:ByteArray×Int×Int=>V.agg [V.str t.1,V.int .i64 t.2.1,V.int .i64 t.2.2]))],.str s,.int .i64 n] [] (.tup [.agg [.str (orS (mvB fl tl s n) fa),.ref 0],.agg [.str (orS (mvB fl tl s n) ta),.ref 1],.bool (mvB fl tl s n)]) [.arr ((orN (mvB fl tl s n) (takeT fl s n)).map (fun t:ByteArray×Int×Int=>V.agg [V.str t.1,V.int .i64 t.2.1,V.int .i64 t.2.2])) .flat,.arr ((orN (mvB fl tl s n) (putT tl s n (dayOf fl s))).map (fun t:ByteArray×Int×Int=>V.agg [V.str t.1,V.int .i64 t.2.1,V.int .i64 t.2.2])) .flat]:=by
 have hfl:=hfk.len
 have htl:=htk.len
 have hsz:=tn_size hsn
 have hfz:=nm_size hfa
 have htz:=nm_size hta
 refine v_con [.cell 8 65,.cell 9 65,.tmp 10] [] Tryd.func126 rfl rfl rfl (by simp [Tryd.ntmps126]) ?_
 intro Q0 n0 r0
 simp only [Tryd.ntmps126,envFrom,Nat.reduceAdd]
 have T:=Tys.mk (And.intro Ty.t3 (And.intro Ty.t4 (And.intro Ty.t9 (And.intro Ty.t63 (And.intro Ty.t65 Ty.t93)))))
 have F:=Fc.mk True.intro
 rcases there_cases hfk.srt s with ⟨hth,hat,_,hcn⟩ | ⟨⟨y0,y1,y2⟩,hth,hat,hy,hyn,hcn⟩
 ·skip
  have hB:(mvB fl tl s n)=false:=by rw [mvB,hcn,decide_eq_false (by omega)];rfl
  refine v_seqR [2,3,4,5,8,9] ?_;intro K1 k1
  have F:=Fc.mk (And.intro hth (And.intro hat hcn))
  refine zBox ⟨?_⟩;refine zq34 ⟨?_⟩;refine zq20 ⟨?_⟩;refine k1 _ ?_;refine zk ⟨?_⟩;refine v_seqR [2,3,4,5,8,9,11,12] ?_;intro K2 k2;refine zq11 ⟨?_⟩;refine zc (eqFind_con fl s (by omega) hfk.srt) ⟨?_⟩;refine zq16 ⟨?_⟩;refine k2 _ ?_;refine zk ⟨?_⟩;refine v_seq ?_;intro Q3 n3 e3 r3;refine v_seqR [2,3,4,5,8,9,11,33] ?_;intro K4 k4;refine zq59 ⟨?_⟩;refine zMove ⟨?_⟩;refine zq44 ⟨?_⟩;refine zq58 ⟨?_⟩;refine k4 _ ?_;refine zk ⟨?_⟩;refine v_cond _ rfl ?_ ?_
  ·intro hc0
   try simp only [zC,reduceCtorEq] at hc0
   have hB:(mvB fl tl s n)=false:=by
    first
    |exact hB
    |(rw [mvB,hcn,decide_eq_false (by first | omega | (have h:=hc0;simp at h;omega))];rfl)
   refine v_seqR [8,9,10] ?_;intro K6 k6;refine zq42 ⟨?_⟩;refine k6 _ ?_;refine zk ⟨?_⟩;refine v_ret ?_;refine r3 _ ?_;refine r0 _ ?_;refine zf ⟨?_⟩
   simp only [zE,zL,zO,zN,aStepM,optable,set_some,Nat.reduceEqDiff,reduceIte,Nat.reduceLT,implies_true,forall_const,reduceCtorEq,V.ofValue,V.ofScalar,V.un,V.gd,aLoad,row_mk,Blk.row,PartOK,Go.Vm.part,V.cells,V.noSl,V.noRef,Nat.reduceAdd,Nat.reduceLeDiff,Nat.reduceMul,Tryd.underlying9,Ty.c9,Ty.a9,Tryd.underlying63,Ty.c63,Ty.a63,Tryd.underlying65,Ty.c65,Ty.a65]
   try simp only [zE,zL,zO,zN,aStepM,optable,set_some,Nat.reduceEqDiff,reduceIte,Nat.reduceLT,implies_true,forall_const,reduceCtorEq,V.ofValue,V.ofScalar,V.un,V.gd,aLoad,row_mk,Blk.row,PartOK,Go.Vm.part,V.cells,V.noSl,V.noRef,Nat.reduceAdd,Nat.reduceLeDiff,Nat.reduceMul,Tryd.underlying9,Ty.c9,Ty.a9,Tryd.underlying63,Ty.c63,Ty.a63,Tryd.underlying65,Ty.c65,Ty.a65]
   simp only [hB,orS,orN_f,Bool.false_eq_true,if_false,List.map_nil]
   exact ret_all rfl (by first | decide | simp [newIds,refsOf,refs2,refs1]) (by simp) rfl (by simp [newIds,refsOf,refs2,refs1]) (by simp [Blk.kindIs,fillK_fd]) rfl
  ·intro hc0
   exfalso;simp at hc0
 ·skip
  have hkl:=(List.getElem?_eq_some_iff.1 hy).1
  have hyo:=hfk.ok _ (List.mem_of_getElem? hy)
  simp only [] at hyo hyn hcn
  have hda:dayOf fl s=y2:=by unfold dayOf;rw [hy]
  have htko:=take_ok hfk hn.1 hy
  have hpl:=put_len (l:=tl) (s:=s) (n:=n) (d:=y2)
  have htl2:=take_len (l:=fl) (s:=s) (n:=n)
  refine v_seqR [2,3,4,5,8,9] ?_;intro K7 k7
  have F:=Fc.mk (And.intro hth (And.intro hat (And.intro hcn (And.intro @Int.toNat_natCast (fun f=>getD_map (f:=f) hy)))))
  refine zBox ⟨?_⟩;refine zq34 ⟨?_⟩;refine zq20 ⟨?_⟩;refine k7 _ ?_;refine zk ⟨?_⟩;refine v_seqR [2,3,4,5,8,9,11,12] ?_;intro K8 k8;refine zq11 ⟨?_⟩;refine zc (eqFind_con fl s (by omega) hfk.srt) ⟨?_⟩;refine zq16 ⟨?_⟩;refine k8 _ ?_;refine zk ⟨?_⟩;refine v_seq ?_;intro Q9 n9 e9 r9;refine v_seqR [2,3,4,5,8,9,11,33] ?_;intro K10 k10;refine zq59 ⟨?_⟩;refine zMove ⟨?_⟩;refine zq44 ⟨?_⟩;refine zq58 ⟨?_⟩;refine k10 _ ?_;refine zk ⟨?_⟩;refine v_condS _ rfl ?_ ?_
  ·intro hc0
   have hB:(mvB fl tl s n)=false:=by
    first
    |exact hB
    |(rw [mvB,hcn,decide_eq_false (by first | omega | (have h:=hc0;simp at h;omega))];rfl)
   refine v_seqR [8,9,10] ?_;intro K12 k12;refine zq42 ⟨?_⟩;refine k12 _ ?_;refine zk ⟨?_⟩;refine v_ret ?_;refine r9 _ ?_;refine r0 _ ?_;refine zf ⟨?_⟩
   simp only [zE,zL,zO,zN,aStepM,optable,set_some,Nat.reduceEqDiff,reduceIte,Nat.reduceLT,implies_true,forall_const,reduceCtorEq,V.ofValue,V.ofScalar,V.un,V.gd,aLoad,row_mk,Blk.row,PartOK,Go.Vm.part,V.cells,V.noSl,V.noRef,Nat.reduceAdd,Nat.reduceLeDiff,Nat.reduceMul,Tryd.underlying9,Ty.c9,Ty.a9,Tryd.underlying63,Ty.c63,Ty.a63,Tryd.underlying65,Ty.c65,Ty.a65]
   try simp only [zE,zL,zO,zN,aStepM,optable,set_some,Nat.reduceEqDiff,reduceIte,Nat.reduceLT,implies_true,forall_const,reduceCtorEq,V.ofValue,V.ofScalar,V.un,V.gd,aLoad,row_mk,Blk.row,PartOK,Go.Vm.part,V.cells,V.noSl,V.noRef,Nat.reduceAdd,Nat.reduceLeDiff,Nat.reduceMul,Tryd.underlying9,Ty.c9,Ty.a9,Tryd.underlying63,Ty.c63,Ty.a63,Tryd.underlying65,Ty.c65,Ty.a65]
   simp only [hB,orS,orN_f,Bool.false_eq_true,if_false,List.map_nil]
   exact ret_all rfl (by first | decide | simp [newIds,refsOf,refs2,refs1]) (by simp) rfl (by simp [newIds,refsOf,refs2,refs1]) (by simp [Blk.kindIs,fillK_fd]) rfl
  ·intro hc0
   have hny:n≤y1:=by first | omega | (have h:=hc0;simp at h;omega)
   have hgt:thsB (takeT fl s n)=true:=(ths_iff _).2 htko
   refine v_skip ?_;refine n9 _ _ (weak_keep [2,3,4,5,8,9,11] _) ?_;refine zk ⟨?_⟩
   apply v_seq1
   ·intro Q13 n13 e13 r13
    refine v_draw (by kernel_rfl) ?_;intro K14 q14 k14
    show aAny _ _ _ _ 10 (Array.replicate 10 false) _
    refine zdFieldAddr q14 true 0 36 ?_;refine zdLoadX q14 true 1 37 ?_;refine zdFieldAddr q14 true 2 38 ?_;refine zdLoadX q14 true 3 39 ?_;refine zdMove q14 true 4 40 ?_;refine zdMove q14 true 5 41 ?_;refine aAny_two 6 8 rfl rfl (by kernel_rfl) ?_ ?_
    ·refine zsc (eqTake_con fl s n (by omega) hfk.srt y0 y1 y2 hy hth ⟨hn,hyo.2.1⟩) ⟨?_⟩
     refine zdBuild q14 true 7 43 ?_;refine zoAlloc 8 ⟨?_⟩;refine zoStore 9 ⟨?_⟩;refine aAny_done (by kernel_rfl) ?_;refine k14 _ ?_;refine n13 _ ?_
     exact weak_one [2,3,4,5,8,9,11,13] [0,1,2,3,4,5,6,7,8]
    ·refine zsAlloc ⟨?_⟩
     refine zoc 6 (eqTake_con fl s n (by omega) hfk.srt y0 y1 y2 hy hth ⟨hn,hyo.2.1⟩) ⟨?_⟩;refine zdBuild q14 true 7 43 ?_;refine zoStore 9 ⟨?_⟩;refine aAny_done (by kernel_rfl) ?_;refine k14 _ ?_;refine n13 _ ?_
     exact weak_same [2,3,4,5,8,9,11,13] [0,1,2,3,4,5,8,6,7]
   ·refine zkm ⟨?_⟩
    apply v_seq1
    ·intro Q15 n15 e15 r15
     refine v_draw (by kernel_rfl) ?_;intro K16 q16 k16
     show aAny _ _ _ _ 17 (Array.replicate 17 false) _
     have F:=Fc.mk (And.intro hth (And.intro hat (And.intro hcn (And.intro @Int.toNat_natCast (fun f=>getD_map (f:=f) hy)))))
     refine zdFieldAddr q16 true 0 44 ?_;refine zdLoadX q16 true 1 45 ?_;refine zdFieldAddr q16 true 2 46 ?_;refine zdLoadX q16 true 3 47 ?_;refine zdMove q16 true 4 48 ?_;refine zdMove q16 true 5 49 ?_;refine zdFieldAddr q16 true 6 50 ?_;refine zdLoadX q16 true 7 51 ?_;refine zdMove q16 true 8 52 ?_;refine zdIndexAddr q16 true 9 53 ?_;refine zdFieldAddr q16 true 10 54 ?_;refine zdLoadX q16 true 11 55 ?_;refine zdBuild q16 true 12 56 ?_;refine aAny_two 13 15 rfl rfl (by kernel_rfl) ?_ ?_
     ·refine zsc (eqPut_con tl s n y2 (by omega) htk.srt ⟨hn,fun x h=>(htk.ok x h).2.1⟩) ⟨?_⟩
      refine zdBuild q16 true 14 58 ?_;refine zoAlloc 15 ⟨?_⟩;refine zoStore 16 ⟨?_⟩;refine aAny_done (by kernel_rfl) ?_;refine k16 _ ?_;refine n15 _ ?_
      exact weak_one [8,9,13,14] [0,1,2,3,4,5,6,7,8,9,10,11]
     ·refine zsAlloc ⟨?_⟩
      refine zoc 13 (eqPut_con tl s n y2 (by omega) htk.srt ⟨hn,fun x h=>(htk.ok x h).2.1⟩) ⟨?_⟩;refine zdBuild q16 true 14 58 ?_;refine zoStore 16 ⟨?_⟩;refine aAny_done (by kernel_rfl) ?_;refine k16 _ ?_;refine n15 _ ?_
      exact weak_same [8,9,13,14] [0,1,2,3,4,5,6,7,8,11,9,10]
    ·refine zkm ⟨?_⟩
     refine v_seq ?_;intro Q17 n17 e17 r17;refine v_seqR [8,9,13,14,66] ?_;intro K18 k18
     have F:=Fc.mk (And.intro hth (And.intro hat (And.intro hcn (And.intro @Int.toNat_natCast (fun f=>getD_map (f:=f) hy)))))
     refine zLoad ⟨?_⟩;refine zc (eqLoad_con fa (takeT fl s n) (by omega) (by omega) (th_sz htko)) ⟨?_⟩;refine zUnOp ⟨?_⟩;refine zq51 ⟨?_⟩;refine zgc (eqLoad_con ta (putT tl s n y2) (by omega) (by omega) (put_sz htk hsn)) ⟨?_⟩;refine zq12 ⟨?_⟩;refine k18 _ ?_;refine zk ⟨?_⟩;refine v_condS _ rfl ?_ ?_
     ·intro hc1
      have hB:(mvB fl tl s n)=false:=by
       rw [mvB,hda]
       cases q:thsB (putT tl s n y2) with
       |false=>simp
       |true=>(exfalso;simp [q,hgt,hfa,hta] at hc1)
      refine v_seqR [8,9,10] ?_;intro K20 k20;refine zq42 ⟨?_⟩;refine k20 _ ?_;refine zk ⟨?_⟩;refine v_ret ?_;refine r17 _ ?_;refine r0 _ ?_;refine zf ⟨?_⟩
      simp only [zE,zL,zO,zN,aStepM,optable,set_some,Nat.reduceEqDiff,reduceIte,Nat.reduceLT,implies_true,forall_const,reduceCtorEq,V.ofValue,V.ofScalar,V.un,V.gd,aLoad,row_mk,Blk.row,PartOK,Go.Vm.part,V.cells,V.noSl,V.noRef,Nat.reduceAdd,Nat.reduceLeDiff,Nat.reduceMul,Tryd.underlying9,Ty.c9,Ty.a9,Tryd.underlying63,Ty.c63,Ty.a63,Tryd.underlying65,Ty.c65,Ty.a65]
      try simp only [zE,zL,zO,zN,aStepM,optable,set_some,Nat.reduceEqDiff,reduceIte,Nat.reduceLT,implies_true,forall_const,reduceCtorEq,V.ofValue,V.ofScalar,V.un,V.gd,aLoad,row_mk,Blk.row,PartOK,Go.Vm.part,V.cells,V.noSl,V.noRef,Nat.reduceAdd,Nat.reduceLeDiff,Nat.reduceMul,Tryd.underlying9,Ty.c9,Ty.a9,Tryd.underlying63,Ty.c63,Ty.a63,Tryd.underlying65,Ty.c65,Ty.a65]
      simp only [hB,orS,orN_f,Bool.false_eq_true,if_false,List.map_nil]
      exact ret_all rfl (by first | decide | simp [newIds,refsOf,refs2,refs1]) (by simp) rfl (by simp [newIds,refsOf,refs2,refs1]) (by simp [Blk.kindIs,fillK_fd]) rfl
     ·intro hc1
      have hB:(mvB fl tl s n)=true:=by
       rw [mvB,hda,hcn]
       cases q:thsB (putT tl s n y2) with
       |false=>(exfalso;simp [q,hgt,hfa,hta] at hc1)
       |true=>simp;omega
      refine v_skip ?_;refine n17 _ _ (weak_keep [8,9,13,14] _) ?_;refine zk ⟨?_⟩
      apply v_seq1
      ·intro Q21 n21 e21 r21
       refine v_draw (by kernel_rfl) ?_;intro K22 q22 k22
       show aAny _ _ _ _ 5 (Array.replicate 5 false) _
       refine zdLoadX q22 true 0 69 ?_;refine aAny_two 1 2 rfl rfl (by kernel_rfl) ?_ ?_
       ·intro K k
        skip
        simp only [zE,zL,zO,zN,aStepM,optable,set_some,Nat.reduceEqDiff,reduceIte,Nat.reduceLT,implies_true,forall_const,reduceCtorEq,V.ofValue,V.ofScalar,V.un,V.gd,aExec,aop,aLoad,row_mk,Blk.row,PartOK,Go.Vm.part,V.cells,V.noSl,V.noRef,Nat.reduceAdd,Nat.reduceLeDiff,Nat.reduceMul,Tryd.underlying9,Ty.c9,Ty.a9,Tryd.underlying63,Ty.c63,Ty.a63,Tryd.underlying65,Ty.c65,Ty.a65,hth,hat,hcn,Int.toNat_natCast,getD_map hy]
        repeat (refine And.intro (by first | omega | (intros;omega) | (intros;simp_all;done) | (intros;simp_all;omega)) ?_)
        refine k _ ?_;clear k K;refine zoStore 2 ⟨?_⟩;refine zoStore 3 ⟨?_⟩;refine zoAssign 4 ⟨?_⟩;refine aAny_done (by kernel_rfl) ?_;refine k22 _ ?_;refine n21 _ ?_
        exact weak_one [8,9,10] [0,1,2,3,4,5,6,7,8,9,10,11]
       ·refine zsStore ⟨?_⟩
        refine zdLoadX q22 true 1 70 ?_;refine zoStore 3 ⟨?_⟩;refine zoAssign 4 ⟨?_⟩;refine aAny_done (by kernel_rfl) ?_;refine k22 _ ?_;refine n21 _ ?_
        exact weak_same [8,9,10] [0,1,2,3,4,5,6,7,8,9,10,11]
      ·refine zkm ⟨?_⟩
       refine v_ret ?_;refine r0 _ ?_;refine zf ⟨?_⟩
       simp only [zE,zL,zO,zN,aStepM,optable,set_some,Nat.reduceEqDiff,reduceIte,Nat.reduceLT,implies_true,forall_const,reduceCtorEq,V.ofValue,V.ofScalar,V.un,V.gd,aLoad,row_mk,Blk.row,PartOK,Go.Vm.part,V.cells,V.noSl,V.noRef,Nat.reduceAdd,Nat.reduceLeDiff,Nat.reduceMul,Tryd.underlying9,Ty.c9,Ty.a9,Tryd.underlying63,Ty.c63,Ty.a63,Tryd.underlying65,Ty.c65,Ty.a65]
       try simp only [zE,zL,zO,zN,aStepM,optable,set_some,Nat.reduceEqDiff,reduceIte,Nat.reduceLT,implies_true,forall_const,reduceCtorEq,V.ofValue,V.ofScalar,V.un,V.gd,aLoad,row_mk,Blk.row,PartOK,Go.Vm.part,V.cells,V.noSl,V.noRef,Nat.reduceAdd,Nat.reduceLeDiff,Nat.reduceMul,Tryd.underlying9,Ty.c9,Ty.a9,Tryd.underlying63,Ty.c63,Ty.a63,Tryd.underlying65,Ty.c65,Ty.a65]
       simp only [hB,orS,if_true]
       exact ret_all rfl (by first | decide | simp [newIds,refsOf,refs2,refs1]) (by simp) rfl (by simp [newIds,refsOf,refs2,refs1,hB,orN_t,hda]) (by simp [Blk.kindIs,fillK_fd]) rfl
end Go.Proofs.YtbameklegpgkfaaDoor
