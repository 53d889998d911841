/- What functions compute. No condition. -/
import Derived.Test.YtbameklegpgkfaaDoorUz
import Derived.Test.YtbameklegpgkfaaDoorUty
import Derived.Test.YtbameklegpgkfaaDoorUmG
import Derived.Test.YtbameklegpgkfaaDoorX3
import Derived.Test.YtbameklegpgkfaaDoorX1
set_option linter.unusedSimpArgs false
set_option linter.unusedVariables false
set_option linter.defProp false
namespace Go.Proofs.YtbameklegpgkfaaDoor
open Go Go.Vm
set_option maxHeartbeats 1000000 in
theorem areThings_con (l:List (ByteArray×Int×Int)) (hl:l.length≤1048576) (hls:∀t∈l,t.1.size≤9223372036854775807):Con Tryd.prog 118 [.sl (l.map (fun t:ByteArray×Int×Int=>V.agg [V.str t.1,V.int .i64 t.2.1,V.int .i64 t.2.2]))] [] (.bool (thsB l)) []:=by
 refine v_con [.tmp 2] [] Tryd.func118 rfl rfl rfl (by simp [Tryd.ntmps118]) ?_
 intro Q0 n0 r0
 simp only [Tryd.ntmps118,envFrom,Nat.reduceAdd]
 have T:=Tys.mk (And.intro Ty.t3 (And.intro Ty.t4 (And.intro Ty.t9 (And.intro Ty.t63 Ty.t93))))
 have F:=Fc.mk True.intro
 refine v_seqR [0] ?_;intro K1 k1;refine zAssign ⟨?_⟩;refine k1 _ ?_;refine zk ⟨?_⟩;refine v_seq ?_;intro Q2 n2 e2 r2;refine v_seqR [0,5,6,7] ?_;intro K3 k3;refine zq14 ⟨?_⟩;refine k3 _ ?_;refine zk ⟨?_⟩;refine v_block ?_;intro Q4 n4 x4 e4 r4;refine v_loop (fun i=>⟨[(0,.sl (l.map (fun t:ByteArray×Int×Int=>V.agg [V.str t.1,V.int .i64 t.2.1,V.int .i64 t.2.2]))),(5,.sl (l.map (fun t:ByteArray×Int×Int=>V.agg [V.str t.1,V.int .i64 t.2.1,V.int .i64 t.2.2]))),(6,.int .i64 l.length),(7,.int .i64 (Nat.cast i))],[],false,47,0⟩) (fun i=>i≤l.length∧chainAt thOK thBf l i=chainAt thOK thBf l 0) (fun i=>l.length - i) 0 ?_ ?_ ?_
 ·refine weak_of [0,5,6,7] ?_
  simp only [keep_mk,keepE_nil,keepE_cons,look_cons,look_nil,Nat.reduceEqDiff,reduceIte]
  rfl
 ·exact ⟨Nat.zero_le _,rfl⟩
 ·rintro i hok5 Q5 n5 e5 r5
  obtain ⟨hi1,hR⟩:=hok5
  refine v_seqR [0,5,6,7,8] ?_;intro K6 k6;refine zBinOp ⟨?_⟩;refine k6 _ ?_;refine zk ⟨?_⟩;refine v_seq ?_;intro Q7 n7 e7 r7;refine v_condS _ rfl ?_ ?_
  ·intro hc0
   have hlt:i < l.length:=by omega
   obtain ⟨⟨x0,x1,x2⟩,hx⟩:∃x:ByteArray×Int×Int,l[i]? =some x:=⟨l[i]'(by omega),List.getElem?_eq_getElem (by omega)⟩
   have hsx:=hls _ (List.mem_of_getElem? hx)
   simp only [] at hsx
   rcases Nat.eq_zero_or_pos i with h0 | h0
   ·skip
    have hi0:¬((0:Int) < (i:Int)):=by omega
    have hst:chainAt thOK thBf l i=(thOK (x0,x1,x2) && chainAt thOK thBf l (i+1)):=by subst h0;exact chain_zero hx
    refine v_skip ?_;refine n7 _ _ (weak_keep [0,5,6,7] _) ?_;refine zk ⟨?_⟩;refine v_seq ?_;intro Q9 n9 e9 r9;refine v_block ?_;intro Q10 n10 x10 e10 r10;refine v_seqR [0,3,4,5,6,7] ?_;intro K11 k11
    have F:=Fc.mk (And.intro (fun f=>getD_map (f:=f) hx) (And.intro hi0 (And.intro @decide_false @Bool.and_false)))
    refine zq38 ⟨?_⟩;refine k11 _ ?_;refine zk ⟨?_⟩;refine v_seq ?_;intro Q12 n12 e12 r12;refine v_draw (by kernel_rfl) ?_;intro K13 q13 k13
    show aAny _ _ _ _ 31 (Array.replicate 31 false) _
    refine zdFieldAddr q13 true 0 12 ?_;refine zdLoad q13 true 1 13 ?_;refine zoc 2 (isThingName_con x0 hsx) ⟨?_⟩;refine zdUnOp q13 true 3 15 ?_;refine zdMove q13 true 4 16 ?_;refine zdgFieldAddr q13 true 5 17 ?_;refine zdgLoad q13 true 6 18 ?_
    first
    |refine zogc 7 (inside_con x1 1 99) ⟨?_⟩
    |(refine aAny_pass 7 19 4 false rfl rfl (show 19 < 47 by decide) (by kernel_rfl) rfl ?_ ?_;(focus first | rfl | (simp only [zV,guardV,Nat.reduceEqDiff,reduceIte];done));simp only [zW,set_some,Nat.reduceEqDiff,reduceIte])
    refine zdgUnOp q13 true 8 20 ?_;refine zdPick q13 true 9 21 ?_;refine zdMove q13 true 10 22 ?_;refine zdgFieldAddr q13 true 11 23 ?_;refine zdgLoad q13 true 12 24 ?_
    first
    |refine zogc 13 (isThingDay_con x2) ⟨?_⟩
    |(refine aAny_pass 13 25 10 false rfl rfl (show 25 < 47 by decide) (by kernel_rfl) rfl ?_ ?_;(focus first | rfl | (simp only [zV,guardV,Nat.reduceEqDiff,reduceIte];done));simp only [zW,set_some,Nat.reduceEqDiff,reduceIte])
    refine zdgUnOp q13 true 14 26 ?_;refine zdPick q13 true 15 27 ?_;refine zdMove q13 true 16 28 ?_;refine zdgMove q13 true 17 29 ?_;refine zdgBinOp q13 true 18 30 ?_;refine zdgMove q13 true 19 31 ?_;refine zdgMove q13 true 20 32 ?_;refine zdgMove q13 true 21 33 ?_;refine zdgBinOpW q13 true 22 34 ?_;refine zdgIndexAddr q13 true 23 35 ?_;refine zdgFieldAddr q13 true 24 36 ?_;refine zdgLoad q13 true 25 37 ?_;refine zdgFieldAddr q13 true 26 38 ?_;refine zdgLoad q13 true 27 39 ?_;refine zdgBinOp q13 true 28 40 ?_;refine zdgPick q13 true 29 41 ?_;refine zdPick q13 true 30 42 ?_;refine aAny_done (by kernel_rfl) ?_;refine k13 _ ?_;refine n12 _ _ (weak_keep [0,5,6,7,42] _) ?_;refine zk ⟨?_⟩;refine v_condS _ rfl ?_ ?_
    ·intro hc1
     have hb2:chainAt thOK thBf l i=false:=by
      rw [hst]
      revert hc1
      simp only [thOK,thBf]
      first
      |(cases strLt y0 x0<;>by_cases q1:1≤x1<;>by_cases q2:x1≤99<;>by_cases q3:0≤x2<;>by_cases q4:x2≤9999<;>cases tnB x0<;>simp [q1,q2,q3,q4]<;>(try omega);done)
      |(by_cases q1:1≤x1<;>by_cases q2:x1≤99<;>by_cases q3:0≤x2<;>by_cases q4:x2≤9999<;>cases tnB x0<;>simp [q1,q2,q3,q4]<;>(try omega);done)
     refine v_seqR [2] ?_;intro K15 k15;refine zAssign ⟨?_⟩;refine k15 _ ?_;refine zk ⟨?_⟩;refine v_ret ?_;refine r10 _ ?_;refine r9 _ ?_;refine r5 _ ?_;refine r4 _ ?_;refine r2 _ ?_;refine r0 _ ?_;refine zf ⟨?_⟩
     exact ret_pure rfl (by rw [thsB,←hR,hb2];rfl) (.inl rfl)
    ·intro hc1
     have hg2:chainAt thOK thBf l i=chainAt thOK thBf l (i+1):=by
      rw [hst]
      revert hc1
      simp only [thOK,thBf]
      first
      |(cases strLt y0 x0<;>by_cases q1:1≤x1<;>by_cases q2:x1≤99<;>by_cases q3:0≤x2<;>by_cases q4:x2≤9999<;>cases tnB x0<;>simp [q1,q2,q3,q4]<;>(try omega);done)
      |(by_cases q1:1≤x1<;>by_cases q2:x1≤99<;>by_cases q3:0≤x2<;>by_cases q4:x2≤9999<;>cases tnB x0<;>simp [q1,q2,q3,q4]<;>(try omega);done)
     refine v_skip ?_;refine n10 _ ?_;refine n9 _ _ (weak_keep [0,5,6,7] _) ?_;refine zk ⟨?_⟩;refine v_region ?_;intro K16 k16;refine zq6 ⟨?_⟩;refine k16 _ ?_;refine n5 _ (i+1) ?_ ?_ ?_
     ·refine weak_bothS [0,5,6,7] [] ⟨?_⟩
      rfl
     ·exact ⟨by omega,by rw [←hR,hg2]⟩
     ·show _ < _;omega
   ·skip
    obtain ⟨⟨y0,y1,y2⟩,hy⟩:∃x:ByteArray×Int×Int,l[i - 1]? =some x:=⟨l[i - 1]'(by omega),List.getElem?_eq_getElem (by omega)⟩
    have hi0:(0:Int) < i:=by omega
    have hk:((i:Int) - 1).toNat=i - 1:=by omega
    have hst:=chain_succ (ok:=thOK) (bf:=thBf) h0 hy hx
    refine v_skip ?_;refine n7 _ _ (weak_keep [0,5,6,7] _) ?_;refine zk ⟨?_⟩;refine v_seq ?_;intro Q17 n17 e17 r17;refine v_block ?_;intro Q18 n18 x18 e18 r18;refine v_seqR [0,3,4,5,6,7] ?_;intro K19 k19
    have F:=Fc.mk (And.intro (fun f=>getD_map (f:=f) hx) (And.intro hi0 (And.intro hk (And.intro (fun f=>getD_map (f:=f) hy) (And.intro @decide_true @Bool.and_true)))))
    refine zq38 ⟨?_⟩;refine k19 _ ?_;refine zk ⟨?_⟩;refine v_seq ?_;intro Q20 n20 e20 r20;refine v_draw (by kernel_rfl) ?_;intro K21 q21 k21
    show aAny _ _ _ _ 31 (Array.replicate 31 false) _
    refine zdFieldAddr q21 true 0 12 ?_;refine zdLoad q21 true 1 13 ?_;refine zoc 2 (isThingName_con x0 hsx) ⟨?_⟩;refine zdUnOp q21 true 3 15 ?_;refine zdMove q21 true 4 16 ?_;refine zdgFieldAddr q21 true 5 17 ?_;refine zdgLoad q21 true 6 18 ?_
    first
    |refine zogc 7 (inside_con x1 1 99) ⟨?_⟩
    |(refine aAny_pass 7 19 4 false rfl rfl (show 19 < 47 by decide) (by kernel_rfl) rfl ?_ ?_;(focus first | rfl | (simp only [zV,guardV,Nat.reduceEqDiff,reduceIte];done));simp only [zW,set_some,Nat.reduceEqDiff,reduceIte])
    refine zdgUnOp q21 true 8 20 ?_;refine zdPick q21 true 9 21 ?_;refine zdMove q21 true 10 22 ?_;refine zdgFieldAddr q21 true 11 23 ?_;refine zdgLoad q21 true 12 24 ?_
    first
    |refine zogc 13 (isThingDay_con x2) ⟨?_⟩
    |(refine aAny_pass 13 25 10 false rfl rfl (show 25 < 47 by decide) (by kernel_rfl) rfl ?_ ?_;(focus first | rfl | (simp only [zV,guardV,Nat.reduceEqDiff,reduceIte];done));simp only [zW,set_some,Nat.reduceEqDiff,reduceIte])
    refine zdgUnOp q21 true 14 26 ?_;refine zdPick q21 true 15 27 ?_;refine zdMove q21 true 16 28 ?_;refine zdgMove q21 true 17 29 ?_;refine zdgBinOp q21 true 18 30 ?_;refine zdgMove q21 true 19 31 ?_;refine zdgMove q21 true 20 32 ?_;refine zdgMove q21 true 21 33 ?_;refine zdgBinOpW q21 true 22 34 ?_;refine zdgIndexAddr q21 true 23 35 ?_;refine zdgFieldAddr q21 true 24 36 ?_;refine zdgLoad q21 true 25 37 ?_;refine zdgFieldAddr q21 true 26 38 ?_;refine zdgLoad q21 true 27 39 ?_;refine zdgBinOp q21 true 28 40 ?_;refine zdgPick q21 true 29 41 ?_;refine zdPick q21 true 30 42 ?_;refine aAny_done (by kernel_rfl) ?_;refine k21 _ ?_;refine n20 _ _ (weak_keep [0,5,6,7,42] _) ?_;refine zk ⟨?_⟩;refine v_condS _ rfl ?_ ?_
    ·intro hc1
     have hb2:chainAt thOK thBf l i=false:=by
      rw [hst]
      revert hc1
      simp only [thOK,thBf]
      first
      |(cases strLt y0 x0<;>by_cases q1:1≤x1<;>by_cases q2:x1≤99<;>by_cases q3:0≤x2<;>by_cases q4:x2≤9999<;>cases tnB x0<;>simp [q1,q2,q3,q4]<;>(try omega);done)
      |(by_cases q1:1≤x1<;>by_cases q2:x1≤99<;>by_cases q3:0≤x2<;>by_cases q4:x2≤9999<;>cases tnB x0<;>simp [q1,q2,q3,q4]<;>(try omega);done)
     refine v_seqR [2] ?_;intro K23 k23;refine zAssign ⟨?_⟩;refine k23 _ ?_;refine zk ⟨?_⟩;refine v_ret ?_;refine r18 _ ?_;refine r17 _ ?_;refine r5 _ ?_;refine r4 _ ?_;refine r2 _ ?_;refine r0 _ ?_;refine zf ⟨?_⟩
     exact ret_pure rfl (by rw [thsB,←hR,hb2];rfl) (.inl rfl)
    ·intro hc1
     have hg2:chainAt thOK thBf l i=chainAt thOK thBf l (i+1):=by
      rw [hst]
      revert hc1
      simp only [thOK,thBf]
      first
      |(cases strLt y0 x0<;>by_cases q1:1≤x1<;>by_cases q2:x1≤99<;>by_cases q3:0≤x2<;>by_cases q4:x2≤9999<;>cases tnB x0<;>simp [q1,q2,q3,q4]<;>(try omega);done)
      |(by_cases q1:1≤x1<;>by_cases q2:x1≤99<;>by_cases q3:0≤x2<;>by_cases q4:x2≤9999<;>cases tnB x0<;>simp [q1,q2,q3,q4]<;>(try omega);done)
     refine v_skip ?_;refine n18 _ ?_;refine n17 _ _ (weak_keep [0,5,6,7] _) ?_;refine zk ⟨?_⟩;refine v_region ?_;intro K24 k24;refine zq6 ⟨?_⟩;refine k24 _ ?_;refine n5 _ (i+1) ?_ ?_ ?_
     ·refine weak_bothS [0,5,6,7] [] ⟨?_⟩
      rfl
     ·exact ⟨by omega,by rw [←hR,hg2]⟩
     ·show _ < _;omega
  ·intro hc0
   refine v_exit ?_;refine e7 _ _ ?_;refine e5 _ _ ?_;refine x4 _ ?_;refine n2 _ _ (weak_keep [0] _) ?_;refine zk ⟨?_⟩;refine v_seqR [2] ?_;intro K25 k25;refine zq5 ⟨?_⟩;refine zq28 ⟨?_⟩;refine k25 _ ?_;refine zk ⟨?_⟩;refine v_ret ?_;refine r0 _ ?_;refine zf ⟨?_⟩
   exact ret_pure rfl (by rw [thsB,←hR,chain_end (by omega)];simp) (.inl rfl)
set_option maxHeartbeats 1000000 in
theorem eqGood_con (l:List (ByteArray×Int×Int)) (hl:l.length≤1048576) (hls:∀t∈l,t.1.size≤9223372036854775807):Con Tryd.prog 121 [.sl (l.map (fun t:ByteArray×Int×Int=>V.agg [V.str t.1,V.int .i64 t.2.1,V.int .i64 t.2.2]))] [] (.bool (thsB l)) []:=by
 refine v_con [.tmp 2] [] Tryd.func121 rfl rfl rfl (by simp [Tryd.ntmps121]) ?_
 intro Q0 n0 r0
 simp only [Tryd.ntmps121,envFrom,Nat.reduceAdd]
 have T:=Tys.mk (And.intro Ty.t3 (And.intro Ty.t4 (And.intro Ty.t9 (And.intro Ty.t63 Ty.t93))))
 have F:=Fc.mk True.intro
 refine v_seqR [0] ?_;intro K1 k1;refine zAssign ⟨?_⟩;refine k1 _ ?_;refine zk ⟨?_⟩;refine v_seq ?_;intro Q2 n2 e2 r2;refine v_seqR [0,5,6,7] ?_;intro K3 k3;refine zq14 ⟨?_⟩;refine k3 _ ?_;refine zk ⟨?_⟩;refine v_block ?_;intro Q4 n4 x4 e4 r4;refine v_loop (fun i=>⟨[(0,.sl (l.map (fun t:ByteArray×Int×Int=>V.agg [V.str t.1,V.int .i64 t.2.1,V.int .i64 t.2.2]))),(5,.sl (l.map (fun t:ByteArray×Int×Int=>V.agg [V.str t.1,V.int .i64 t.2.1,V.int .i64 t.2.2]))),(6,.int .i64 l.length),(7,.int .i64 (Nat.cast i))],[],false,47,0⟩) (fun i=>i≤l.length∧chainAt thOK thBf l i=chainAt thOK thBf l 0) (fun i=>l.length - i) 0 ?_ ?_ ?_
 ·refine weak_of [0,5,6,7] ?_
  simp only [keep_mk,keepE_nil,keepE_cons,look_cons,look_nil,Nat.reduceEqDiff,reduceIte]
  rfl
 ·exact ⟨Nat.zero_le _,rfl⟩
 ·rintro i hok5 Q5 n5 e5 r5
  obtain ⟨hi1,hR⟩:=hok5
  refine v_seqR [0,5,6,7,8] ?_;intro K6 k6;refine zBinOp ⟨?_⟩;refine k6 _ ?_;refine zk ⟨?_⟩;refine v_seq ?_;intro Q7 n7 e7 r7;refine v_condS _ rfl ?_ ?_
  ·intro hc0
   have hlt:i < l.length:=by omega
   obtain ⟨⟨x0,x1,x2⟩,hx⟩:∃x:ByteArray×Int×Int,l[i]? =some x:=⟨l[i]'(by omega),List.getElem?_eq_getElem (by omega)⟩
   have hsx:=hls _ (List.mem_of_getElem? hx)
   simp only [] at hsx
   rcases Nat.eq_zero_or_pos i with h0 | h0
   ·skip
    have hi0:¬((0:Int) < (i:Int)):=by omega
    have hst:chainAt thOK thBf l i=(thOK (x0,x1,x2) && chainAt thOK thBf l (i+1)):=by subst h0;exact chain_zero hx
    refine v_skip ?_;refine n7 _ _ (weak_keep [0,5,6,7] _) ?_;refine zk ⟨?_⟩;refine v_seq ?_;intro Q9 n9 e9 r9;refine v_block ?_;intro Q10 n10 x10 e10 r10;refine v_seqR [0,3,4,5,6,7] ?_;intro K11 k11
    have F:=Fc.mk (And.intro (fun f=>getD_map (f:=f) hx) (And.intro hi0 (And.intro @decide_false @Bool.and_false)))
    refine zq38 ⟨?_⟩;refine k11 _ ?_;refine zk ⟨?_⟩;refine v_seq ?_;intro Q12 n12 e12 r12;refine v_draw (by kernel_rfl) ?_;intro K13 q13 k13
    show aAny _ _ _ _ 31 (Array.replicate 31 false) _
    refine zdFieldAddr q13 true 0 12 ?_;refine zdLoad q13 true 1 13 ?_;refine zoc 2 (eqName_con x0 hsx) ⟨?_⟩;refine zdUnOp q13 true 3 15 ?_;refine zdMove q13 true 4 16 ?_;refine zdgFieldAddr q13 true 5 17 ?_;refine zdgLoad q13 true 6 18 ?_
    first
    |refine zogc 7 (eqCount_con x1) ⟨?_⟩
    |(refine aAny_pass 7 19 4 false rfl rfl (show 19 < 47 by decide) (by kernel_rfl) rfl ?_ ?_;(focus first | rfl | (simp only [zV,guardV,Nat.reduceEqDiff,reduceIte];done));simp only [zW,set_some,Nat.reduceEqDiff,reduceIte])
    refine zdgUnOp q13 true 8 20 ?_;refine zdPick q13 true 9 21 ?_;refine zdMove q13 true 10 22 ?_;refine zdgFieldAddr q13 true 11 23 ?_;refine zdgLoad q13 true 12 24 ?_
    first
    |refine zogc 13 (eqDay_con x2) ⟨?_⟩
    |(refine aAny_pass 13 25 10 false rfl rfl (show 25 < 47 by decide) (by kernel_rfl) rfl ?_ ?_;(focus first | rfl | (simp only [zV,guardV,Nat.reduceEqDiff,reduceIte];done));simp only [zW,set_some,Nat.reduceEqDiff,reduceIte])
    refine zdgUnOp q13 true 14 26 ?_;refine zdPick q13 true 15 27 ?_;refine zdMove q13 true 16 28 ?_;refine zdgMove q13 true 17 29 ?_;refine zdgBinOp q13 true 18 30 ?_;refine zdgMove q13 true 19 31 ?_;refine zdgMove q13 true 20 32 ?_;refine zdgMove q13 true 21 33 ?_;refine zdgBinOpW q13 true 22 34 ?_;refine zdgIndexAddr q13 true 23 35 ?_;refine zdgFieldAddr q13 true 24 36 ?_;refine zdgLoad q13 true 25 37 ?_;refine zdgFieldAddr q13 true 26 38 ?_;refine zdgLoad q13 true 27 39 ?_;refine zdgBinOp q13 true 28 40 ?_;refine zdgPick q13 true 29 41 ?_;refine zdPick q13 true 30 42 ?_;refine aAny_done (by kernel_rfl) ?_;refine k13 _ ?_;refine n12 _ _ (weak_keep [0,5,6,7,42] _) ?_;refine zk ⟨?_⟩;refine v_condS _ rfl ?_ ?_
    ·intro hc1
     have hb2:chainAt thOK thBf l i=false:=by
      rw [hst]
      revert hc1
      simp only [thOK,thBf]
      first
      |(cases strLt y0 x0<;>by_cases q1:1≤x1<;>by_cases q2:x1≤99<;>by_cases q3:0≤x2<;>by_cases q4:x2≤9999<;>cases tnB x0<;>simp [q1,q2,q3,q4]<;>(try omega);done)
      |(by_cases q1:1≤x1<;>by_cases q2:x1≤99<;>by_cases q3:0≤x2<;>by_cases q4:x2≤9999<;>cases tnB x0<;>simp [q1,q2,q3,q4]<;>(try omega);done)
     refine v_seqR [2] ?_;intro K15 k15;refine zAssign ⟨?_⟩;refine k15 _ ?_;refine zk ⟨?_⟩;refine v_ret ?_;refine r10 _ ?_;refine r9 _ ?_;refine r5 _ ?_;refine r4 _ ?_;refine r2 _ ?_;refine r0 _ ?_;refine zf ⟨?_⟩
     exact ret_pure rfl (by rw [thsB,←hR,hb2];rfl) (.inl rfl)
    ·intro hc1
     have hg2:chainAt thOK thBf l i=chainAt thOK thBf l (i+1):=by
      rw [hst]
      revert hc1
      simp only [thOK,thBf]
      first
      |(cases strLt y0 x0<;>by_cases q1:1≤x1<;>by_cases q2:x1≤99<;>by_cases q3:0≤x2<;>by_cases q4:x2≤9999<;>cases tnB x0<;>simp [q1,q2,q3,q4]<;>(try omega);done)
      |(by_cases q1:1≤x1<;>by_cases q2:x1≤99<;>by_cases q3:0≤x2<;>by_cases q4:x2≤9999<;>cases tnB x0<;>simp [q1,q2,q3,q4]<;>(try omega);done)
     refine v_skip ?_;refine n10 _ ?_;refine n9 _ _ (weak_keep [0,5,6,7] _) ?_;refine zk ⟨?_⟩;refine v_region ?_;intro K16 k16;refine zq6 ⟨?_⟩;refine k16 _ ?_;refine n5 _ (i+1) ?_ ?_ ?_
     ·refine weak_bothS [0,5,6,7] [] ⟨?_⟩
      rfl
     ·exact ⟨by omega,by rw [←hR,hg2]⟩
     ·show _ < _;omega
   ·skip
    obtain ⟨⟨y0,y1,y2⟩,hy⟩:∃x:ByteArray×Int×Int,l[i - 1]? =some x:=⟨l[i - 1]'(by omega),List.getElem?_eq_getElem (by omega)⟩
    have hi0:(0:Int) < i:=by omega
    have hk:((i:Int) - 1).toNat=i - 1:=by omega
    have hst:=chain_succ (ok:=thOK) (bf:=thBf) h0 hy hx
    refine v_skip ?_;refine n7 _ _ (weak_keep [0,5,6,7] _) ?_;refine zk ⟨?_⟩;refine v_seq ?_;intro Q17 n17 e17 r17;refine v_block ?_;intro Q18 n18 x18 e18 r18;refine v_seqR [0,3,4,5,6,7] ?_;intro K19 k19
    have F:=Fc.mk (And.intro (fun f=>getD_map (f:=f) hx) (And.intro hi0 (And.intro hk (And.intro (fun f=>getD_map (f:=f) hy) (And.intro @decide_true @Bool.and_true)))))
    refine zq38 ⟨?_⟩;refine k19 _ ?_;refine zk ⟨?_⟩;refine v_seq ?_;intro Q20 n20 e20 r20;refine v_draw (by kernel_rfl) ?_;intro K21 q21 k21
    show aAny _ _ _ _ 31 (Array.replicate 31 false) _
    refine zdFieldAddr q21 true 0 12 ?_;refine zdLoad q21 true 1 13 ?_;refine zoc 2 (eqName_con x0 hsx) ⟨?_⟩;refine zdUnOp q21 true 3 15 ?_;refine zdMove q21 true 4 16 ?_;refine zdgFieldAddr q21 true 5 17 ?_;refine zdgLoad q21 true 6 18 ?_
    first
    |refine zogc 7 (eqCount_con x1) ⟨?_⟩
    |(refine aAny_pass 7 19 4 false rfl rfl (show 19 < 47 by decide) (by kernel_rfl) rfl ?_ ?_;(focus first | rfl | (simp only [zV,guardV,Nat.reduceEqDiff,reduceIte];done));simp only [zW,set_some,Nat.reduceEqDiff,reduceIte])
    refine zdgUnOp q21 true 8 20 ?_;refine zdPick q21 true 9 21 ?_;refine zdMove q21 true 10 22 ?_;refine zdgFieldAddr q21 true 11 23 ?_;refine zdgLoad q21 true 12 24 ?_
    first
    |refine zogc 13 (eqDay_con x2) ⟨?_⟩
    |(refine aAny_pass 13 25 10 false rfl rfl (show 25 < 47 by decide) (by kernel_rfl) rfl ?_ ?_;(focus first | rfl | (simp only [zV,guardV,Nat.reduceEqDiff,reduceIte];done));simp only [zW,set_some,Nat.reduceEqDiff,reduceIte])
    refine zdgUnOp q21 true 14 26 ?_;refine zdPick q21 true 15 27 ?_;refine zdMove q21 true 16 28 ?_;refine zdgMove q21 true 17 29 ?_;refine zdgBinOp q21 true 18 30 ?_;refine zdgMove q21 true 19 31 ?_;refine zdgMove q21 true 20 32 ?_;refine zdgMove q21 true 21 33 ?_;refine zdgBinOpW q21 true 22 34 ?_;refine zdgIndexAddr q21 true 23 35 ?_;refine zdgFieldAddr q21 true 24 36 ?_;refine zdgLoad q21 true 25 37 ?_;refine zdgFieldAddr q21 true 26 38 ?_;refine zdgLoad q21 true 27 39 ?_;refine zdgBinOp q21 true 28 40 ?_;refine zdgPick q21 true 29 41 ?_;refine zdPick q21 true 30 42 ?_;refine aAny_done (by kernel_rfl) ?_;refine k21 _ ?_;refine n20 _ _ (weak_keep [0,5,6,7,42] _) ?_;refine zk ⟨?_⟩;refine v_condS _ rfl ?_ ?_
    ·intro hc1
     have hb2:chainAt thOK thBf l i=false:=by
      rw [hst]
      revert hc1
      simp only [thOK,thBf]
      first
      |(cases strLt y0 x0<;>by_cases q1:1≤x1<;>by_cases q2:x1≤99<;>by_cases q3:0≤x2<;>by_cases q4:x2≤9999<;>cases tnB x0<;>simp [q1,q2,q3,q4]<;>(try omega);done)
      |(by_cases q1:1≤x1<;>by_cases q2:x1≤99<;>by_cases q3:0≤x2<;>by_cases q4:x2≤9999<;>cases tnB x0<;>simp [q1,q2,q3,q4]<;>(try omega);done)
     refine v_seqR [2] ?_;intro K23 k23;refine zAssign ⟨?_⟩;refine k23 _ ?_;refine zk ⟨?_⟩;refine v_ret ?_;refine r18 _ ?_;refine r17 _ ?_;refine r5 _ ?_;refine r4 _ ?_;refine r2 _ ?_;refine r0 _ ?_;refine zf ⟨?_⟩
     exact ret_pure rfl (by rw [thsB,←hR,hb2];rfl) (.inl rfl)
    ·intro hc1
     have hg2:chainAt thOK thBf l i=chainAt thOK thBf l (i+1):=by
      rw [hst]
      revert hc1
      simp only [thOK,thBf]
      first
      |(cases strLt y0 x0<;>by_cases q1:1≤x1<;>by_cases q2:x1≤99<;>by_cases q3:0≤x2<;>by_cases q4:x2≤9999<;>cases tnB x0<;>simp [q1,q2,q3,q4]<;>(try omega);done)
      |(by_cases q1:1≤x1<;>by_cases q2:x1≤99<;>by_cases q3:0≤x2<;>by_cases q4:x2≤9999<;>cases tnB x0<;>simp [q1,q2,q3,q4]<;>(try omega);done)
     refine v_skip ?_;refine n18 _ ?_;refine n17 _ _ (weak_keep [0,5,6,7] _) ?_;refine zk ⟨?_⟩;refine v_region ?_;intro K24 k24;refine zq6 ⟨?_⟩;refine k24 _ ?_;refine n5 _ (i+1) ?_ ?_ ?_
     ·refine weak_bothS [0,5,6,7] [] ⟨?_⟩
      rfl
     ·exact ⟨by omega,by rw [←hR,hg2]⟩
     ·show _ < _;omega
  ·intro hc0
   refine v_exit ?_;refine e7 _ _ ?_;refine e5 _ _ ?_;refine x4 _ ?_;refine n2 _ _ (weak_keep [0] _) ?_;refine zk ⟨?_⟩;refine v_seqR [2] ?_;intro K25 k25;refine zq5 ⟨?_⟩;refine zq28 ⟨?_⟩;refine k25 _ ?_;refine zk ⟨?_⟩;refine v_ret ?_;refine r0 _ ?_;refine zf ⟨?_⟩
   exact ret_pure rfl (by rw [thsB,←hR,chain_end (by omega)];simp) (.inl rfl)
set_option maxHeartbeats 1000000 in
theorem thingAt1_con (x0:ByteArray) (x1:Int) (x2:Int) (s:ByteArray):Con Tryd.prog 170 [.agg [V.str x0,V.int .i64 x1,V.int .i64 x2],.pv [.str s] 0 0] [] (.bool (decide (x0=s))) []:=by
 refine v_con [.tmp 3] [] Tryd.func170 rfl rfl rfl (by simp [Tryd.ntmps170]) ?_
 intro Q0 n0 r0
 simp only [Tryd.ntmps170,envFrom,Nat.reduceAdd]
 have T:=Tys.mk (And.intro Ty.t3 (And.intro Ty.t9 Ty.t93))
 have F:=Fc.mk True.intro
 refine v_seqR [1,2] ?_;intro K1 k1;refine zq21 ⟨?_⟩;refine k1 _ ?_;refine zk ⟨?_⟩;refine v_seqR [3] ?_;intro K2 k2;refine zq2 ⟨?_⟩;refine zLoad ⟨?_⟩;refine zq28 ⟨?_⟩;refine k2 _ ?_;refine zk ⟨?_⟩;refine v_ret ?_;refine r0 _ ?_;refine zf ⟨?_⟩
 exact ret_pure rfl (by first | rfl | simp) (.inl rfl)
set_option maxHeartbeats 1000000 in
theorem thingAt_con (l:List (ByteArray×Int×Int)) (s:ByteArray) (hl:l.length≤1048576):Con Tryd.prog 132 [.sl (l.map (fun t:ByteArray×Int×Int=>V.agg [V.str t.1,V.int .i64 t.2.1,V.int .i64 t.2.2])),.str s] [] (.int .i64 (atT l s)) []:=by
 refine v_con [.tmp 4] [] Tryd.func132 rfl rfl rfl (by simp [Tryd.ntmps132]) ?_
 intro Q0 n0 r0
 simp only [Tryd.ntmps132,envFrom,Nat.reduceAdd]
 have T:=Tys.mk (And.intro Ty.t3 (And.intro Ty.t9 (And.intro Ty.t63 Ty.t93)))
 have F:=Fc.mk True.intro
 refine v_seqR [0,3] ?_;intro K1 k1;refine zq21 ⟨?_⟩;refine k1 _ ?_;refine zk ⟨?_⟩;refine v_seqR [4] ?_;intro K2 k2;refine zMove ⟨?_⟩;refine zMakeFunc ⟨?_⟩;refine zc (indexFuncThing_con l _ _ (fun x=>decide (x.1=s)) hl (.pv _ .nil) (fun x0 x1 x2 _=>thingAt1_con x0 x1 x2 s)) ⟨?_⟩;refine zAssign ⟨?_⟩;refine k2 _ ?_;refine zk ⟨?_⟩;refine v_ret ?_;refine r0 _ ?_;refine zf ⟨?_⟩
 exact ret_pure rfl rfl (.inl rfl)
set_option maxHeartbeats 1000000 in
theorem countOf_con (l:List (ByteArray×Int×Int)) (s:ByteArray) (hl:l.length≤1048576):Con Tryd.prog 138 [.sl (l.map (fun t:ByteArray×Int×Int=>V.agg [V.str t.1,V.int .i64 t.2.1,V.int .i64 t.2.2])),.str s] [] (.int .i64 (cntOf l s)) []:=by
 refine v_con [.tmp 4] [] Tryd.func138 rfl rfl rfl (by simp [Tryd.ntmps138]) ?_
 intro Q0 n0 r0
 simp only [Tryd.ntmps138,envFrom,Nat.reduceAdd]
 have T:=Tys.mk (And.intro Ty.t3 (And.intro Ty.t9 (And.intro Ty.t63 Ty.t93)))
 have F:=Fc.mk True.intro
 rcases at_cases l s with ⟨hat,_,hcn⟩ | ⟨k,⟨y0,y1,y2⟩,hat,hy,hyn,hcn⟩
 ·skip
  have hkl:True:=trivial
  refine v_seqR [0,1] ?_;intro K1 k1
  have F:=Fc.mk hat
  refine zAssign ⟨?_⟩;refine k1 _ ?_;refine zk ⟨?_⟩;refine v_seq ?_;intro Q2 n2 e2 r2;refine v_seqR [0,5] ?_;intro K3 k3;refine zq3 ⟨?_⟩;refine zc (thingAt_con l s hl) ⟨?_⟩;refine zAssign ⟨?_⟩;refine k3 _ ?_;refine zk ⟨?_⟩;refine v_seqR [0,5,10] ?_;intro K4 k4;refine zq26 ⟨?_⟩;refine k4 _ ?_;refine zk ⟨?_⟩;refine v_cond _ rfl ?_ ?_
  ·intro hc0
   exfalso;simp at hc0
  ·intro hc0
   try simp only [zC,reduceCtorEq] at hc0
   refine v_skip ?_;refine n2 _ _ (weak_keep [] _) ?_;refine zk ⟨?_⟩;refine v_seqR [4] ?_;intro K6 k6;refine zAssign ⟨?_⟩;refine k6 _ ?_;refine zk ⟨?_⟩;refine v_ret ?_;refine r0 _ ?_;refine zf ⟨?_⟩
   exact ret_pure rfl (by rw [hcn]) (.inl rfl)
 ·skip
  have hkl:=(List.getElem?_eq_some_iff.1 hy).1
  refine v_seqR [0,1] ?_;intro K7 k7
  have F:=Fc.mk (And.intro hat (And.intro @Int.toNat_natCast (fun f=>getD_map (f:=f) hy)))
  refine zAssign ⟨?_⟩;refine k7 _ ?_;refine zk ⟨?_⟩;refine v_seq ?_;intro Q8 n8 e8 r8;refine v_seqR [0,5] ?_;intro K9 k9;refine zq3 ⟨?_⟩;refine zc (thingAt_con l s hl) ⟨?_⟩;refine zAssign ⟨?_⟩;refine k9 _ ?_;refine zk ⟨?_⟩;refine v_seqR [0,5,10] ?_;intro K10 k10;refine zq26 ⟨?_⟩;refine k10 _ ?_;refine zk ⟨?_⟩;refine v_cond _ rfl ?_ ?_
  ·intro hc0
   try simp only [zC,reduceCtorEq] at hc0
   refine v_seqR [4] ?_;intro K12 k12;refine zq55 ⟨?_⟩;refine zq2 ⟨?_⟩;refine zAssign ⟨?_⟩;refine k12 _ ?_;refine zk ⟨?_⟩;refine v_ret ?_;refine r8 _ ?_;refine r0 _ ?_;refine zf ⟨?_⟩
   exact ret_pure rfl (by rw [hcn]) (.inl rfl)
  ·intro hc0
   exfalso;simp at hc0
set_option maxHeartbeats 1000000 in
theorem eqFind_con (l:List (ByteArray×Int×Int)) (s:ByteArray) (hl:l.length≤1048576) (hs:SortedT l):Con Tryd.prog 134 [.sl (l.map (fun t:ByteArray×Int×Int=>V.agg [V.str t.1,V.int .i64 t.2.1,V.int .i64 t.2.2])),.str s] [] (.tup [.int .i64 (Nat.cast (lbT l s)),.bool (thereT l s)]) []:=by
 refine v_con [.tmp 4,.tmp 5] [] Tryd.func134 rfl rfl rfl (by simp [Tryd.ntmps134]) ?_
 intro Q0 n0 r0
 simp only [Tryd.ntmps134,envFrom,Nat.reduceAdd]
 have T:=Tys.mk (And.intro Ty.t3 (And.intro Ty.t9 (And.intro Ty.t63 Ty.t93)))
 have F:=Fc.mk True.intro
 refine v_seqR [0,1] ?_;intro K1 k1;refine zq1 ⟨?_⟩;refine k1 _ ?_;refine zk ⟨?_⟩;refine v_seqR [0,1,6] ?_;intro K2 k2;refine zAssign ⟨?_⟩;refine k2 _ ?_;refine zk ⟨?_⟩;refine v_seq ?_;intro Q3 n3 e3 r3;refine v_block ?_;intro Q4 n4 x4 e4 r4;refine v_loop (fun i=>⟨[(0,.sl (l.map (fun t:ByteArray×Int×Int=>V.agg [V.str t.1,V.int .i64 t.2.1,V.int .i64 t.2.2]))),(1,.str s),(6,.int .i64 (Nat.cast i))],[],false,36,0⟩) (fun i=>i≤l.length∧∀k x,l[k]? =some x→k < i→strLt x.1 s=true) (fun i=>l.length - i) 0 ?_ ?_ ?_
 ·refine weak_of [0,1,6] ?_
  simp only [keep_mk,keepE_nil,keepE_cons,look_cons,look_nil,Nat.reduceEqDiff,reduceIte]
  rfl
 ·exact ⟨Nat.zero_le _,fun k x _ h=>absurd h (Nat.not_lt_zero _)⟩
 ·rintro i hok5 Q5 n5 e5 r5
  obtain ⟨hi1,hR⟩:=hok5
  rcases Nat.lt_or_ge i l.length with hlt | hge
  ·skip
   obtain ⟨⟨x0,x1,x2⟩,hx⟩:∃x:ByteArray×Int×Int,l[i]? =some x:=⟨l[i]'(by omega),List.getElem?_eq_getElem (by omega)⟩
   have hil:((i:Int) < (l.length:Int)):=by omega
   refine v_seq ?_;intro Q6 n6 e6 r6;refine v_seqR [0,1,6,19] ?_;intro K7 k7
   have F:=Fc.mk (And.intro hil (And.intro @decide_true (fun f=>getD_map (f:=f) hx)))
   refine zq54 ⟨?_⟩;refine zq52 ⟨?_⟩;refine zq58 ⟨?_⟩;refine k7 _ ?_;refine zk ⟨?_⟩;refine v_condS _ rfl ?_ ?_
   ·intro hc0
    have hls2:∀k x,l[k]? =some x→k < i+1→strLt x.1 s=true:=by
     intro k y hk hlt2
     rcases Nat.lt_or_ge k i with q | q
     ·exact hR k y hk q
     ·have e:k=i:=by omega
      subst e;rw [hx] at hk;cases hk;simpa using hc0
    refine v_skip ?_;refine n6 _ _ (weak_keep [0,1,6] _) ?_;refine zk ⟨?_⟩;refine v_block ?_;intro Q9 n9 x9 e9 r9;refine v_region ?_;intro K10 k10;refine zMove ⟨?_⟩;refine zq25 ⟨?_⟩;refine k10 _ ?_;refine n9 _ ?_;refine n5 _ (i+1) ?_ ?_ ?_
    ·refine weak_bothS [0,1,6] [] ⟨?_⟩
     rfl
    ·exact ⟨by omega,hls2⟩
    ·show _ < _;omega
   ·intro hc0
    refine v_exit ?_;refine e6 _ _ ?_;refine e5 _ _ ?_;refine x4 _ ?_;refine n3 _ _ (weak_keep [0,1,6] _) ?_;refine zk ⟨?_⟩;refine v_seq ?_;intro Q11 n11 e11 r11;refine v_draw (by kernel_rfl) ?_;intro K12 q12 k12
    show aAny _ _ _ _ 16 (Array.replicate 16 false) _
    refine zdMove q12 true 0 22 ?_;refine zdMove q12 true 1 23 ?_;refine zdMove q12 true 2 24 ?_;refine zdLen q12 true 3 25 ?_;refine zdBinOp q12 true 4 26 ?_;refine zdMove q12 true 5 27 ?_;refine zdgMove q12 true 6 28 ?_;refine zdgMove q12 true 7 29 ?_;refine zdgIndexAddr q12 true 8 30 ?_;refine zdgFieldAddr q12 true 9 31 ?_;refine zdgLoad q12 true 10 32 ?_;refine zdgMove q12 true 11 33 ?_;refine zdgBinOp q12 true 12 34 ?_;refine zdPick q12 true 13 35 ?_;refine zoAssign 14 ⟨?_⟩;refine zoAssign 15 ⟨?_⟩;refine aAny_done (by kernel_rfl) ?_;refine k12 _ ?_;refine n11 _ _ (weak_keep [4,5] _) ?_;refine zk ⟨?_⟩;refine v_ret ?_;refine r0 _ ?_;refine zf ⟨?_⟩
    obtain ⟨e1,e2⟩:=lb_stop hs hx (by simpa using hc0) hR
    exact ret_pure rfl (by rw [←e1,e2]) (.inl rfl)
  ·skip
   have hil:¬((i:Int) < (l.length:Int)):=by omega
   refine v_seq ?_;intro Q13 n13 e13 r13;refine v_seqR [0,1,6,19] ?_;intro K14 k14
   have F:=Fc.mk (And.intro hil @decide_false)
   refine zq54 ⟨?_⟩;refine zq52 ⟨?_⟩;refine zq58 ⟨?_⟩;refine k14 _ ?_;refine zk ⟨?_⟩;refine v_cond _ rfl ?_ ?_
   ·intro hc0
    exfalso;simp at hc0
   ·intro hc0
    try simp only [zC,reduceCtorEq] at hc0
    refine v_exit ?_;refine e13 _ _ ?_;refine e5 _ _ ?_;refine x4 _ ?_;refine n3 _ _ (weak_keep [0,1,6] _) ?_;refine zk ⟨?_⟩;refine v_seq ?_;intro Q16 n16 e16 r16;refine v_draw (by kernel_rfl) ?_;intro K17 q17 k17
    show aAny _ _ _ _ 16 (Array.replicate 16 false) _
    refine zdMove q17 true 0 22 ?_;refine zdMove q17 true 1 23 ?_;refine zdMove q17 true 2 24 ?_;refine zdLen q17 true 3 25 ?_;refine zdBinOp q17 true 4 26 ?_;refine zdMove q17 true 5 27 ?_;refine zdgMove q17 true 6 28 ?_;refine zdgMove q17 true 7 29 ?_;refine zdgIndexAddr q17 true 8 30 ?_;refine zdgFieldAddr q17 true 9 31 ?_;refine zdgLoad q17 true 10 32 ?_;refine zdgMove q17 true 11 33 ?_;refine zdgBinOp q17 true 12 34 ?_;refine zdPick q17 true 13 35 ?_;refine zoAssign 14 ⟨?_⟩;refine zoAssign 15 ⟨?_⟩;refine aAny_done (by kernel_rfl) ?_;refine k17 _ ?_;refine n16 _ _ (weak_keep [4,5] _) ?_;refine zk ⟨?_⟩;refine v_ret ?_;refine r0 _ ?_;refine zf ⟨?_⟩
    obtain ⟨e1,e2⟩:=lb_end hs (by omega) (by omega) hR
    exact ret_pure rfl (by rw [←e1,e2]) (.inl rfl)
set_option maxHeartbeats 1000000 in
theorem eqHas_con (l:List (ByteArray×Int×Int)) (s:ByteArray) (hl:l.length≤1048576) (hs:SortedT l):Con Tryd.prog 125 [.sl (l.map (fun t:ByteArray×Int×Int=>V.agg [V.str t.1,V.int .i64 t.2.1,V.int .i64 t.2.2])),.str s] [] (.int .i64 (cntOf l s)) []:=by
 refine v_con [.tmp 4] [] Tryd.func125 rfl rfl rfl (by simp [Tryd.ntmps125]) ?_
 intro Q0 n0 r0
 simp only [Tryd.ntmps125,envFrom,Nat.reduceAdd]
 have T:=Tys.mk (And.intro Ty.t3 (And.intro Ty.t4 (And.intro Ty.t9 (And.intro Ty.t63 Ty.t93))))
 have F:=Fc.mk True.intro
 rcases there_cases hs s with ⟨hth,_,_,hcn⟩ | ⟨⟨y0,y1,y2⟩,hth,_,hy,hyn,hcn⟩
 ·skip
  have hkl:True:=trivial
  refine v_seqR [0,1] ?_;intro K1 k1
  have F:=Fc.mk hth
  refine zAssign ⟨?_⟩;refine k1 _ ?_;refine zk ⟨?_⟩;refine v_seqR [0,5,6] ?_;intro K2 k2;refine zq3 ⟨?_⟩;refine zc (eqFind_con l s hl hs) ⟨?_⟩;refine zq16 ⟨?_⟩;refine k2 _ ?_;refine zk ⟨?_⟩;refine v_seq ?_;intro Q3 n3 e3 r3;refine v_seqR [0,5,14] ?_;intro K4 k4;refine zq59 ⟨?_⟩;refine k4 _ ?_;refine zk ⟨?_⟩;refine v_cond _ rfl ?_ ?_
  ·intro hc0
   try simp only [zC,reduceCtorEq] at hc0
   refine v_seqR [4] ?_;intro K6 k6;refine zAssign ⟨?_⟩;refine k6 _ ?_;refine zk ⟨?_⟩;refine v_ret ?_;refine r3 _ ?_;refine r0 _ ?_;refine zf ⟨?_⟩
   exact ret_pure rfl (by rw [hcn]) (.inl rfl)
  ·intro hc0
   exfalso;simp at hc0
 ·skip
  have hkl:=(List.getElem?_eq_some_iff.1 hy).1
  refine v_seqR [0,1] ?_;intro K7 k7
  have F:=Fc.mk (And.intro hth (And.intro @Int.toNat_natCast (fun f=>getD_map (f:=f) hy)))
  refine zAssign ⟨?_⟩;refine k7 _ ?_;refine zk ⟨?_⟩;refine v_seqR [0,5,6] ?_;intro K8 k8;refine zq3 ⟨?_⟩;refine zc (eqFind_con l s hl hs) ⟨?_⟩;refine zq16 ⟨?_⟩;refine k8 _ ?_;refine zk ⟨?_⟩;refine v_seq ?_;intro Q9 n9 e9 r9;refine v_seqR [0,5,14] ?_;intro K10 k10;refine zq59 ⟨?_⟩;refine k10 _ ?_;refine zk ⟨?_⟩;refine v_cond _ rfl ?_ ?_
  ·intro hc0
   exfalso;simp at hc0
  ·intro hc0
   try simp only [zC,reduceCtorEq] at hc0
   refine v_skip ?_;refine n9 _ _ (weak_keep [0,5] _) ?_;refine zk ⟨?_⟩;refine v_seqR [4] ?_;intro K12 k12;refine zq55 ⟨?_⟩;refine zq2 ⟨?_⟩;refine zAssign ⟨?_⟩;refine k12 _ ?_;refine zk ⟨?_⟩;refine v_ret ?_;refine r0 _ ?_;refine zf ⟨?_⟩
   exact ret_pure rfl (by rw [hcn]) (.inl rfl)
set_option maxHeartbeats 1000000 in
theorem missingThings_con (w t:List (ByteArray×Int×Int)) (hwl:w.length≤1048576) (htl:t.length≤1048576) (hwb:∀x∈w,1≤x.2.1∧x.2.1≤99) (htb:∀x∈t,1≤x.2.1∧x.2.1≤99):Con Tryd.prog 142 [.sl (w.map (fun t:ByteArray×Int×Int=>V.agg [V.str t.1,V.int .i64 t.2.1,V.int .i64 t.2.2])),.sl (t.map (fun t:ByteArray×Int×Int=>V.agg [V.str t.1,V.int .i64 t.2.1,V.int .i64 t.2.2]))] [] (.ref 0) [.arr ((missL w t).map (fun t:ByteArray×Int×Int=>V.agg [V.str t.1,V.int .i64 t.2.1,V.int .i64 t.2.2])) .flat]:=by
 refine v_con [.tmp 4] [] Tryd.func142 rfl rfl rfl (by simp [Tryd.ntmps142]) ?_
 intro Q0 n0 r0
 simp only [Tryd.ntmps142,envFrom,Nat.reduceAdd]
 have T:=Tys.mk (And.intro Ty.t3 (And.intro Ty.t9 (And.intro Ty.t63 Ty.t93)))
 have F:=Fc.mk True.intro
 refine v_seqR [0,1] ?_;intro K1 k1;refine zAssign ⟨?_⟩;refine k1 _ ?_;refine zk ⟨?_⟩;refine v_seqR [0,1,5] ?_;intro K2 k2;refine zAssign ⟨?_⟩;refine k2 _ ?_;refine zk ⟨?_⟩;refine v_seq ?_;intro Q3 n3 e3 r3;refine v_seqR [1,5,9,10,11] ?_;intro K4 k4;refine zq14 ⟨?_⟩;refine k4 _ ?_;refine zk ⟨?_⟩;refine v_block ?_;intro Q5 n5 x5 e5 r5;refine v_loop (fun i=>⟨[(1,.sl (t.map (fun t:ByteArray×Int×Int=>V.agg [V.str t.1,V.int .i64 t.2.1,V.int .i64 t.2.2]))),(5,.ref 0),(9,.sl (w.map (fun t:ByteArray×Int×Int=>V.agg [V.str t.1,V.int .i64 t.2.1,V.int .i64 t.2.2]))),(10,.int .i64 w.length),(11,.int .i64 (Nat.cast i))],[.arr ((missL (w.take i) t).map (fun t:ByteArray×Int×Int=>V.agg [V.str t.1,V.int .i64 t.2.1,V.int .i64 t.2.2])) .flat],false,33,0⟩) (fun i=>i≤w.length) (fun i=>w.length - i) 0 ?_ ?_ ?_
 ·refine weak_bothS [1,5,9,10,11] [1] ⟨?_⟩
  rfl
 ·exact Nat.zero_le _
 ·rintro i hok6 Q6 n6 e6 r6
  have hi1:i≤w.length:=hok6
  refine v_seqR [1,5,9,10,11,12] ?_;intro K7 k7;refine zBinOp ⟨?_⟩;refine k7 _ ?_;refine zk ⟨?_⟩;refine v_seq ?_;intro Q8 n8 e8 r8;refine v_condS _ rfl ?_ ?_
  ·intro hc0
   have hlt:i < w.length:=by omega
   obtain ⟨⟨x0,x1,x2⟩,hx⟩:∃x:ByteArray×Int×Int,w[i]? =some x:=⟨w[i]'(by omega),List.getElem?_eq_getElem (by omega)⟩
   have hxb:=hwb _ (List.mem_of_getElem? hx)
   have hcb:=cnt_bound htb x0
   simp only [] at hxb
   have hlen:=missL_len (w.take i) t
   rw [List.length_take] at hlen
   refine v_skip ?_;refine n8 _ _ (weak_keep [1,5,9,10,11] _) ?_;refine zk ⟨?_⟩;refine v_seq ?_;intro Q10 n10 e10 r10;refine v_block ?_;intro Q11 n11 x11 e11 r11;refine v_seqR [1,5,7,9,10,11] ?_;intro K12 k12
   have F:=Fc.mk (fun f=>getD_map (f:=f) hx)
   refine zq23 ⟨?_⟩;refine k12 _ ?_;refine zk ⟨?_⟩;refine v_seq ?_;intro Q13 n13 e13 r13;refine v_draw (by kernel_rfl) ?_;intro K14 q14 k14
   show aAny _ _ _ _ 8 (Array.replicate 8 false) _
   refine zdFieldAddr q14 true 0 15 ?_;refine zdLoad q14 true 1 16 ?_;refine zdMove q14 true 2 17 ?_;refine zdFieldAddr q14 true 3 18 ?_;refine zdLoad q14 true 4 19 ?_;refine zoc 5 (countOf_con t x0 htl) ⟨?_⟩;refine zdBinOpW q14 true 6 21 ?_;refine zoAssign 7 ⟨?_⟩;refine aAny_done (by kernel_rfl) ?_;refine k14 _ ?_;refine n13 _ _ (weak_keep [1,5,7,8,9,10,11] _) ?_;refine zk ⟨?_⟩;refine v_seqR [1,5,7,8,9,10,11,23] ?_;intro K15 k15;refine zq26 ⟨?_⟩;refine k15 _ ?_;refine zk ⟨?_⟩;refine v_condS _ rfl ?_ ?_
   ·intro hc1
    have hst:missF t (x0,x1,x2)=[(x0,x1 - cntOf t x0,0)]:=by unfold missF;rw [if_pos (by first | omega | (have h:=hc1;simp at h⊢;omega))]
    have hsm:(missL (w.take i) t).map (fun t:ByteArray×Int×Int=>V.agg [V.str t.1,V.int .i64 t.2.1,V.int .i64 t.2.2])++[V.agg [V.str x0,V.int .i64 (x1 - cntOf t x0),V.int .i64 0]]=(missL (w.take (i+1)) t).map (fun t:ByteArray×Int×Int=>V.agg [V.str t.1,V.int .i64 t.2.1,V.int .i64 t.2.2]):=by unfold missL;rw [flatMap_step hx,hst,List.map_append];rfl
    refine v_region ?_;intro K17 k17;refine zMove ⟨?_⟩;refine zq11 ⟨?_⟩;refine zBuild ⟨?_⟩;refine zq35 ⟨?_⟩;refine k17 _ ?_;refine n11 _ ?_;refine n10 _ _ (weak_keep [1,5,9,10,11] _) ?_;refine zk ⟨?_⟩;refine v_region ?_;intro K18 k18;refine zq6 ⟨?_⟩;refine k18 _ ?_;refine n6 _ (i+1) ?_ ?_ ?_
    ·refine weak_bothS [1,5,9,10,11] [3] ⟨?_⟩
     rw [←hsm];rfl
    ·exact hlt
    ·show _ < _;omega
   ·intro hc1
    have hst:missF t (x0,x1,x2)=[]:=by unfold missF;rw [if_neg (by first | omega | (have h:=hc1;simp at h⊢;omega))]
    have hsm:missL (w.take i) t=missL (w.take (i+1)) t:=by unfold missL;rw [flatMap_step hx,hst,List.append_nil]
    refine v_skip ?_;refine n11 _ ?_;refine n10 _ _ (weak_keep [1,5,9,10,11] _) ?_;refine zk ⟨?_⟩;refine v_region ?_;intro K19 k19;refine zq6 ⟨?_⟩;refine k19 _ ?_;refine n6 _ (i+1) ?_ ?_ ?_
    ·refine weak_bothS [1,5,9,10,11] [0] ⟨?_⟩
     rw [←hsm];rfl
    ·exact hlt
    ·show _ < _;omega
  ·intro hc0
   refine v_exit ?_;refine e8 _ _ ?_;refine e6 _ _ ?_;refine x5 _ ?_;refine n3 _ _ (weak_keep [5] _) ?_;refine zk ⟨?_⟩;refine v_seqR [4] ?_;intro K20 k20;refine zq19 ⟨?_⟩;refine k20 _ ?_;refine zk ⟨?_⟩;refine v_ret ?_;refine r0 _ ?_;refine zf ⟨?_⟩
   have hend:w.take i=w:=List.take_of_length_le (by omega)
   rw [hend]
   exact ret_ref rfl (.inl rfl)
set_option maxHeartbeats 1000000 in
theorem eqMissing_con (w t:List (ByteArray×Int×Int)) (hwl:w.length≤1048576) (htl:t.length≤1048576) (hwb:∀x∈w,1≤x.2.1∧x.2.1≤99) (htb:∀x∈t,1≤x.2.1∧x.2.1≤99) (hts:SortedT t):Con Tryd.prog 124 [.sl (w.map (fun t:ByteArray×Int×Int=>V.agg [V.str t.1,V.int .i64 t.2.1,V.int .i64 t.2.2])),.sl (t.map (fun t:ByteArray×Int×Int=>V.agg [V.str t.1,V.int .i64 t.2.1,V.int .i64 t.2.2]))] [] (.ref 0) [.arr ((missL w t).map (fun t:ByteArray×Int×Int=>V.agg [V.str t.1,V.int .i64 t.2.1,V.int .i64 t.2.2])) .flat]:=by
 refine v_con [.tmp 4] [] Tryd.func124 rfl rfl rfl (by simp [Tryd.ntmps124]) ?_
 intro Q0 n0 r0
 simp only [Tryd.ntmps124,envFrom,Nat.reduceAdd]
 have T:=Tys.mk (And.intro Ty.t3 (And.intro Ty.t9 (And.intro Ty.t63 Ty.t93)))
 have F:=Fc.mk True.intro
 refine v_seqR [0,1] ?_;intro K1 k1;refine zAssign ⟨?_⟩;refine k1 _ ?_;refine zk ⟨?_⟩;refine v_seqR [0,1,5] ?_;intro K2 k2;refine zAssign ⟨?_⟩;refine k2 _ ?_;refine zk ⟨?_⟩;refine v_seq ?_;intro Q3 n3 e3 r3;refine v_seqR [1,5,9,10,11] ?_;intro K4 k4;refine zq14 ⟨?_⟩;refine k4 _ ?_;refine zk ⟨?_⟩;refine v_block ?_;intro Q5 n5 x5 e5 r5;refine v_loop (fun i=>⟨[(1,.sl (t.map (fun t:ByteArray×Int×Int=>V.agg [V.str t.1,V.int .i64 t.2.1,V.int .i64 t.2.2]))),(5,.ref 0),(9,.sl (w.map (fun t:ByteArray×Int×Int=>V.agg [V.str t.1,V.int .i64 t.2.1,V.int .i64 t.2.2]))),(10,.int .i64 w.length),(11,.int .i64 (Nat.cast i))],[.arr ((missL (w.take i) t).map (fun t:ByteArray×Int×Int=>V.agg [V.str t.1,V.int .i64 t.2.1,V.int .i64 t.2.2])) .flat],false,33,0⟩) (fun i=>i≤w.length) (fun i=>w.length - i) 0 ?_ ?_ ?_
 ·refine weak_bothS [1,5,9,10,11] [1] ⟨?_⟩
  rfl
 ·exact Nat.zero_le _
 ·rintro i hok6 Q6 n6 e6 r6
  have hi1:i≤w.length:=hok6
  refine v_seqR [1,5,9,10,11,12] ?_;intro K7 k7;refine zBinOp ⟨?_⟩;refine k7 _ ?_;refine zk ⟨?_⟩;refine v_seq ?_;intro Q8 n8 e8 r8;refine v_condS _ rfl ?_ ?_
  ·intro hc0
   have hlt:i < w.length:=by omega
   obtain ⟨⟨x0,x1,x2⟩,hx⟩:∃x:ByteArray×Int×Int,w[i]? =some x:=⟨w[i]'(by omega),List.getElem?_eq_getElem (by omega)⟩
   have hxb:=hwb _ (List.mem_of_getElem? hx)
   have hcb:=cnt_bound htb x0
   simp only [] at hxb
   have hlen:=missL_len (w.take i) t
   rw [List.length_take] at hlen
   refine v_skip ?_;refine n8 _ _ (weak_keep [1,5,9,10,11] _) ?_;refine zk ⟨?_⟩;refine v_seq ?_;intro Q10 n10 e10 r10;refine v_block ?_;intro Q11 n11 x11 e11 r11;refine v_seqR [1,5,7,9,10,11] ?_;intro K12 k12
   have F:=Fc.mk (fun f=>getD_map (f:=f) hx)
   refine zq23 ⟨?_⟩;refine k12 _ ?_;refine zk ⟨?_⟩;refine v_seq ?_;intro Q13 n13 e13 r13;refine v_draw (by kernel_rfl) ?_;intro K14 q14 k14
   show aAny _ _ _ _ 8 (Array.replicate 8 false) _
   refine zdFieldAddr q14 true 0 15 ?_;refine zdLoad q14 true 1 16 ?_;refine zdMove q14 true 2 17 ?_;refine zdFieldAddr q14 true 3 18 ?_;refine zdLoad q14 true 4 19 ?_;refine zoc 5 (eqHas_con t x0 htl hts) ⟨?_⟩;refine zdBinOpW q14 true 6 21 ?_;refine zoAssign 7 ⟨?_⟩;refine aAny_done (by kernel_rfl) ?_;refine k14 _ ?_;refine n13 _ _ (weak_keep [1,5,7,8,9,10,11] _) ?_;refine zk ⟨?_⟩;refine v_seqR [1,5,7,8,9,10,11,23] ?_;intro K15 k15;refine zq26 ⟨?_⟩;refine k15 _ ?_;refine zk ⟨?_⟩;refine v_condS _ rfl ?_ ?_
   ·intro hc1
    have hst:missF t (x0,x1,x2)=[(x0,x1 - cntOf t x0,0)]:=by unfold missF;rw [if_pos (by first | omega | (have h:=hc1;simp at h⊢;omega))]
    have hsm:(missL (w.take i) t).map (fun t:ByteArray×Int×Int=>V.agg [V.str t.1,V.int .i64 t.2.1,V.int .i64 t.2.2])++[V.agg [V.str x0,V.int .i64 (x1 - cntOf t x0),V.int .i64 0]]=(missL (w.take (i+1)) t).map (fun t:ByteArray×Int×Int=>V.agg [V.str t.1,V.int .i64 t.2.1,V.int .i64 t.2.2]):=by unfold missL;rw [flatMap_step hx,hst,List.map_append];rfl
    refine v_region ?_;intro K17 k17;refine zMove ⟨?_⟩;refine zq11 ⟨?_⟩;refine zBuild ⟨?_⟩;refine zq35 ⟨?_⟩;refine k17 _ ?_;refine n11 _ ?_;refine n10 _ _ (weak_keep [1,5,9,10,11] _) ?_;refine zk ⟨?_⟩;refine v_region ?_;intro K18 k18;refine zq6 ⟨?_⟩;refine k18 _ ?_;refine n6 _ (i+1) ?_ ?_ ?_
    ·refine weak_bothS [1,5,9,10,11] [3] ⟨?_⟩
     rw [←hsm];rfl
    ·exact hlt
    ·show _ < _;omega
   ·intro hc1
    have hst:missF t (x0,x1,x2)=[]:=by unfold missF;rw [if_neg (by first | omega | (have h:=hc1;simp at h⊢;omega))]
    have hsm:missL (w.take i) t=missL (w.take (i+1)) t:=by unfold missL;rw [flatMap_step hx,hst,List.append_nil]
    refine v_skip ?_;refine n11 _ ?_;refine n10 _ _ (weak_keep [1,5,9,10,11] _) ?_;refine zk ⟨?_⟩;refine v_region ?_;intro K19 k19;refine zq6 ⟨?_⟩;refine k19 _ ?_;refine n6 _ (i+1) ?_ ?_ ?_
    ·refine weak_bothS [1,5,9,10,11] [0] ⟨?_⟩
     rw [←hsm];rfl
    ·exact hlt
    ·show _ < _;omega
  ·intro hc0
   refine v_exit ?_;refine e8 _ _ ?_;refine e6 _ _ ?_;refine x5 _ ?_;refine n3 _ _ (weak_keep [5] _) ?_;refine zk ⟨?_⟩;refine v_seqR [4] ?_;intro K20 k20;refine zq19 ⟨?_⟩;refine k20 _ ?_;refine zk ⟨?_⟩;refine v_ret ?_;refine r0 _ ?_;refine zf ⟨?_⟩
   have hend:w.take i=w:=List.take_of_length_le (by omega)
   rw [hend]
   exact ret_ref rfl (.inl rfl)
set_option maxHeartbeats 1000000 in
theorem implMissing_con (w t:List (ByteArray×Int×Int)) (hwl:w.length≤1048576) (htl:t.length≤1048576) (hws:∀x∈w,x.1.size≤9223372036854775807) (hts:∀x∈t,x.1.size≤9223372036854775807):Con Tryd.prog 70 [.sl (w.map (fun t:ByteArray×Int×Int=>V.agg [V.str t.1,V.int .i64 t.2.1,V.int .i64 t.2.2])),.sl (t.map (fun t:ByteArray×Int×Int=>V.agg [V.str t.1,V.int .i64 t.2.1,V.int .i64 t.2.2]))] [] (.tup [.ref 0,.bool (thsB w && thsB t)]) [.arr ((missR w t).map (fun t:ByteArray×Int×Int=>V.agg [V.str t.1,V.int .i64 t.2.1,V.int .i64 t.2.2])) .flat]:=by
 refine v_con [.tmp 4,.tmp 5] [] Tryd.func70 rfl rfl rfl (by simp [Tryd.ntmps70]) ?_
 intro Q0 n0 r0
 simp only [Tryd.ntmps70,envFrom,Nat.reduceAdd]
 have T:=Tys.mk (And.intro Ty.t3 (And.intro Ty.t4 (And.intro Ty.t9 (And.intro Ty.t63 Ty.t93))))
 have F:=Fc.mk True.intro
 refine v_seqR [0,1] ?_;intro K1 k1;refine zq1 ⟨?_⟩;refine k1 _ ?_;refine zk ⟨?_⟩;refine v_seq ?_;intro Q2 n2 e2 r2;refine v_seqR [0,1,13] ?_;intro K3 k3;refine zMove ⟨?_⟩;refine zc (areThings_con w hwl hws) ⟨?_⟩;refine zq18 ⟨?_⟩;refine zgc (areThings_con t htl hts) ⟨?_⟩;refine zq12 ⟨?_⟩;refine k3 _ ?_;refine zk ⟨?_⟩;refine v_condS _ rfl ?_ ?_
 ·intro hc0
  have hB:(thsB w && thsB t)=false:=by
   cases h1:thsB w<;>cases h2:thsB t<;>first | rfl | (exfalso;simp [h1,h2] at hc0)
  have hmR:missR w t=[]:=by rw [missR,hB];rfl
  have hsR:spareR w t=[]:=by rw [spareR,hB];rfl
  refine v_seqR [4,5] ?_;intro K5 k5;refine zq1 ⟨?_⟩;refine k5 _ ?_;refine zk ⟨?_⟩;refine v_ret ?_;refine r2 _ ?_;refine r0 _ ?_;refine zf ⟨?_⟩
  rw [hmR,hB]
  exact ret_ref_tup rfl rfl rfl (.inl rfl)
 ·intro hc0
  have hB:(thsB w && thsB t)=true:=by
   cases h1:thsB w<;>cases h2:thsB t<;>first | rfl | (exfalso;simp [h1,h2] at hc0)
  have hB2:=hB
  rw [Bool.and_eq_true] at hB2
  have hwk:=(ths_iff w).1 hB2.1
  have htk:=(ths_iff t).1 hB2.2
  have hwb:∀x∈w,1≤x.2.1∧x.2.1≤99:=fun x h=>(hwk.ok x h).2.1
  have htb:∀x∈t,1≤x.2.1∧x.2.1≤99:=fun x h=>(htk.ok x h).2.1
  have hmR:missR w t=missL w t:=by rw [missR,if_pos hB]
  have hsR:spareR w t=spareL w t:=by rw [spareR,if_pos hB]
  refine v_skip ?_;refine n2 _ _ (weak_keep [0,1] _) ?_;refine zk ⟨?_⟩;refine v_seqR [4,5] ?_;intro K6 k6;refine zq3 ⟨?_⟩;refine zc (missingThings_con w t hwl htl hwb htb) ⟨?_⟩;refine zq1 ⟨?_⟩;refine k6 _ ?_;refine zk ⟨?_⟩;refine v_ret ?_;refine r0 _ ?_;refine zf ⟨?_⟩
  rw [hmR,hB]
  exact ret_ref_tup rfl rfl rfl (.inl rfl)
set_option maxHeartbeats 1000000 in
theorem jnName_con (s:ByteArray) (hs:s.size≤9223372036854775807):Con Tryd.prog 168 [.str s] [] (.bool (nameB s)) []:=by
 refine v_con [.tmp 2] [] Tryd.func168 rfl rfl rfl (by simp [Tryd.ntmps168]) ?_
 intro Q0 n0 r0
 simp only [Tryd.ntmps168,envFrom,Nat.reduceAdd]
 have T:=Tys.mk (And.intro Ty.t3 (And.intro Ty.t4 (And.intro Ty.t5 Ty.t9)))
 have F:=Fc.mk True.intro
 refine v_seqR [0] ?_;intro K1 k1;refine zAssign ⟨?_⟩;refine k1 _ ?_;refine zk ⟨?_⟩;refine v_seq ?_;intro Q2 n2 e2 r2;refine v_seqR [0,3] ?_;intro K3 k3;refine zAssign ⟨?_⟩;refine k3 _ ?_;refine zk ⟨?_⟩;refine v_block ?_;intro Q4 n4 x4 e4 r4;refine v_loop (fun i=>⟨[(0,.str s),(3,.int .i64 (Nat.cast i))],[],false,40,0⟩) (fun i=>i≤s.size∧∀j,j < i→okAt s j=true) (fun i=>s.size - i) 0 ?_ ?_ ?_
 ·refine weak_of [0,3] ?_
  simp only [keep_mk,keepE_nil,keepE_cons,look_cons,look_nil,Nat.reduceEqDiff,reduceIte]
  rfl
 ·exact ⟨Nat.zero_le _,fun j h=>absurd h (Nat.not_lt_zero _)⟩
 ·rintro i hok5 Q5 n5 e5 r5
  obtain ⟨hi1,hR⟩:=hok5
  refine v_seq ?_;intro Q6 n6 e6 r6;refine v_seqR [0,3,7] ?_;intro K7 k7;refine zq54 ⟨?_⟩;refine zBinOp ⟨?_⟩;refine k7 _ ?_;refine zk ⟨?_⟩;refine v_condS _ rfl ?_ ?_
  ·intro hc0
   have hlt:i < s.size:=by omega
   refine v_skip ?_;refine n6 _ _ (weak_keep [0,3] _) ?_;refine zk ⟨?_⟩;refine v_seq ?_;intro Q9 n9 e9 r9;refine v_block ?_;intro Q10 n10 x10 e10 r10;refine v_seqR [0,3,36] ?_;intro K11 k11;refine zq3 ⟨?_⟩;refine zIndex ⟨?_⟩;refine zq52 ⟨?_⟩;refine zgIndex ⟨?_⟩;refine zq8 ⟨?_⟩;refine zq18 ⟨?_⟩;refine zgBinOp ⟨?_⟩;refine zgMove ⟨?_⟩;refine zgMove ⟨?_⟩;refine zgMove ⟨?_⟩;refine zgIndex ⟨?_⟩;refine zgBinOp ⟨?_⟩;refine zgPick ⟨?_⟩;refine zgMove ⟨?_⟩;refine zgMove ⟨?_⟩;refine zgMove ⟨?_⟩;refine zgIndex ⟨?_⟩;refine zgBinOp ⟨?_⟩;refine zgPick ⟨?_⟩;refine zPick ⟨?_⟩;refine k11 _ ?_;refine zk ⟨?_⟩;refine v_condS _ rfl ?_ ?_
   ·intro hc1
    have hbad:okAt s i=false:=by simp only [okAt,Bool.or_eq_false_iff,Bool.and_eq_false_imp,decide_eq_true_eq,decide_eq_false_iff_not,Bool.not_eq_false',Bool.and_eq_true];omega
    refine v_seqR [2] ?_;intro K13 k13;refine zAssign ⟨?_⟩;refine k13 _ ?_;refine zk ⟨?_⟩;refine v_ret ?_;refine r10 _ ?_;refine r9 _ ?_;refine r5 _ ?_;refine r4 _ ?_;refine r2 _ ?_;refine r0 _ ?_;refine zf ⟨?_⟩
    exact ret_pure rfl (by rw [name_bad hlt hbad]) (.inl rfl)
   ·intro hc1
    have hgood:okAt s i=true:=by simp only [okAt,Bool.or_eq_true,Bool.and_eq_true,decide_eq_true_eq,Bool.not_eq_true',decide_eq_false_iff_not];omega
    refine v_skip ?_;refine n10 _ ?_;refine n9 _ _ (weak_keep [0,3] _) ?_;refine zk ⟨?_⟩;refine v_region ?_;intro K14 k14;refine zMove ⟨?_⟩;refine zq25 ⟨?_⟩;refine k14 _ ?_;refine n5 _ (i+1) ?_ ?_ ?_
    ·refine weak_of [0,3] ?_
     simp only [keep_mk,keepE_nil,keepE_cons,look_cons,look_nil,Nat.reduceEqDiff,reduceIte]
     rfl
    ·exact ⟨by omega,ok_step hR hgood⟩
    ·show _ < _;omega
  ·intro hc0
   refine v_exit ?_;refine e6 _ _ ?_;refine e5 _ _ ?_;refine x4 _ ?_;refine n2 _ _ (weak_keep [0] _) ?_;refine zk ⟨?_⟩;refine v_seqR [2] ?_;intro K15 k15;refine zq5 ⟨?_⟩;refine zc (l1In_con _ _ _) ⟨?_⟩;refine zAssign ⟨?_⟩;refine k15 _ ?_;refine zk ⟨?_⟩;refine v_ret ?_;refine r0 _ ?_;refine zf ⟨?_⟩
   exact ret_pure rfl (by rw [name_good (by omega) hR]) (.inl rfl)
set_option maxHeartbeats 1000000 in
theorem isLoad_con (a:ByteArray) (l:List (ByteArray×Int×Int)) (ha:a.size≤9223372036854775807) (hl:l.length≤1048576) (hls:∀t∈l,t.1.size≤9223372036854775807):Con Tryd.prog 117 [.agg [.str a,.sl (l.map (fun t:ByteArray×Int×Int=>V.agg [V.str t.1,V.int .i64 t.2.1,V.int .i64 t.2.2]))]] [] (.bool (nameB a && thsB l)) []:=by
 refine v_con [.tmp 2] [] Tryd.func117 rfl rfl rfl (by simp [Tryd.ntmps117]) ?_
 intro Q0 n0 r0
 simp only [Tryd.ntmps117,envFrom,Nat.reduceAdd]
 have T:=Tys.mk (And.intro Ty.t3 (And.intro Ty.t4 (And.intro Ty.t9 (And.intro Ty.t63 (And.intro Ty.t65 Ty.t93)))))
 have F:=Fc.mk True.intro
 refine v_seqR [1] ?_;intro K1 k1;refine zq21 ⟨?_⟩;refine k1 _ ?_;refine zk ⟨?_⟩;refine v_seqR [2] ?_;intro K2 k2;refine zq2 ⟨?_⟩;refine zc (isName_con a ha) ⟨?_⟩;refine zMove ⟨?_⟩;refine zq22 ⟨?_⟩;refine zgc (areThings_con l hl hls) ⟨?_⟩;refine zPick ⟨?_⟩;refine zAssign ⟨?_⟩;refine k2 _ ?_;refine zk ⟨?_⟩;refine v_ret ?_;refine r0 _ ?_;refine zf ⟨?_⟩
 exact ret_pure rfl (by first | rfl | simp) (.inl rfl)
set_option maxHeartbeats 1000000 in
theorem eqLoad_con (a:ByteArray) (l:List (ByteArray×Int×Int)) (ha:a.size≤9223372036854775807) (hl:l.length≤1048576) (hls:∀t∈l,t.1.size≤9223372036854775807):Con Tryd.prog 129 [.agg [.str a,.sl (l.map (fun t:ByteArray×Int×Int=>V.agg [V.str t.1,V.int .i64 t.2.1,V.int .i64 t.2.2]))]] [] (.bool (nameB a && thsB l)) []:=by
 refine v_con [.tmp 2] [] Tryd.func129 rfl rfl rfl (by simp [Tryd.ntmps129]) ?_
 intro Q0 n0 r0
 simp only [Tryd.ntmps129,envFrom,Nat.reduceAdd]
 have T:=Tys.mk (And.intro Ty.t3 (And.intro Ty.t4 (And.intro Ty.t9 (And.intro Ty.t63 (And.intro Ty.t65 Ty.t93)))))
 have F:=Fc.mk True.intro
 refine v_seqR [1] ?_;intro K1 k1;refine zq21 ⟨?_⟩;refine k1 _ ?_;refine zk ⟨?_⟩;refine v_seqR [2] ?_;intro K2 k2;refine zq2 ⟨?_⟩;refine zc (jnName_con a ha) ⟨?_⟩;refine zMove ⟨?_⟩;refine zq22 ⟨?_⟩;refine zgc (eqGood_con l hl hls) ⟨?_⟩;refine zPick ⟨?_⟩;refine zAssign ⟨?_⟩;refine k2 _ ?_;refine zk ⟨?_⟩;refine v_ret ?_;refine r0 _ ?_;refine zf ⟨?_⟩
 exact ret_pure rfl (by first | rfl | simp) (.inl rfl)
set_option maxHeartbeats 1000000 in
theorem implIsLoad_con (a:ByteArray) (l:List (ByteArray×Int×Int)) (ha:a.size≤9223372036854775807) (hl:l.length≤1048576) (hls:∀t∈l,t.1.size≤9223372036854775807):Con Tryd.prog 69 [.agg [.str a,.sl (l.map (fun t:ByteArray×Int×Int=>V.agg [V.str t.1,V.int .i64 t.2.1,V.int .i64 t.2.2]))]] [] (.bool (nameB a && thsB l)) []:=by
 refine v_con [.tmp 2] [] Tryd.func69 rfl rfl rfl (by simp [Tryd.ntmps69]) ?_
 intro Q0 n0 r0
 simp only [Tryd.ntmps69,envFrom,Nat.reduceAdd]
 have T:=Tys.mk (And.intro Ty.t3 (And.intro Ty.t4 (And.intro Ty.t9 (And.intro Ty.t63 (And.intro Ty.t65 Ty.t93)))))
 have F:=Fc.mk True.intro
 refine v_seqR [1] ?_;intro K1 k1;refine zq21 ⟨?_⟩;refine k1 _ ?_;refine zk ⟨?_⟩;refine v_seqR [2] ?_;intro K2 k2;refine zLoad ⟨?_⟩;refine zc (isLoad_con a l ha hl hls) ⟨?_⟩;refine zAssign ⟨?_⟩;refine k2 _ ?_;refine zk ⟨?_⟩;refine v_ret ?_;refine r0 _ ?_;refine zf ⟨?_⟩
 exact ret_pure rfl rfl (.inl rfl)
set_option maxHeartbeats 1000000 in
theorem copyLoad_con (a:ByteArray) (l:List (ByteArray×Int×Int)) (hl:l.length≤1048576):Con Tryd.prog 133 [.agg [.str a,.sl (l.map (fun t:ByteArray×Int×Int=>V.agg [V.str t.1,V.int .i64 t.2.1,V.int .i64 t.2.2]))]] [] (.agg [.str a,.ref 0]) [.arr (l.map (fun t:ByteArray×Int×Int=>V.agg [V.str t.1,V.int .i64 t.2.1,V.int .i64 t.2.2])) .flat]:=by
 refine v_con [.cell 2 65] [] Tryd.func133 rfl rfl rfl (by simp [Tryd.ntmps133]) ?_
 intro Q0 n0 r0
 simp only [Tryd.ntmps133,envFrom,Nat.reduceAdd]
 have T:=Tys.mk (And.intro Ty.t3 (And.intro Ty.t9 (And.intro Ty.t63 (And.intro Ty.t65 Ty.t93))))
 have F:=Fc.mk True.intro
 refine v_seqR [1,2] ?_;intro K1 k1;refine zq34 ⟨?_⟩;refine k1 _ ?_;refine zk ⟨?_⟩;refine v_seq ?_;intro Q2 n2 e2 r2;refine v_draw (by kernel_rfl) ?_;intro K3 q3 k3
 show aAny _ _ _ _ 7 (Array.replicate 7 false) _
 refine zdFieldAddr q3 true 0 3 ?_;refine zdLoad q3 true 1 4 ?_;refine zdFieldAddr q3 true 2 5 ?_;refine zdLoad q3 true 3 6 ?_;refine zoc 4 (cloneThing_con l hl) ⟨?_⟩;refine zdBuild q3 true 5 8 ?_;refine zoStore 6 ⟨?_⟩;refine aAny_done (by kernel_rfl) ?_;refine k3 _ ?_;refine n2 _ _ (weak_keep [2] _) ?_;refine zk ⟨?_⟩;refine v_ret ?_;refine r0 _ ?_;refine zf ⟨?_⟩
 simp only [zE,zL,zO,zN,aStepM,optable,set_some,Nat.reduceEqDiff,reduceIte,Nat.reduceLT,implies_true,forall_const,reduceCtorEq,V.ofValue,V.ofScalar,V.un,V.gd,aLoad,row_mk,Blk.row,PartOK,Go.Vm.part,V.cells,V.noSl,V.noRef,Nat.reduceAdd,Nat.reduceLeDiff,Nat.reduceMul,Tryd.underlying9,Ty.c9,Ty.a9,Tryd.underlying63,Ty.c63,Ty.a63,Tryd.underlying65,Ty.c65,Ty.a65]
 exact ret_all rfl (by first | decide | simp [newIds,refsOf,refs2,refs1]) (by simp) rfl (by simp [newIds,refsOf,refs2,refs1]) (by simp [Blk.kindIs,fillK_fd]) rfl
end Go.Proofs.YtbameklegpgkfaaDoor
