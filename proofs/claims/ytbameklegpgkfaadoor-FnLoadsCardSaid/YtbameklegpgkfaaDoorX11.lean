/- What functions compute. No condition. -/
import Derived.Test.YtbameklegpgkfaaDoorUz
import Derived.Test.YtbameklegpgkfaaDoorUty
import Derived.Test.YtbameklegpgkfaaDoorUmG
import Derived.Test.YtbameklegpgkfaaDoorX9
import Derived.Test.YtbameklegpgkfaaDoorX4
import Derived.Test.YtbameklegpgkfaaDoorX8
import Derived.Test.YtbameklegpgkfaaDoorX2
import Derived.Test.YtbameklegpgkfaaDoorX10
import Derived.Test.YtbameklegpgkfaaDoorX1
import Derived.Test.YtbameklegpgkfaaDoorX6
set_option linter.unusedSimpArgs false
set_option linter.unusedVariables false
set_option linter.defProp false
namespace Go.Proofs.YtbameklegpgkfaaDoor
open Go Go.Vm
set_option maxHeartbeats 1000000 in
theorem areOthers1_con (z0:ByteArray) (z1:List (ByteArray×Int×Int)) (y0:ByteArray) (y1:List (ByteArray×Int×Int)):Con Tryd.prog 163 [.agg [V.str z0,V.sl (z1.map (fun t:ByteArray×Int×Int=>V.agg [V.str t.1,V.int .i64 t.2.1,V.int .i64 t.2.2]))],.pv [V.agg [V.str y0,V.sl (y1.map (fun t:ByteArray×Int×Int=>V.agg [V.str t.1,V.int .i64 t.2.1,V.int .i64 t.2.2]))]] 0 0] [] (.bool (decide (z0=y0))) []:=by
 refine v_con [.tmp 3] [] Tryd.func163 rfl rfl rfl (by simp [Tryd.ntmps163]) ?_
 intro Q0 n0 r0
 simp only [Tryd.ntmps163,envFrom,Nat.reduceAdd]
 have T:=Tys.mk (And.intro Ty.t3 (And.intro Ty.t9 (And.intro Ty.t63 (And.intro Ty.t65 Ty.t93))))
 have F:=Fc.mk True.intro
 refine v_seqR [1,2] ?_;intro K1 k1;refine zq21 ⟨?_⟩;refine k1 _ ?_;refine zk ⟨?_⟩;refine v_seqR [3] ?_;intro K2 k2;refine zq2 ⟨?_⟩;refine zq2 ⟨?_⟩;refine zq28 ⟨?_⟩;refine k2 _ ?_;refine zk ⟨?_⟩;refine v_ret ?_;refine r0 _ ?_;refine zf ⟨?_⟩
 exact ret_pure rfl (by first | rfl | simp) (.inl rfl)
set_option maxHeartbeats 1000000 in
theorem areOthers_con (xa:ByteArray) (xl:List (ByteArray×Int×Int)) (l:List (ByteArray×List (ByteArray×Int×Int))) (hl:l.length≤1048576) (hlz:∀x∈l,x.1.size≤9223372036854775807∧x.2.length≤1048576∧∀t∈x.2,t.1.size≤9223372036854775807):Con Tryd.prog 119 [.agg [.str xa,.sl (xl.map (fun t:ByteArray×Int×Int=>V.agg [V.str t.1,V.int .i64 t.2.1,V.int .i64 t.2.2]))],.sl (l.map (fun t:ByteArray×List (ByteArray×Int×Int)=>V.agg [V.str t.1,V.sl (t.2.map (fun t:ByteArray×Int×Int=>V.agg [V.str t.1,V.int .i64 t.2.1,V.int .i64 t.2.2]))]))] [] (.bool (ldChk [(xa,xl)] l && decide ((l.length:Int)≤6))) []:=by
 refine v_con [.tmp 4] [] Tryd.func119 rfl rfl rfl (by simp [Tryd.ntmps119]) ?_
 intro Q0 n0 r0
 simp only [Tryd.ntmps119,envFrom,Nat.reduceAdd]
 have T:=Tys.mk (And.intro Ty.t3 (And.intro Ty.t4 (And.intro Ty.t9 (And.intro Ty.t63 (And.intro Ty.t65 (And.intro Ty.t66 Ty.t93))))))
 have F:=Fc.mk True.intro
 refine v_seqR [1,2] ?_;intro K1 k1;refine zq21 ⟨?_⟩;refine k1 _ ?_;refine zk ⟨?_⟩;refine v_seq ?_;intro Q2 n2 e2 r2;refine v_seqR [1,2,7,8,9] ?_;intro K3 k3;refine zq14 ⟨?_⟩;refine k3 _ ?_;refine zk ⟨?_⟩;refine v_block ?_;intro Q4 n4 x4 e4 r4;refine v_loop (fun i=>⟨[(1,.sl (l.map (fun t:ByteArray×List (ByteArray×Int×Int)=>V.agg [V.str t.1,V.sl (t.2.map (fun t:ByteArray×Int×Int=>V.agg [V.str t.1,V.int .i64 t.2.1,V.int .i64 t.2.2]))]))),(2,.ptr 0 0 0),(7,.sl (l.map (fun t:ByteArray×List (ByteArray×Int×Int)=>V.agg [V.str t.1,V.sl (t.2.map (fun t:ByteArray×Int×Int=>V.agg [V.str t.1,V.int .i64 t.2.1,V.int .i64 t.2.2]))]))),(8,.int .i64 l.length),(9,.int .i64 (Nat.cast i))],[.box (.agg [.str xa,.sl (xl.map (fun t:ByteArray×Int×Int=>V.agg [V.str t.1,V.int .i64 t.2.1,V.int .i64 t.2.2]))]) .shal],false,35,0⟩) (fun i=>i≤l.length∧ldChk ((xa,xl)::l.take i) (l.drop i)=ldChk [(xa,xl)] l) (fun i=>l.length - i) 0 ?_ ?_ ?_
 ·refine weak_bothS [1,2,7,8,9] [0] ⟨?_⟩
  rfl
 ·exact ⟨Nat.zero_le _,rfl⟩
 ·rintro i hok5 Q5 n5 e5 r5
  obtain ⟨hi1,hR⟩:=hok5
  refine v_seqR [1,2,7,8,9,10] ?_;intro K6 k6;refine zBinOp ⟨?_⟩;refine k6 _ ?_;refine zk ⟨?_⟩;refine v_seq ?_;intro Q7 n7 e7 r7;refine v_condS _ rfl ?_ ?_
  ·intro hc0
   have hlt:i < l.length:=by omega
   obtain ⟨⟨x0,x1⟩,hx⟩:∃x:ByteArray×List (ByteArray×Int×Int),l[i]? =some x:=⟨l[i]'(by omega),List.getElem?_eq_getElem (by omega)⟩
   have hxz:=hlz _ (List.mem_of_getElem? hx)
   simp only [] at hxz
   have hst:=ldChk_step1 (z:=(xa,xl)) hx
   refine v_skip ?_;refine n7 _ _ (weak_keep [1,2,7,8,9] _) ?_;refine zk ⟨?_⟩;refine v_seq ?_;intro Q9 n9 e9 r9;refine v_block ?_;intro Q10 n10 x10 e10 r10;refine v_seqR [1,2,5,6,7,8,9] ?_;intro K11 k11
   have F:=Fc.mk (fun f=>getD_map (f:=f) hx)
   refine zq38 ⟨?_⟩;refine k11 _ ?_;refine zk ⟨?_⟩;refine v_seqR [1,2,7,8,9,30] ?_;intro K12 k12;refine zLoad ⟨?_⟩;refine zc (isLoad_con x0 x1 hxz.1 hxz.2.1 hxz.2.2) ⟨?_⟩;refine zUnOp ⟨?_⟩;refine zMove ⟨?_⟩;refine zq22 ⟨?_⟩;refine zq22 ⟨?_⟩;refine zq8 ⟨?_⟩;refine zq15 ⟨?_⟩;refine zgSlice ⟨?_⟩;refine zgMakeFunc ⟨?_⟩;refine zgc (containsFuncLoad_con (l.take i) _ _ (fun y=>decide (y.1=x0)) (by rw [List.length_take];omega) (.pv _ .nil) (fun y0 y1 _=>areOthers1_con y0 y1 x0 x1)) ⟨?_⟩;refine zPick ⟨?_⟩;refine k12 _ ?_;refine zk ⟨?_⟩;refine v_condS _ rfl ?_ ?_
   ·intro hc1
    have hbad:ldChk ((xa,xl)::l.take i) (l.drop i)=false:=by
     rw [hst]
     revert hc1
     unfold ldOK
     rw [List.any_cons]
     by_cases q:x0=xa
     ·rw [q];cases nameB xa<;>cases thsB x1<;>cases ((l.take i).any fun y=>decide (y.1=xa))<;>simp
     ·have q2:¬xa=x0:=fun h=>q h.symm
      cases nameB x0<;>cases thsB x1<;>cases ((l.take i).any fun y=>decide (y.1=x0))<;>simp [q,q2]
    refine v_seqR [4] ?_;intro K14 k14;refine zAssign ⟨?_⟩;refine k14 _ ?_;refine zk ⟨?_⟩;refine v_ret ?_;refine r10 _ ?_;refine r9 _ ?_;refine r5 _ ?_;refine r4 _ ?_;refine r2 _ ?_;refine r0 _ ?_;refine zf ⟨?_⟩
    exact ret_pure rfl (by rw [←hR,hbad];rfl) (.inl rfl)
   ·intro hc1
    have hgd:ldChk ((xa,xl)::l.take (i+1)) (l.drop (i+1))=ldChk ((xa,xl)::l.take i) (l.drop i):=by
     rw [hst]
     revert hc1
     unfold ldOK
     rw [List.any_cons]
     by_cases q:x0=xa
     ·rw [q];cases nameB xa<;>cases thsB x1<;>cases ((l.take i).any fun y=>decide (y.1=xa))<;>simp
     ·have q2:¬xa=x0:=fun h=>q h.symm
      cases nameB x0<;>cases thsB x1<;>cases ((l.take i).any fun y=>decide (y.1=x0))<;>simp [q,q2]
    refine v_skip ?_;refine n10 _ ?_;refine n9 _ _ (weak_keep [1,2,7,8,9] _) ?_;refine zk ⟨?_⟩;refine v_region ?_;intro K15 k15;refine zq6 ⟨?_⟩;refine k15 _ ?_;refine n5 _ (i+1) ?_ ?_ ?_
    ·refine weak_bothS [1,2,7,8,9] [0] ⟨?_⟩
     rfl
    ·exact ⟨hlt,by rw [hgd,hR]⟩
    ·show _ < _;omega
  ·intro hc0
   refine v_exit ?_;refine e7 _ _ ?_;refine e5 _ _ ?_;refine x4 _ ?_;refine n2 _ _ (weak_keep [1] _) ?_;refine zk ⟨?_⟩;refine v_seqR [4] ?_;intro K16 k16;refine zq5 ⟨?_⟩;refine zq28 ⟨?_⟩;refine k16 _ ?_;refine zk ⟨?_⟩;refine v_ret ?_;refine r0 _ ?_;refine zf ⟨?_⟩
   have hend:ldChk [(xa,xl)] l=true:=by rw [←hR,List.drop_of_length_le (by omega)];rfl
   exact ret_pure rfl (by rw [hend];rfl) (.inl rfl)
set_option maxRecDepth 8000 in
set_option maxHeartbeats 8000000 in
theorem fillFrom_con (xa:ByteArray) (xl w:List (ByteArray×Int×Int)) (rest:List (ByteArray×List (ByteArray×Int×Int))) (hG:(fillG xa xl w rest)=true) (hrz:∀x∈rest,x.1.size≤9223372036854775807∧x.2.length≤1048576∧∀t∈x.2,t.1.size≤9223372036854775807):Con Tryd.prog 120 [.agg [.str xa,.sl (xl.map (fun t:ByteArray×Int×Int=>V.agg [V.str t.1,V.int .i64 t.2.1,V.int .i64 t.2.2]))],.sl (w.map (fun t:ByteArray×Int×Int=>V.agg [V.str t.1,V.int .i64 t.2.1,V.int .i64 t.2.2])),.sl (rest.map (fun t:ByteArray×List (ByteArray×Int×Int)=>V.agg [V.str t.1,V.sl (t.2.map (fun t:ByteArray×Int×Int=>V.agg [V.str t.1,V.int .i64 t.2.1,V.int .i64 t.2.2]))]))] [] (.tup [.agg [.str (orS (fillB xa xl w rest) xa),.ref 0],.ref 1,.bool (fillB xa xl w rest)]) [.arr ((orN (fillB xa xl w rest) (fillX xl w rest)).map (fun t:ByteArray×Int×Int=>V.agg [V.str t.1,V.int .i64 t.2.1,V.int .i64 t.2.2])) .flat,.arr ((orN (fillB xa xl w rest) (fillR xl w rest)).map (fun t:ByteArray×List (ByteArray×Int×Int)=>V.agg [V.str t.1,V.sl (t.2.map (fun t:ByteArray×Int×Int=>V.agg [V.str t.1,V.int .i64 t.2.1,V.int .i64 t.2.2]))])) .deep]:=by
 have g:=fillG_facts hG
 have hx12:=g.ok.x.len
 have hw12:=g.w.len
 have hxsz:=nm_size g.nm
 have hr6:=g.six
 have hmn:∀t∈(missL w xl),tnB t.1=true∧1≤t.2.1∧t.2.1≤99:=fun t ht=>⟨by obtain ⟨z,hz,hz1,_⟩:=miss_names ht;rw [←hz1];exact (g.w.ok z hz).1,miss_cnt g.w g.ok.x t ht⟩
 have hml:(missL w xl).length≤12:=Nat.le_trans (missL_len w xl) g.w.len
 refine v_con [.cell 6 65,.tmp 7,.tmp 8] [] Tryd.func120 rfl rfl rfl (by simp [Tryd.ntmps120]) ?_
 intro Q0 n0 r0
 simp only [Tryd.ntmps120,envFrom,Nat.reduceAdd]
 have T:=Tys.mk (And.intro Ty.t3 (And.intro Ty.t4 (And.intro Ty.t9 (And.intro Ty.t63 (And.intro Ty.t65 (And.intro Ty.t66 Ty.t93))))))
 have F:=Fc.mk True.intro
 refine v_seqR [1,2,3,6] ?_;intro K1 k1;refine zq34 ⟨?_⟩;refine zq1 ⟨?_⟩;refine k1 _ ?_;refine zk ⟨?_⟩;refine v_seqR [1,2,3,6] ?_;intro K2 k2;refine zLoad ⟨?_⟩;refine zc (copyLoad_con xa xl (by omega)) ⟨?_⟩;refine zStore ⟨?_⟩;refine k2 _ ?_;refine zk ⟨?_⟩;refine v_seqR [1,2,3,6,9] ?_;intro K3 k3;refine zAssign ⟨?_⟩;refine k3 _ ?_;refine zk ⟨?_⟩;refine v_seq ?_;intro Q4 n4 e4 r4;refine v_seqR [1,3,6,9,23,24,25] ?_;intro K5 k5;refine zq14 ⟨?_⟩;refine k5 _ ?_;refine zk ⟨?_⟩;refine v_block ?_;intro Q6 n6 x6 e6 r6;refine v_loop (fun i=>⟨[(1,.sl (w.map (fun t:ByteArray×Int×Int=>V.agg [V.str t.1,V.int .i64 t.2.1,V.int .i64 t.2.2]))),(3,.ptr 0 0 0),(6,.ptr 2 0 0),(9,.ref 4),(23,.sl (rest.map (fun t:ByteArray×List (ByteArray×Int×Int)=>V.agg [V.str t.1,V.sl (t.2.map (fun t:ByteArray×Int×Int=>V.agg [V.str t.1,V.int .i64 t.2.1,V.int .i64 t.2.2]))]))),(24,.int .i64 rest.length),(25,.int .i64 (Nat.cast i))],[.box (.agg [.str xa,.ref 3]) .mix,.arr [] .flat,.box (.agg [.str .empty,.ref 1]) .mix,.arr (xl.map (fun t:ByteArray×Int×Int=>V.agg [V.str t.1,V.int .i64 t.2.1,V.int .i64 t.2.2])) .flat,.arr ((rest.take i).map (fun t:ByteArray×List (ByteArray×Int×Int)=>V.agg [V.str t.1,V.sl (t.2.map (fun t:ByteArray×Int×Int=>V.agg [V.str t.1,V.int .i64 t.2.1,V.int .i64 t.2.2]))])) (fillK i)],false,90,0⟩) (fun i=>i≤rest.length) (fun i=>rest.length - i) 0 ?_ ?_ ?_
 ·refine weak_bothN [1,3,6,9,23,24,25] [0,1,2,4,5] ⟨?_⟩
  rfl
 ·exact Nat.zero_le _
 ·rintro i hok7 Q7 n7 e7 r7
  have hi1:i≤rest.length:=hok7
  refine v_seqR [1,3,6,9,23,24,25,26] ?_;intro K8 k8;refine zBinOp ⟨?_⟩;refine k8 _ ?_;refine zk ⟨?_⟩;refine v_seq ?_;intro Q9 n9 e9 r9;refine v_condS _ rfl ?_ ?_
  ·intro hc0
   have hlt:i < rest.length:=by omega
   obtain ⟨⟨y0,y1⟩,hy⟩:∃x:ByteArray×List (ByteArray×Int×Int),rest[i]? =some x:=⟨rest[i]'(by omega),List.getElem?_eq_getElem (by omega)⟩
   have hyz:=hrz _ (List.mem_of_getElem? hy)
   simp only [] at hyz
   have hsn:(rest.take i).map (fun t:ByteArray×List (ByteArray×Int×Int)=>V.agg [V.str t.1,V.sl (t.2.map (fun t:ByteArray×Int×Int=>V.agg [V.str t.1,V.int .i64 t.2.1,V.int .i64 t.2.2]))])++[V.agg [V.str y0,V.sl (y1.map (fun t:ByteArray×Int×Int=>V.agg [V.str t.1,V.int .i64 t.2.1,V.int .i64 t.2.2]))]]=(rest.take (i+1)).map (fun t:ByteArray×List (ByteArray×Int×Int)=>V.agg [V.str t.1,V.sl (t.2.map (fun t:ByteArray×Int×Int=>V.agg [V.str t.1,V.int .i64 t.2.1,V.int .i64 t.2.2]))]):=(take_map_step (f:=(fun t:ByteArray×List (ByteArray×Int×Int)=>V.agg [V.str t.1,V.sl (t.2.map (fun t:ByteArray×Int×Int=>V.agg [V.str t.1,V.int .i64 t.2.1,V.int .i64 t.2.2]))])) hy).symm
   have hti:(rest.take i).length=i:=by rw [List.length_take];omega
   refine v_skip ?_;refine n9 _ _ (weak_keep [1,3,6,9,23,24,25] _) ?_;refine zk ⟨?_⟩;refine v_seq ?_;intro Q11 n11 e11 r11;refine v_block ?_;intro Q12 n12 x12 e12 r12;refine v_seqR [1,3,6,9,11,23,24,25] ?_;intro K13 k13
   have F:=Fc.mk (And.intro (fun f=>getD_map (f:=f) hy) hti)
   refine zq23 ⟨?_⟩;refine k13 _ ?_;refine zk ⟨?_⟩;refine v_region ?_;intro K14 k14;refine zMove ⟨?_⟩;refine zLoad ⟨?_⟩;refine zc (copyLoad_con y0 y1 hyz.2.1) ⟨?_⟩;refine zq35 ⟨?_⟩;refine k14 _ ?_;refine n12 _ ?_;refine n11 _ _ (weak_keep [1,3,6,9,23,24,25] _) ?_;refine zk ⟨?_⟩;refine v_region ?_;intro K15 k15;refine zq6 ⟨?_⟩;refine k15 _ ?_;refine n7 _ (i+1) ?_ ?_ ?_
   ·refine weak_bothN [1,3,6,9,23,24,25] [0,1,2,3,9] ⟨?_⟩
    rw [←hsn];rfl
   ·exact hlt
   ·show _ < _;omega
  ·intro hc0
   have hend:i=rest.length:=by omega
   subst hend
   simp only [List.take_length]
   refine v_exit ?_;refine e9 _ _ ?_;refine e7 _ _ ?_;refine x6 _ ?_;refine n4 _ _ (weak_keep [1,3,6,9] _) ?_;refine zk ⟨?_⟩;refine v_seq ?_;intro Q16 n16 e16 r16;refine v_seq ?_;intro Q17 n17 e17 r17;refine v_region ?_;intro K18 k18;refine zq31 ⟨?_⟩;refine zc (missingThings_con w xl (by omega) (by omega) (fun x h=>(g.w.ok x h).2.1) (fun x h=>(g.ok.x.ok x h).2.1)) ⟨?_⟩;refine zq46 ⟨?_⟩;refine k18 _ ?_
   apply n17
   ·apply weak_trans (weak_keep [3,6,9,38,39,40] _)
    simp only [keep_mk,keepE_nil,keepE_cons,look_cons,look_nil,Nat.reduceEqDiff,reduceIte]
    exact weak_trans (weak_fk 4 rest.length _ rfl) weak_view
   try simp only [atSlot_cons,atSlot_nil,Nat.reduceEqDiff,reduceIte,List.set_cons_zero,List.set_cons_succ]
   refine v_block ?_;intro Q19 n19 x19 e19 r19;refine v_loop (fun p=>⟨[(3,.ptr 0 0 0),(6,.ptr 2 0 0),(9,.ref 4),(38,.ref 5),(39,.int .i64 (missL w xl).length),(40,.int .i64 (Nat.cast p.1))],[.box (.agg [.str xa,.ref 3]) .mix,.arr [] .flat,.box (.agg [.str .empty,.ref 1]) .mix,.arr (p.2.1.map (fun t:ByteArray×Int×Int=>V.agg [V.str t.1,V.int .i64 t.2.1,V.int .i64 t.2.2])) .flat,.arr (p.2.2.map (fun t:ByteArray×List (ByteArray×Int×Int)=>V.agg [V.str t.1,V.sl (t.2.map (fun t:ByteArray×Int×Int=>V.agg [V.str t.1,V.int .i64 t.2.1,V.int .i64 t.2.2]))])) .deep,.arr ((missL w xl).map (fun t:ByteArray×Int×Int=>V.agg [V.str t.1,V.int .i64 t.2.1,V.int .i64 t.2.2])) .flat],true,90,0⟩) (fun p=>p.1≤(missL w xl).length∧fillA ((missL w xl).drop p.1) p.2.1 p.2.2=fillA (missL w xl) xl rest∧FillOK p.2.1 p.2.2∧p.2.2.length=rest.length) (fun p=>(missL w xl).length - p.1) (0,xl,rest) ?_ ?_ ?_
   ·refine weak_bothN [3,6,9,38,39,40] [0,1,2,3,4,5] ⟨?_⟩
    rfl
   ·exact ⟨Nat.zero_le _,rfl,g.ok,rfl⟩
   ·rintro ⟨i,xc,rc⟩ hok20 Q20 n20 e20 r20
    obtain ⟨hi1,hF,hK0,hrc⟩:=hok20
    simp only [] at hi1 hF hK0 hrc⊢
    have hxc:=hK0.x.len
    refine v_seqR [3,6,9,38,39,40,41] ?_;intro K21 k21;refine zBinOp ⟨?_⟩;refine k21 _ ?_;refine zk ⟨?_⟩;refine v_seq ?_;intro Q22 n22 e22 r22;refine v_condS _ rfl ?_ ?_
    ·intro hc1
     have hlt:i < (missL w xl).length:=by omega
     obtain ⟨⟨t0,t1,t2⟩,hx⟩:∃x:ByteArray×Int×Int,(missL w xl)[i]? =some x:=⟨(missL w xl)[i]'(by omega),List.getElem?_eq_getElem (by omega)⟩
     obtain ⟨htn,ht1,ht9⟩:=hmn _ (List.mem_of_getElem? hx)
     simp only [] at htn ht1 ht9
     refine v_skip ?_;refine n22 _ _ (weak_keep [3,6,9,38,39,40] _) ?_;refine zk ⟨?_⟩;refine v_seq ?_;intro Q24 n24 e24 r24;refine v_block ?_;intro Q25 n25 x25 e25 r25;refine v_seqR [3,6,9,13,38,39,40] ?_;intro K26 k26
     have F:=Fc.mk (fun f=>getD_map (f:=f) hx)
     refine zq23 ⟨?_⟩;refine k26 _ ?_;refine zk ⟨?_⟩;refine v_seqR [3,6,9,13,14,38,39,40] ?_;intro K27 k27;refine zq2 ⟨?_⟩;refine zAssign ⟨?_⟩;refine k27 _ ?_;refine zk ⟨?_⟩;refine v_seq ?_;intro Q28 n28 e28 r28;refine v_seqR [3,6,9,13,14,38,39,40,46,47,48] ?_;intro K29 k29;refine zq14 ⟨?_⟩;refine k29 _ ?_;refine zk ⟨?_⟩;refine v_block ?_;intro Q30 n30 x30 e30 r30;refine v_loop (fun q=>⟨[(3,.ptr 0 0 0),(6,.ptr 2 0 0),(9,.ref 4),(13,.ptr 6 0 0),(14,.int .i64 q.2.1),(38,.ref 5),(39,.int .i64 (missL w xl).length),(40,.int .i64 (Nat.cast i)),(46,.ref 4),(47,.int .i64 rc.length),(48,.int .i64 (Nat.cast q.1))],[.box (.agg [.str xa,.ref 3]) .mix,.arr [] .flat,.box (.agg [.str .empty,.ref 1]) .mix,.arr (q.2.2.1.map (fun t:ByteArray×Int×Int=>V.agg [V.str t.1,V.int .i64 t.2.1,V.int .i64 t.2.2])) .flat,.arr (q.2.2.2.map (fun t:ByteArray×List (ByteArray×Int×Int)=>V.agg [V.str t.1,V.sl (t.2.map (fun t:ByteArray×Int×Int=>V.agg [V.str t.1,V.int .i64 t.2.1,V.int .i64 t.2.2]))])) .deep,.arr ((missL w xl).map (fun t:ByteArray×Int×Int=>V.agg [V.str t.1,V.int .i64 t.2.1,V.int .i64 t.2.2])) .flat,.box (.agg [V.str t0,V.int .i64 t1,V.int .i64 t2]) .flat],true,90,0⟩) (fun q=>q.1≤rc.length∧fillJ t0 q.2.1 q.2.2.1 q.2.2.2 q.1=fillT t0 t1 xc rc∧FillOK q.2.2.1 q.2.2.2∧q.2.2.2.length=rc.length∧0≤q.2.1∧q.2.1≤99) (fun q=>rc.length - q.1) (0,t1,xc,rc) ?_ ?_ ?_
     ·refine weak_bothN [3,6,9,13,14,38,39,40,46,47,48] [0,1,2,3,4,5,6] ⟨?_⟩
      rfl
     ·exact ⟨Nat.zero_le _,fillJ_zero _ _ _ _,hK0,rfl,by show 0≤t1;omega,ht9⟩
     ·rintro ⟨j,left,x2,cur⟩ hok31 Q31 n31 e31 r31
      obtain ⟨hj1,hJ,hK,hcl,hl0,hl9⟩:=hok31
      simp only [] at hj1 hJ hK hcl hl0 hl9⊢
      have hx212:=hK.x.len
      refine v_seqR [3,6,9,13,14,38,39,40,46,47,48,49] ?_;intro K32 k32;refine zBinOp ⟨?_⟩;refine k32 _ ?_;refine zk ⟨?_⟩;refine v_seq ?_;intro Q33 n33 e33 r33;refine v_condS _ rfl ?_ ?_
      ·intro hc2
       have hltj:j < cur.length:=by omega
       obtain ⟨⟨y0,y1⟩,hy⟩:∃x:ByteArray×List (ByteArray×Int×Int),cur[j]? =some x:=⟨cur[j]'(by omega),List.getElem?_eq_getElem (by omega)⟩
       have hyo:=hK.ok _ (List.mem_of_getElem? hy)
       simp only [] at hyo
       have hy12:=hyo.2.len
       have hysz:=nm_size hyo.1
       have hcb:=cnt_bound (fun t h=>(hyo.2.ok t h).2.1) t0
       refine v_skip ?_;refine n33 _ _ (weak_keep [3,6,9,13,14,38,39,40,46,47,48] _) ?_;refine zk ⟨?_⟩;refine v_seq ?_;intro Q35 n35 e35 r35;refine v_block ?_;intro Q36 n36 x36 e36 r36;refine v_seqR [3,6,9,13,14,15,16,38,39,40,46,47,48] ?_;intro K37 k37
       have F:=Fc.mk (And.intro (fun f=>getD_map (f:=f) hx) (fun f=>getD_map (f:=f) hy))
       refine zq38 ⟨?_⟩;refine k37 _ ?_;refine zk ⟨?_⟩;refine v_seqR [3,6,9,13,14,15,16,17,38,39,40,46,47,48] ?_;intro K38 k38;refine zq31 ⟨?_⟩;refine zq2 ⟨?_⟩;refine zc (countOf_con y1 t0 (by omega)) ⟨?_⟩;refine zMin ⟨?_⟩;refine zAssign ⟨?_⟩;refine k38 _ ?_;refine zk ⟨?_⟩;refine v_seq ?_;intro Q39 n39 e39 r39;refine v_seqR [3,6,9,13,14,15,16,17,38,39,40,46,47,48,61] ?_;intro K40 k40;refine zq26 ⟨?_⟩;refine k40 _ ?_;refine zk ⟨?_⟩;refine v_condS _ rfl ?_ ?_
       ·intro hc3
        have hn0:(minI left (cntOf y1 t0))=0:=by simpa [minI] using hc3
        have hnx:=fillJ_skip (left:=left) (xl:=x2) hy hn0
        refine v_exit ?_;refine e39 _ _ ?_;refine x36 _ ?_;refine n35 _ _ (weak_keep [3,6,9,13,14,38,39,40,46,47,48] _) ?_;refine zk ⟨?_⟩;refine v_region ?_;intro K42 k42;refine zq6 ⟨?_⟩;refine k42 _ ?_;refine n31 _ (j+1,left,x2,cur) ?_ ?_ ?_
        ·refine weak_bothN [3,6,9,13,14,38,39,40,46,47,48] [0,1,2,3,4,5,6] ⟨?_⟩
         rfl
        ·exact ⟨by show j+1≤rc.length;omega,by show fillJ t0 left x2 cur (j+1)=_;rw [←hnx];exact hJ,hK,hcl,hl0,hl9⟩
        ·show _ < _;show rc.length - (j+1) < rc.length - j;omega
       ·intro hc3
        have hn0:(minI left (cntOf y1 t0))≠0:=by simpa [minI] using hc3
        obtain ⟨hnb,hnl,hnc⟩:=min_pos (left:=left) hl0 (fun t h=>(hyo.2.ok t h).2.1) hn0
        refine v_skip ?_;refine n39 _ _ (weak_keep [3,6,9,13,14,15,16,17,38,39,40,46,47,48] _) ?_;refine zk ⟨?_⟩;refine v_seqR [3,6,9,13,14,15,17,18,19,20,38,39,40,46,47,48] ?_;intro K43 k43;refine zLoad ⟨?_⟩;refine zLoad ⟨?_⟩;refine zq11 ⟨?_⟩;refine zc (moveThing_con y0 y1 xa x2 t0 (minI left (cntOf y1 t0)) hyo.1 g.nm hyo.2 hK.x htn hnb) ⟨?_⟩;refine zq36 ⟨?_⟩;refine zAlloc ⟨?_⟩;refine zq10 ⟨?_⟩;refine zq27 ⟨?_⟩;refine k43 _ ?_;refine zk ⟨?_⟩;refine v_seq ?_;intro Q44 n44 e44 r44;refine v_seqR [3,6,9,13,14,15,17,18,19,38,39,40,46,47,48,73] ?_;intro K45 k45;refine zq59 ⟨?_⟩;refine k45 _ ?_;refine zk ⟨?_⟩;refine v_condS _ rfl ?_ ?_
        ·intro hc4
         have hm:mvB y1 x2 t0 (minI left (cntOf y1 t0))=false:=by
          first
          |exact hc4
          |simpa using hc4
          |simpa [minI] using hc4
         have hfail:=fillJ_fail (left:=left) (xl:=x2) hy hn0 hm
         have hnone:fillA (missL w xl) xl rest=none:=by
          rw [←hF,fillA_step hx,show fillT t0 t1 xc rc=none by rw [←hJ,hfail]]
         have hB:(fillB xa xl w rest)=false:=by rw [fillB,hnone];simp
         refine v_seq ?_;intro Q47 n47 e47 r47;refine v_region ?_;intro K48 k48;refine zq45 ⟨?_⟩;refine k48 _ ?_
         apply n47
         ·apply weak_trans (weak_keep [6,7,8] _)
          simp only [keep_mk,keepE_nil,keepE_cons,look_cons,look_nil,Nat.reduceEqDiff,reduceIte]
          exact weak_fd 16 [] rfl
         try simp only [atSlot_cons,atSlot_nil,Nat.reduceEqDiff,reduceIte,List.set_cons_zero,List.set_cons_succ]
         refine v_ret ?_;refine r44 _ ?_;refine r36 _ ?_;refine r35 _ ?_;refine r31 _ ?_;refine r30 _ ?_;refine r28 _ ?_;refine r25 _ ?_;refine r24 _ ?_;refine r20 _ ?_;refine r19 _ ?_;refine r16 _ ?_;refine r0 _ ?_;refine zf ⟨?_⟩
         simp only [zE,zL,zO,zN,aStepM,optable,set_some,Nat.reduceEqDiff,reduceIte,Nat.reduceLT,implies_true,forall_const,reduceCtorEq,V.ofValue,V.ofScalar,V.un,V.gd,aLoad,row_mk,Blk.row,PartOK,Go.Vm.part,V.cells,V.noSl,V.noRef,Nat.reduceAdd,Nat.reduceLeDiff,Nat.reduceMul,Tryd.underlying9,Ty.c9,Ty.a9,Tryd.underlying63,Ty.c63,Ty.a63,Tryd.underlying65,Ty.c65,Ty.a65]
         simp only [hB,orS,orN_f,Bool.false_eq_true,if_false,List.map_nil]
         exact ret_all rfl (by first | decide | simp [newIds,refsOf,refs2,refs1]) (by simp) rfl (by simp [newIds,refsOf,refs2,refs1]) (by simp [Blk.kindIs,fillK_fd]) rfl
        ·intro hc4
         have hm:mvB y1 x2 t0 (minI left (cntOf y1 t0))=true:=by
          first
          |exact hc4
          |simpa using hc4
          |simpa [minI] using hc4
         have hnx:=fillJ_move (left:=left) (xl:=x2) hy hn0 hm
         have hok2:=fill_ok_set hK hy hnb.1 hm
         have hsm:(cur.map (fun t:ByteArray×List (ByteArray×Int×Int)=>V.agg [V.str t.1,V.sl (t.2.map (fun t:ByteArray×Int×Int=>V.agg [V.str t.1,V.int .i64 t.2.1,V.int .i64 t.2.2]))])).set j (V.agg [V.str y0,V.sl ((takeT y1 t0 (minI left (cntOf y1 t0))).map (fun t:ByteArray×Int×Int=>V.agg [V.str t.1,V.int .i64 t.2.1,V.int .i64 t.2.2]))])=(cur.set j (y0,takeT y1 t0 (minI left (cntOf y1 t0)))).map (fun t:ByteArray×List (ByteArray×Int×Int)=>V.agg [V.str t.1,V.sl (t.2.map (fun t:ByteArray×Int×Int=>V.agg [V.str t.1,V.int .i64 t.2.1,V.int .i64 t.2.2]))]):=by have q:=List.map_set (f:=(fun t:ByteArray×List (ByteArray×Int×Int)=>V.agg [V.str t.1,V.sl (t.2.map (fun t:ByteArray×Int×Int=>V.agg [V.str t.1,V.int .i64 t.2.1,V.int .i64 t.2.2]))])) (l:=cur) (i:=j) (a:=(y0,takeT y1 t0 (minI left (cntOf y1 t0))));exact q.symm
         have hm2:=hm
         simp only [minI] at hm2 hsm
         refine v_skip ?_;refine n44 _ _ (weak_keep [3,6,9,13,14,15,17,18,19,38,39,40,46,47,48] _) ?_;refine zk ⟨?_⟩;refine v_seq ?_;intro Q49 n49 e49 r49;refine v_draw (by kernel_rfl) ?_;intro K50 q50 k50
         show aAny _ _ _ _ 7 (Array.replicate 7 false) _
         have F:=Fc.mk (And.intro (fun f=>getD_map (f:=f) hx) (And.intro (fun f=>getD_map (f:=f) hy) (And.intro hm2 (And.intro ((show ∀x:ByteArray,orS true x=x from fun _=>rfl)) (And.intro @orN_t hsm)))))
         refine zdMove q50 true 0 75 ?_;refine zdMove q50 true 1 76 ?_;refine zdLoadX q50 true 2 77 ?_;refine zdIndexAddr q50 true 4 79 ?_;refine aAny_two 3 5 rfl rfl (by kernel_rfl) ?_ ?_
         ·intro K k
          skip
          simp only [zE,zL,zO,zN,aStepM,optable,set_some,Nat.reduceEqDiff,reduceIte,Nat.reduceLT,implies_true,forall_const,reduceCtorEq,V.ofValue,V.ofScalar,V.un,V.gd,aExec,aop,aLoad,row_mk,Blk.row,PartOK,Go.Vm.part,V.cells,V.noSl,V.noRef,Nat.reduceAdd,Nat.reduceLeDiff,Nat.reduceMul,Tryd.underlying9,Ty.c9,Ty.a9,Tryd.underlying63,Ty.c63,Ty.a63,Tryd.underlying65,Ty.c65,Ty.a65,getD_map hx,getD_map hy,hm2,(show ∀x:ByteArray,orS true x=x from fun _=>rfl),orN_t,hsm]
          repeat (refine And.intro (by first | omega | (intros;omega) | (intros;simp_all;done) | (intros;simp_all;omega)) ?_)
          refine k _ ?_;clear k K;refine zoStore 5 ⟨?_⟩;refine zoStore 6 ⟨?_⟩;refine aAny_done (by kernel_rfl) ?_;refine k50 _ ?_;refine n49 _ _ (weak_keep [3,6,9,13,14,17,38,39,40,46,47,48] _) ?_;refine zk ⟨?_⟩;refine v_region ?_;intro K51 k51;refine zq3 ⟨?_⟩;refine zq25 ⟨?_⟩;refine k51 _ ?_;refine n36 _ ?_;refine n35 _ _ (weak_keep [3,6,9,13,14,38,39,40,46,47,48] _) ?_;refine zk ⟨?_⟩;refine v_region ?_;intro K52 k52;refine zq6 ⟨?_⟩;refine k52 _ ?_;refine n31 _ (j+1,left - (minI left (cntOf y1 t0)),putT x2 t0 (minI left (cntOf y1 t0)) (dayOf y1 t0),cur.set j (y0,takeT y1 t0 (minI left (cntOf y1 t0)))) ?_ ?_ ?_
          ·refine weak_bothN [3,6,9,13,14,38,39,40,46,47,48] [0,1,2,10,4,5,6] ⟨?_⟩
           have hs1:∀x:ByteArray,orS true x=x:=fun _=>rfl
           simp only [minI,hm2,hs1,orN_t,hsm]
           all_goals rfl
          ·exact ⟨by show j+1≤rc.length;omega,by show fillJ t0 (left - (minI left (cntOf y1 t0))) _ _ (j+1)=_;rw [←hJ,hnx],hok2,by show (cur.set j _).length=_;rw [List.length_set];exact hcl,by show 0≤left - (minI left (cntOf y1 t0));omega,by show left - (minI left (cntOf y1 t0))≤99;omega⟩
          ·show _ < _;show rc.length - (j+1) < rc.length - j;omega
         ·refine zsStore ⟨?_⟩
          refine zdLoadX q50 true 3 78 ?_;refine zoStore 6 ⟨?_⟩;refine aAny_done (by kernel_rfl) ?_;refine k50 _ ?_;refine n49 _ _ (weak_keep [3,6,9,13,14,17,38,39,40,46,47,48] _) ?_;refine zk ⟨?_⟩;refine v_region ?_;intro K53 k53;refine zq3 ⟨?_⟩;refine zq25 ⟨?_⟩;refine k53 _ ?_;refine n36 _ ?_;refine n35 _ _ (weak_keep [3,6,9,13,14,38,39,40,46,47,48] _) ?_;refine zk ⟨?_⟩;refine v_region ?_;intro K54 k54;refine zq6 ⟨?_⟩;refine k54 _ ?_;refine n31 _ (j+1,left - (minI left (cntOf y1 t0)),putT x2 t0 (minI left (cntOf y1 t0)) (dayOf y1 t0),cur.set j (y0,takeT y1 t0 (minI left (cntOf y1 t0)))) ?_ ?_ ?_
          ·refine weak_bothN [3,6,9,13,14,38,39,40,46,47,48] [0,1,2,10,4,5,6] ⟨?_⟩
           have hs1:∀x:ByteArray,orS true x=x:=fun _=>rfl
           simp only [minI,hm2,hs1,orN_t,hsm]
           all_goals rfl
          ·exact ⟨by show j+1≤rc.length;omega,by show fillJ t0 (left - (minI left (cntOf y1 t0))) _ _ (j+1)=_;rw [←hJ,hnx],hok2,by show (cur.set j _).length=_;rw [List.length_set];exact hcl,by show 0≤left - (minI left (cntOf y1 t0));omega,by show left - (minI left (cntOf y1 t0))≤99;omega⟩
          ·show _ < _;show rc.length - (j+1) < rc.length - j;omega
      ·intro hc2
       have hj2:j=cur.length:=by omega
       have hend:=fillJ_end (s:=t0) (left:=left) (xl:=x2) (cur:=cur) (j:=j) (by omega)
       have hT:fillT t0 t1 xc rc=some (cur,x2,left):=by rw [←hJ,hend]
       refine v_exit ?_;refine e33 _ _ ?_;refine e31 _ _ ?_;refine x30 _ ?_;refine n28 _ _ (weak_keep [3,6,9,14,38,39,40] _) ?_;refine zk ⟨?_⟩;refine v_seqR [3,6,9,38,39,40,85] ?_;intro K55 k55;refine zq26 ⟨?_⟩;refine k55 _ ?_;refine zk ⟨?_⟩;refine v_condS _ rfl ?_ ?_
       ·intro hc5
        have hnone:fillA (missL w xl) xl rest=none:=by
         rw [←hF,fillA_step hx,hT];simp only [];rw [if_pos (show 0 < left by first | omega | (have h:=hc5;simp at h;omega))]
        have hB:(fillB xa xl w rest)=false:=by rw [fillB,hnone];simp
        refine v_seq ?_;intro Q57 n57 e57 r57;refine v_region ?_;intro K58 k58;refine zq45 ⟨?_⟩;refine k58 _ ?_
        apply n57
        ·apply weak_trans (weak_keep [6,7,8] _)
         simp only [keep_mk,keepE_nil,keepE_cons,look_cons,look_nil,Nat.reduceEqDiff,reduceIte]
         exact weak_fd 8 [] rfl
        try simp only [atSlot_cons,atSlot_nil,Nat.reduceEqDiff,reduceIte,List.set_cons_zero,List.set_cons_succ]
        refine v_ret ?_;refine r25 _ ?_;refine r24 _ ?_;refine r20 _ ?_;refine r19 _ ?_;refine r16 _ ?_;refine r0 _ ?_;refine zf ⟨?_⟩
        simp only [zE,zL,zO,zN,aStepM,optable,set_some,Nat.reduceEqDiff,reduceIte,Nat.reduceLT,implies_true,forall_const,reduceCtorEq,V.ofValue,V.ofScalar,V.un,V.gd,aLoad,row_mk,Blk.row,PartOK,Go.Vm.part,V.cells,V.noSl,V.noRef,Nat.reduceAdd,Nat.reduceLeDiff,Nat.reduceMul,Tryd.underlying9,Ty.c9,Ty.a9,Tryd.underlying63,Ty.c63,Ty.a63,Tryd.underlying65,Ty.c65,Ty.a65]
        simp only [hB,orS,orN_f,Bool.false_eq_true,if_false,List.map_nil]
        exact ret_all rfl (by first | decide | simp [newIds,refsOf,refs2,refs1]) (by simp) rfl (by simp [newIds,refsOf,refs2,refs1]) (by simp [Blk.kindIs,fillK_fd]) rfl
       ·intro hc5
        have hnx2:fillA ((missL w xl).drop (i+1)) x2 cur=fillA (missL w xl) xl rest:=by
         rw [←hF,fillA_step hx,hT];simp only [];rw [if_neg (show ¬0 < left by first | omega | (have h:=hc5;simp at h;omega))]
        refine v_skip ?_;refine n25 _ ?_;refine n24 _ _ (weak_keep [3,6,9,38,39,40] _) ?_;refine zk ⟨?_⟩;refine v_region ?_;intro K59 k59;refine zq6 ⟨?_⟩;refine k59 _ ?_;refine n20 _ (i+1,x2,cur) ?_ ?_ ?_
        ·refine weak_bothN [3,6,9,38,39,40] [0,1,2,3,4,5] ⟨?_⟩
         rfl
        ·exact ⟨hlt,hnx2,hK,hcl.trans hrc⟩
        ·show _ < _;show (missL w xl).length - (i+1) < (missL w xl).length - i;omega
    ·intro hc1
     have hend:fillA (missL w xl) xl rest=some (xc,rc):=by rw [←hF,List.drop_of_length_le (by omega)];rfl
     have hXe:fillX xl w rest=xc:=by rw [fillX,hend]
     have hRe:fillR xl w rest=rc:=by rw [fillR,hend]
     have hB:(fillB xa xl w rest)=true:=by rw [fillB,hG,hend];rfl
     refine v_exit ?_;refine e22 _ _ ?_;refine e20 _ _ ?_;refine x19 _ ?_;refine n16 _ _ (weak_keep [3,6,9] _) ?_;refine zk ⟨?_⟩;refine v_seqR [6,7,8] ?_;intro K60 k60;refine zLoad ⟨?_⟩;refine zMove ⟨?_⟩;refine zStore ⟨?_⟩;refine zq1 ⟨?_⟩;refine k60 _ ?_;refine zk ⟨?_⟩;refine v_ret ?_;refine r0 _ ?_;refine zf ⟨?_⟩
     simp only [zE,zL,zO,zN,aStepM,optable,set_some,Nat.reduceEqDiff,reduceIte,Nat.reduceLT,implies_true,forall_const,reduceCtorEq,V.ofValue,V.ofScalar,V.un,V.gd,aLoad,row_mk,Blk.row,PartOK,Go.Vm.part,V.cells,V.noSl,V.noRef,Nat.reduceAdd,Nat.reduceLeDiff,Nat.reduceMul,Tryd.underlying9,Ty.c9,Ty.a9,Tryd.underlying63,Ty.c63,Ty.a63,Tryd.underlying65,Ty.c65,Ty.a65]
     simp only [hB,orS,if_true,orN_t,hXe,hRe]
     exact ret_all rfl (by first | decide | simp [newIds,refsOf,refs2,refs1]) (by simp) rfl (by simp [newIds,refsOf,refs2,refs1]) (by simp [Blk.kindIs,fillK_fd]) rfl
set_option maxRecDepth 8000 in
set_option maxHeartbeats 8000000 in
theorem specFill_con (xa:ByteArray) (xl w:List (ByteArray×Int×Int)) (rest:List (ByteArray×List (ByteArray×Int×Int))) (hxa:xa.size≤9223372036854775807) (hxl:xl.length≤1048576) (hxs:∀t∈xl,t.1.size≤9223372036854775807) (hwl:w.length≤1048576) (hws:∀t∈w,t.1.size≤9223372036854775807) (hrl:rest.length≤1048575) (hrz:∀x∈rest,x.1.size≤9223372036854775807∧x.2.length≤1048576∧∀t∈x.2,t.1.size≤9223372036854775807):Con Tryd.prog 51 [.agg [.str xa,.sl (xl.map (fun t:ByteArray×Int×Int=>V.agg [V.str t.1,V.int .i64 t.2.1,V.int .i64 t.2.2]))],.sl (w.map (fun t:ByteArray×Int×Int=>V.agg [V.str t.1,V.int .i64 t.2.1,V.int .i64 t.2.2])),.sl (rest.map (fun t:ByteArray×List (ByteArray×Int×Int)=>V.agg [V.str t.1,V.sl (t.2.map (fun t:ByteArray×Int×Int=>V.agg [V.str t.1,V.int .i64 t.2.1,V.int .i64 t.2.2]))]))] [] (.tup [.agg [.str (orS (fillB xa xl w rest) xa),.ref 0],.ref 1,.bool (fillB xa xl w rest)]) [.arr ((orN (fillB xa xl w rest) (fillX xl w rest)).map (fun t:ByteArray×Int×Int=>V.agg [V.str t.1,V.int .i64 t.2.1,V.int .i64 t.2.2])) .flat,.arr ((orN (fillB xa xl w rest) (fillR xl w rest)).map (fun t:ByteArray×List (ByteArray×Int×Int)=>V.agg [V.str t.1,V.sl (t.2.map (fun t:ByteArray×Int×Int=>V.agg [V.str t.1,V.int .i64 t.2.1,V.int .i64 t.2.2]))])) .deep]:=by
 refine v_con [.cell 6 65,.tmp 7,.tmp 8] [] Tryd.func51 rfl rfl rfl (by simp [Tryd.ntmps51]) ?_
 intro Q0 n0 r0
 simp only [Tryd.ntmps51,envFrom,Nat.reduceAdd]
 have T:=Tys.mk (And.intro Ty.t3 (And.intro Ty.t4 (And.intro Ty.t9 (And.intro Ty.t63 (And.intro Ty.t65 (And.intro Ty.t66 Ty.t93))))))
 have F:=Fc.mk True.intro
 rcases guard3 w rest with hw1 | ⟨hw1,hd6⟩ | ⟨hw1,hd6⟩
 ·skip
  have hB0:(fillB xa xl w rest)=false:=by
   have hG:(fillG xa xl w rest)=false:=by rw [fillG];simp [hw1]
   rw [fillB,hG];rfl
  refine v_seqR [1,2,3,6] ?_;intro K1 k1
  have F:=Fc.mk hw1
  refine zq34 ⟨?_⟩;refine zq1 ⟨?_⟩;refine k1 _ ?_;refine zk ⟨?_⟩;refine v_seq ?_;intro Q2 n2 e2 r2;refine v_seqR [1,2,3,6,37] ?_;intro K3 k3;refine zMove ⟨?_⟩;refine zc (eqGood_con w hwl hws) ⟨?_⟩;refine zq50 ⟨?_⟩;refine zq51 ⟨?_⟩;refine zgBuildSlice ⟨?_⟩;refine zgMove ⟨?_⟩;refine zgAppend ⟨?_⟩;refine zgc (eqLoads_con ((xa,xl)::rest) (by rw [List.length_cons];omega) (fun x hx=>by rcases List.mem_cons.1 hx with rfl | hx;exact ⟨hxa,hxl,hxs⟩;exact hrz x hx) 7) ⟨?_⟩;refine zq12 ⟨?_⟩;refine k3 _ ?_;refine zk ⟨?_⟩;refine v_cond _ rfl ?_ ?_
  ·intro hc0
   try simp only [zC,reduceCtorEq] at hc0
   have hB:(fillB xa xl w rest)=false:=by
    first
    |exact hB0
    |(
     have h1:=ldChk_one xa xl rest
     have hG:(fillG xa xl w rest)=false:=by
      rw [fillG]
      cases q1:ldChk [(xa,xl)] rest<;>cases q2:nameB xa<;>cases q3:thsB xl<;>by_cases q4:(rest.length:Int)≤6<;>simp [q1,q2,q3,q4,hw1,h1] at hc0⊢<;>(try omega)
     rw [fillB,hG];rfl)
   refine v_seq ?_;intro Q5 n5 e5 r5;refine v_region ?_;intro K6 k6;refine zq45 ⟨?_⟩;refine k6 _ ?_
   apply n5
   ·apply weak_trans (weak_keep [6,7,8] _)
    simp only [keep_mk,keepE_nil,keepE_cons,look_cons,look_nil,Nat.reduceEqDiff,reduceIte]
    exact weak_fd 5 [] rfl
   try simp only [atSlot_cons,atSlot_nil,Nat.reduceEqDiff,reduceIte,List.set_cons_zero,List.set_cons_succ]
   refine v_ret ?_;refine r2 _ ?_;refine r0 _ ?_;refine zf ⟨?_⟩
   simp only [zE,zL,zO,zN,aStepM,optable,set_some,Nat.reduceEqDiff,reduceIte,Nat.reduceLT,implies_true,forall_const,reduceCtorEq,V.ofValue,V.ofScalar,V.un,V.gd,aLoad,row_mk,Blk.row,PartOK,Go.Vm.part,V.cells,V.noSl,V.noRef,Nat.reduceAdd,Nat.reduceLeDiff,Nat.reduceMul,Tryd.underlying9,Ty.c9,Ty.a9,Tryd.underlying63,Ty.c63,Ty.a63,Tryd.underlying65,Ty.c65,Ty.a65]
   simp only [hB,orS,orN_f,Bool.false_eq_true,if_false,List.map_nil]
   exact ret_all rfl (by first | decide | simp [newIds,refsOf,refs2,refs1]) (by simp) rfl (by simp [newIds,refsOf,refs2,refs1]) (by simp [Blk.kindIs,fillK_fd]) rfl
  ·intro hc0
   exfalso;simp at hc0
 ·skip
  have hB0:(fillB xa xl w rest)=false:=by
   have hG:(fillG xa xl w rest)=false:=by rw [fillG];simp at hd6;simp;omega
   rw [fillB,hG];rfl
  refine v_seqR [1,2,3,6] ?_;intro K7 k7
  have F:=Fc.mk (And.intro hw1 hd6)
  refine zq34 ⟨?_⟩;refine zq1 ⟨?_⟩;refine k7 _ ?_;refine zk ⟨?_⟩;refine v_seq ?_;intro Q8 n8 e8 r8;refine v_seqR [1,2,3,6,37] ?_;intro K9 k9;refine zMove ⟨?_⟩;refine zc (eqGood_con w hwl hws) ⟨?_⟩;refine zq50 ⟨?_⟩;refine zMove ⟨?_⟩;refine v_pass 31 8 false rfl (show 31 < 108 by decide) rfl ?_ ?_
  ·first | rfl | (simp only [zV,guardV,Nat.reduceEqDiff,reduceIte];done)
  simp only [zW,set_some,Nat.reduceEqDiff,reduceIte]
  refine v_pass 32 8 false rfl (show 32 < 108 by decide) rfl ?_ ?_
  ·first | rfl | (simp only [zV,guardV,Nat.reduceEqDiff,reduceIte];done)
  simp only [zW,set_some,Nat.reduceEqDiff,reduceIte]
  refine v_pass 33 8 false rfl (show 33 < 108 by decide) rfl ?_ ?_
  ·first | rfl | (simp only [zV,guardV,Nat.reduceEqDiff,reduceIte];done)
  simp only [zW,set_some,Nat.reduceEqDiff,reduceIte]
  refine v_pass 34 8 false rfl (show 34 < 108 by decide) rfl ?_ ?_
  ·first | rfl | (simp only [zV,guardV,Nat.reduceEqDiff,reduceIte];done)
  simp only [zW,set_some,Nat.reduceEqDiff,reduceIte]
  refine v_pass 35 8 false rfl (show 35 < 108 by decide) rfl ?_ ?_
  ·first | rfl | (simp only [zV,guardV,Nat.reduceEqDiff,reduceIte];done)
  simp only [zW,set_some,Nat.reduceEqDiff,reduceIte]
  refine v_pass 36 8 false rfl (show 36 < 108 by decide) rfl ?_ ?_
  ·first | rfl | (simp only [zV,guardV,Nat.reduceEqDiff,reduceIte];done)
  simp only [zW,set_some,Nat.reduceEqDiff,reduceIte]
  refine zPick ⟨?_⟩;refine k9 _ ?_;refine zk ⟨?_⟩;refine v_cond _ rfl ?_ ?_
  ·intro hc0
   try simp only [zC,reduceCtorEq] at hc0
   have hB:(fillB xa xl w rest)=false:=by
    first
    |exact hB0
    |(
     have h1:=ldChk_one xa xl rest
     have hG:(fillG xa xl w rest)=false:=by
      rw [fillG]
      cases q1:ldChk [(xa,xl)] rest<;>cases q2:nameB xa<;>cases q3:thsB xl<;>by_cases q4:(rest.length:Int)≤6<;>simp [q1,q2,q3,q4,hw1,h1] at hc0⊢<;>(try omega)
     rw [fillB,hG];rfl)
   refine v_seq ?_;intro Q11 n11 e11 r11;refine v_region ?_;intro K12 k12;refine zq45 ⟨?_⟩;refine k12 _ ?_
   apply n11
   ·apply weak_trans (weak_keep [6,7,8] _)
    simp only [keep_mk,keepE_nil,keepE_cons,look_cons,look_nil,Nat.reduceEqDiff,reduceIte]
    exact weak_fd 5 [] rfl
   try simp only [atSlot_cons,atSlot_nil,Nat.reduceEqDiff,reduceIte,List.set_cons_zero,List.set_cons_succ]
   refine v_ret ?_;refine r8 _ ?_;refine r0 _ ?_;refine zf ⟨?_⟩
   simp only [zE,zL,zO,zN,aStepM,optable,set_some,Nat.reduceEqDiff,reduceIte,Nat.reduceLT,implies_true,forall_const,reduceCtorEq,V.ofValue,V.ofScalar,V.un,V.gd,aLoad,row_mk,Blk.row,PartOK,Go.Vm.part,V.cells,V.noSl,V.noRef,Nat.reduceAdd,Nat.reduceLeDiff,Nat.reduceMul,Tryd.underlying9,Ty.c9,Ty.a9,Tryd.underlying63,Ty.c63,Ty.a63,Tryd.underlying65,Ty.c65,Ty.a65]
   simp only [hB,orS,orN_f,Bool.false_eq_true,if_false,List.map_nil]
   exact ret_all rfl (by first | decide | simp [newIds,refsOf,refs2,refs1]) (by simp) rfl (by simp [newIds,refsOf,refs2,refs1]) (by simp [Blk.kindIs,fillK_fd]) rfl
  ·intro hc0
   exfalso;simp at hc0
 ·skip
  have hw1b:=hw1
  refine v_seqR [1,2,3,6] ?_;intro K13 k13
  have F:=Fc.mk (And.intro hw1 hd6)
  refine zq34 ⟨?_⟩;refine zq1 ⟨?_⟩;refine k13 _ ?_;refine zk ⟨?_⟩;refine v_seq ?_;intro Q14 n14 e14 r14;refine v_seqR [1,2,3,6,37] ?_;intro K15 k15;refine zMove ⟨?_⟩;refine zc (eqGood_con w hwl hws) ⟨?_⟩;refine zq50 ⟨?_⟩;refine zMove ⟨?_⟩;refine v_opT 8 false rfl (by first | rfl | (simp only [zV,guardV,Nat.reduceEqDiff,reduceIte];done)) (show 31 < 108 by decide) ?_;intro K k
  simp only [zE,zL,zO,zN,aStepM,optable,set_some,Nat.reduceEqDiff,reduceIte,Nat.reduceLT,implies_true,forall_const,reduceCtorEq,V.ofValue,V.ofScalar,V.un,V.gd,aExec,aop,aLoad,row_mk,Blk.row,PartOK,Go.Vm.part,V.cells,V.noSl,V.noRef,Nat.reduceAdd,Nat.reduceLeDiff,Nat.reduceMul,Tryd.underlying9,Ty.c9,Ty.a9,Tryd.underlying63,Ty.c63,Ty.a63,Tryd.underlying65,Ty.c65,Ty.a65,hw1,hd6]
  repeat (refine And.intro (by first | omega | (intros;omega) | (intros;simp_all;done) | (intros;simp_all;omega)) ?_)
  refine k _ ?_;clear k K;refine v_opT 8 false rfl (by first | rfl | (simp only [zV,guardV,Nat.reduceEqDiff,reduceIte];done)) (show 32 < 108 by decide) ?_;intro K k
  simp only [zE,zO,zN,aStepM,optable,set_some,Nat.reduceEqDiff,reduceIte,Nat.reduceLT,implies_true,forall_const,reduceCtorEq,V.ofValue,V.ofScalar,V.un,V.gd,aExec,aop,litElems,rng0,rng1,rng2,rng3,rng4,rng5,rng6,rng7,rng8,rng9,rng10,rng11,rng12,List.map_cons,List.map_nil,List.all_cons,List.all_nil,V.isVal,V.cells,content,contentL,kindAll,V.noRef,V.noSl,List.mem_cons,List.not_mem_nil,or_false,forall_eq_or_imp,forall_eq,if_true,Option.isSome_some,List.length_cons,List.length_nil,Nat.reduceAdd,Nat.reduceLeDiff,Nat.reduceMul,Tryd.underlying65,Ty.c65,Ty.a65,Ty.z65,Tryd.underlying66,Ty.c66,Ty.a66,Ty.z66,hw1,hd6]
  repeat (refine And.intro (by first | omega | (intros;omega) | (intros;simp_all;done) | (intros;simp_all;omega)) ?_)
  refine k _ ?_;clear k K;refine v_opT 8 false rfl (by first | rfl | (simp only [zV,guardV,Nat.reduceEqDiff,reduceIte];done)) (show 33 < 108 by decide) ?_;intro K k
  simp only [zE,aStepM,optable,set_some,Nat.reduceEqDiff,reduceIte,Nat.reduceLT,implies_true,forall_const,reduceCtorEq,V.ofValue,V.ofScalar,V.un,V.gd,aExec,aop,hw1,hd6]
  repeat (refine And.intro (by first | omega | (intros;omega) | (intros;simp_all;done) | (intros;simp_all;omega)) ?_)
  refine k _ ?_;clear k K;refine v_opT 8 false rfl (by first | rfl | (simp only [zV,guardV,Nat.reduceEqDiff,reduceIte];done)) (show 34 < 108 by decide) ?_;intro K k
  simp only [zE,zL,zO,zN,aStepM,optable,set_some,Nat.reduceEqDiff,reduceIte,Nat.reduceLT,implies_true,forall_const,reduceCtorEq,V.ofValue,V.ofScalar,V.un,V.gd,aExec,aop,fillK_thin,beq_self_eq_true,List.nodup_cons,List.mem_singleton,forall_eq',List.size_toArray,List.getD_eq_getElem?_getD,Array.getD_eq_getD_getElem?,Option.getD_some,aAppend,destOf,srcOf,takeElems,takeV,takeCell,takeCells,row_mk,Blk.row,killAll,V.isSub,V.noSl,Value.cells,Option.toList,List.forall_mem_map,List.length_map,List.all_cons,List.all_nil,List.isEmpty_nil,List.isEmpty_cons,List.not_mem_nil,List.nodup_nil,join_ff,join_ft,join_fv,join_d,join_s,fillK_join0,fillK_join,List.mem_cons,or_false,forall_eq_or_imp,forall_eq,List.set_cons_zero,List.set_cons_succ,List.length_append,Go.Vm.V.cells,Nat.reduceAdd,Nat.reduceLeDiff,Nat.reduceMul,Tryd.underlying65,Ty.c65,Ty.a65,Ty.z65,Ty.b65,Ty.s65,Tryd.underlying66,Ty.c66,Ty.a66,Ty.z66,Ty.b66,Ty.s66,hw1,hd6]
  repeat (refine And.intro (by first | omega | (intros;omega) | (intros;simp_all;done) | (intros;simp_all;omega)) ?_)
  refine k _ ?_;clear k K;refine v_opT 8 false rfl (by first | rfl | (simp only [zV,guardV,Nat.reduceEqDiff,reduceIte];done)) (show 35 < 108 by decide) ?_;intro K k
  simp only [zE,zM,aStepM,optable,set_some,Nat.reduceEqDiff,reduceIte,Nat.reduceLT,implies_true,forall_const,reduceCtorEq,V.ofValue,V.ofScalar,V.un,V.gd,aExec,lentIds,lendOf,Tryd.underlying3,Ty.c3,Ty.a3,Ty.b3,Ty.s3,Tryd.underlying4,Ty.c4,Ty.a4,Ty.b4,Ty.s4,Tryd.underlying65,Ty.c65,Ty.a65,Ty.b65,Ty.s65,Tryd.underlying66,Ty.c66,Ty.a66,Ty.b66,Ty.s66]
  repeat (refine And.intro (by first | rfl | (intros;simp_all;done)) ?_)
  refine aCall_new (eqLoads_con ((xa,xl)::rest) (by rw [List.length_cons];omega) (fun x hx=>by rcases List.mem_cons.1 hx with rfl | hx;exact ⟨hxa,hxl,hxs⟩;exact hrz x hx) 7) (by first | rfl | (simp only [toArgs,toArg,toCell,toCells,idx,row_mk,List.getElem?_cons_zero,List.getElem?_cons_succ,Option.bind_some,Option.map_some,Blk.row,fillK_mix,flat_mix,deep_mix,thin_mix,shal_mix,cond_true,List.map_take];done) | (simp [toArgs,toArg,toCell,toCells,idx,row_mk,Blk.row,fillK_mix,flat_mix,deep_mix,thin_mix,shal_mix,Nat.beq_refl];done)) (by first | exact .inl ⟨rfl,by simp [Blk.kindIs,fillK_fd]⟩ | exact .inr (by simp [V.cold])) ?_;refine k _ ?_;clear k K
  simp only [zY,zW,set_some,Nat.reduceEqDiff,reduceIte,V.ren,V.renL,rho,Nat.reduceAdd]
  refine v_opT 8 false rfl (by first | rfl | (simp only [zV,guardV,Nat.reduceEqDiff,reduceIte];done)) (show 36 < 108 by decide) ?_;intro K k
  simp only [zE,aStepM,optable,set_some,Nat.reduceEqDiff,reduceIte,Nat.reduceLT,implies_true,forall_const,reduceCtorEq,V.ofValue,V.ofScalar,V.un,V.gd,aExec,aop,aUn,Tryd.underlying4,hw1,hd6]
  repeat (refine And.intro (by first | omega | (intros;omega) | (intros;simp_all;done) | (intros;simp_all;omega)) ?_)
  refine k _ ?_;clear k K;refine zPick ⟨?_⟩;refine k15 _ ?_;refine zk ⟨?_⟩;refine v_condS _ rfl ?_ ?_
  ·intro hc0
   have hB:(fillB xa xl w rest)=false:=by
    first
    |exact hB0
    |(
     have h1:=ldChk_one xa xl rest
     have hG:(fillG xa xl w rest)=false:=by
      rw [fillG]
      cases q1:ldChk [(xa,xl)] rest<;>cases q2:nameB xa<;>cases q3:thsB xl<;>by_cases q4:(rest.length:Int)≤6<;>simp [q1,q2,q3,q4,hw1,h1] at hc0⊢<;>(try omega)
     rw [fillB,hG];rfl)
   refine v_seq ?_;intro Q17 n17 e17 r17;refine v_region ?_;intro K18 k18;refine zq45 ⟨?_⟩;refine k18 _ ?_
   apply n17
   ·apply weak_trans (weak_keep [6,7,8] _)
    simp only [keep_mk,keepE_nil,keepE_cons,look_cons,look_nil,Nat.reduceEqDiff,reduceIte]
    exact weak_fd 7 [] rfl
   try simp only [atSlot_cons,atSlot_nil,Nat.reduceEqDiff,reduceIte,List.set_cons_zero,List.set_cons_succ]
   refine v_ret ?_;refine r14 _ ?_;refine r0 _ ?_;refine zf ⟨?_⟩
   simp only [zE,zL,zO,zN,aStepM,optable,set_some,Nat.reduceEqDiff,reduceIte,Nat.reduceLT,implies_true,forall_const,reduceCtorEq,V.ofValue,V.ofScalar,V.un,V.gd,aLoad,row_mk,Blk.row,PartOK,Go.Vm.part,V.cells,V.noSl,V.noRef,Nat.reduceAdd,Nat.reduceLeDiff,Nat.reduceMul,Tryd.underlying9,Ty.c9,Ty.a9,Tryd.underlying63,Ty.c63,Ty.a63,Tryd.underlying65,Ty.c65,Ty.a65]
   simp only [hB,orS,orN_f,Bool.false_eq_true,if_false,List.map_nil]
   exact ret_all rfl (by first | decide | simp [newIds,refsOf,refs2,refs1]) (by simp) rfl (by simp [newIds,refsOf,refs2,refs1]) (by simp [Blk.kindIs,fillK_fd]) rfl
  ·intro hc0
   have hG:(fillG xa xl w rest)=true:=by
    have h1:=ldChk_one xa xl rest
    rw [fillG]
    cases q1:ldChk [(xa,xl)] rest<;>cases q2:nameB xa<;>cases q3:thsB xl<;>by_cases q4:(rest.length:Int)≤6<;>simp [q1,q2,q3,q4,hw1,h1] at hc0⊢<;>(try omega)
   have g:=fillG_facts hG
   have hx12:=g.ok.x.len
   have hw12:=g.w.len
   have hxsz:=nm_size g.nm
   have hr6:=g.six
   have hmn:∀t∈(missL w xl),tnB t.1=true∧1≤t.2.1∧t.2.1≤99:=fun t ht=>⟨by obtain ⟨z,hz,hz1,_⟩:=miss_names ht;rw [←hz1];exact (g.w.ok z hz).1,miss_cnt g.w g.ok.x t ht⟩
   have hml:(missL w xl).length≤12:=Nat.le_trans (missL_len w xl) g.w.len
   refine v_skip ?_;refine n14 _ _ (weak_keep [1,2,3,6] _) ?_;refine zk ⟨?_⟩;refine v_seqR [1,2,3,6,9] ?_;intro K19 k19;refine zLoad ⟨?_⟩;refine zc (eqOwn_con xa xl (by omega)) ⟨?_⟩;refine zq10 ⟨?_⟩;refine k19 _ ?_;refine zk ⟨?_⟩;refine v_seqR [1,2,3,6,9,10] ?_;intro K20 k20;refine zAssign ⟨?_⟩;refine k20 _ ?_;refine zk ⟨?_⟩;refine v_seq ?_;intro Q21 n21 e21 r21;refine v_seqR [1,3,6,9,10,41,42,43] ?_;intro K22 k22;refine zq14 ⟨?_⟩;refine k22 _ ?_;refine zk ⟨?_⟩;refine v_block ?_;intro Q23 n23 x23 e23 r23;refine v_loop (fun i=>⟨[(1,.sl (w.map (fun t:ByteArray×Int×Int=>V.agg [V.str t.1,V.int .i64 t.2.1,V.int .i64 t.2.2]))),(3,.ptr 0 0 0),(6,.ptr 2 0 0),(9,.ptr 4 0 0),(10,.ref 5),(41,.sl (rest.map (fun t:ByteArray×List (ByteArray×Int×Int)=>V.agg [V.str t.1,V.sl (t.2.map (fun t:ByteArray×Int×Int=>V.agg [V.str t.1,V.int .i64 t.2.1,V.int .i64 t.2.2]))]))),(42,.int .i64 rest.length),(43,.int .i64 (Nat.cast i))],[.box (.agg [.str xa,.sl (xl.map (fun t:ByteArray×Int×Int=>V.agg [V.str t.1,V.int .i64 t.2.1,V.int .i64 t.2.2]))]) .shal,.arr [] .flat,.box (.agg [.str .empty,.ref 1]) .mix,.arr (xl.map (fun t:ByteArray×Int×Int=>V.agg [V.str t.1,V.int .i64 t.2.1,V.int .i64 t.2.2])) .flat,.box (.agg [.str xa,.ref 3]) .mix,.arr ((rest.take i).map (fun t:ByteArray×List (ByteArray×Int×Int)=>V.agg [V.str t.1,V.sl (t.2.map (fun t:ByteArray×Int×Int=>V.agg [V.str t.1,V.int .i64 t.2.1,V.int .i64 t.2.2]))])) (fillK i)],false,108,0⟩) (fun i=>i≤rest.length) (fun i=>rest.length - i) 0 ?_ ?_ ?_
   ·refine weak_bothN [1,3,6,9,10,41,42,43] [0,1,2,6,8,9] ⟨?_⟩
    rfl
   ·exact Nat.zero_le _
   ·rintro i hok24 Q24 n24 e24 r24
    have hi1:i≤rest.length:=hok24
    refine v_seqR [1,3,6,9,10,41,42,43,44] ?_;intro K25 k25;refine zBinOp ⟨?_⟩;refine k25 _ ?_;refine zk ⟨?_⟩;refine v_seq ?_;intro Q26 n26 e26 r26;refine v_condS _ rfl ?_ ?_
    ·intro hc1
     have hlt:i < rest.length:=by omega
     obtain ⟨⟨y0,y1⟩,hy⟩:∃x:ByteArray×List (ByteArray×Int×Int),rest[i]? =some x:=⟨rest[i]'(by omega),List.getElem?_eq_getElem (by omega)⟩
     have hyz:=hrz _ (List.mem_of_getElem? hy)
     simp only [] at hyz
     have hsn:(rest.take i).map (fun t:ByteArray×List (ByteArray×Int×Int)=>V.agg [V.str t.1,V.sl (t.2.map (fun t:ByteArray×Int×Int=>V.agg [V.str t.1,V.int .i64 t.2.1,V.int .i64 t.2.2]))])++[V.agg [V.str y0,V.sl (y1.map (fun t:ByteArray×Int×Int=>V.agg [V.str t.1,V.int .i64 t.2.1,V.int .i64 t.2.2]))]]=(rest.take (i+1)).map (fun t:ByteArray×List (ByteArray×Int×Int)=>V.agg [V.str t.1,V.sl (t.2.map (fun t:ByteArray×Int×Int=>V.agg [V.str t.1,V.int .i64 t.2.1,V.int .i64 t.2.2]))]):=(take_map_step (f:=(fun t:ByteArray×List (ByteArray×Int×Int)=>V.agg [V.str t.1,V.sl (t.2.map (fun t:ByteArray×Int×Int=>V.agg [V.str t.1,V.int .i64 t.2.1,V.int .i64 t.2.2]))])) hy).symm
     have hti:(rest.take i).length=i:=by rw [List.length_take];omega
     refine v_skip ?_;refine n26 _ _ (weak_keep [1,3,6,9,10,41,42,43] _) ?_;refine zk ⟨?_⟩;refine v_seq ?_;intro Q28 n28 e28 r28;refine v_block ?_;intro Q29 n29 x29 e29 r29;refine v_seqR [1,3,6,9,10,12,41,42,43] ?_;intro K30 k30
     have F:=Fc.mk (And.intro hw1 (And.intro hd6 (And.intro (fun f=>getD_map (f:=f) hy) hti)))
     refine zq23 ⟨?_⟩;refine k30 _ ?_;refine zk ⟨?_⟩;refine v_region ?_;intro K31 k31;refine zMove ⟨?_⟩;refine zLoad ⟨?_⟩;refine zc (eqOwn_con y0 y1 hyz.2.1) ⟨?_⟩;refine zq35 ⟨?_⟩;refine k31 _ ?_;refine n29 _ ?_;refine n28 _ _ (weak_keep [1,3,6,9,10,41,42,43] _) ?_;refine zk ⟨?_⟩;refine v_region ?_;intro K32 k32;refine zq6 ⟨?_⟩;refine k32 _ ?_;refine n24 _ (i+1) ?_ ?_ ?_
     ·refine weak_bothN [1,3,6,9,10,41,42,43] [0,1,2,3,4,10] ⟨?_⟩
      rw [←hsn];rfl
     ·exact hlt
     ·show _ < _;omega
    ·intro hc1
     have hend:i=rest.length:=by omega
     subst hend
     simp only [List.take_length]
     refine v_exit ?_;refine e26 _ _ ?_;refine e24 _ _ ?_;refine x23 _ ?_;refine n21 _ _ (weak_keep [1,3,6,9,10] _) ?_;refine zk ⟨?_⟩;refine v_seq ?_;intro Q33 n33 e33 r33;refine v_seq ?_;intro Q34 n34 e34 r34;refine v_region ?_;intro K35 k35;refine zq31 ⟨?_⟩;refine zc (eqMissing_con w xl (by omega) (by omega) (fun x h=>(g.w.ok x h).2.1) (fun x h=>(g.ok.x.ok x h).2.1) g.ok.x.srt) ⟨?_⟩;refine zq46 ⟨?_⟩;refine k35 _ ?_
     apply n34
     ·apply weak_trans (weak_keep [6,9,10,56,57,58] _)
      simp only [keep_mk,keepE_nil,keepE_cons,look_cons,look_nil,Nat.reduceEqDiff,reduceIte]
      exact weak_trans (weak_fk 5 rest.length _ rfl) weak_view
     try simp only [atSlot_cons,atSlot_nil,Nat.reduceEqDiff,reduceIte,List.set_cons_zero,List.set_cons_succ]
     refine v_block ?_;intro Q36 n36 x36 e36 r36;refine v_loop (fun p=>⟨[(6,.ptr 1 0 0),(9,.ptr 3 0 0),(10,.ref 4),(56,.ref 5),(57,.int .i64 (missL w xl).length),(58,.int .i64 (Nat.cast p.1))],[.arr [] .flat,.box (.agg [.str .empty,.ref 0]) .mix,.arr (p.2.1.map (fun t:ByteArray×Int×Int=>V.agg [V.str t.1,V.int .i64 t.2.1,V.int .i64 t.2.2])) .flat,.box (.agg [.str xa,.ref 2]) .mix,.arr (p.2.2.map (fun t:ByteArray×List (ByteArray×Int×Int)=>V.agg [V.str t.1,V.sl (t.2.map (fun t:ByteArray×Int×Int=>V.agg [V.str t.1,V.int .i64 t.2.1,V.int .i64 t.2.2]))])) .deep,.arr ((missL w xl).map (fun t:ByteArray×Int×Int=>V.agg [V.str t.1,V.int .i64 t.2.1,V.int .i64 t.2.2])) .flat],true,108,0⟩) (fun p=>p.1≤(missL w xl).length∧fillA ((missL w xl).drop p.1) p.2.1 p.2.2=fillA (missL w xl) xl rest∧FillOK p.2.1 p.2.2∧p.2.2.length=rest.length) (fun p=>(missL w xl).length - p.1) (0,xl,rest) ?_ ?_ ?_
     ·refine weak_bothN [6,9,10,56,57,58] [1,2,3,4,5,6] ⟨?_⟩
      rfl
     ·exact ⟨Nat.zero_le _,rfl,g.ok,rfl⟩
     ·rintro ⟨i,xc,rc⟩ hok37 Q37 n37 e37 r37
      obtain ⟨hi1,hF,hK0,hrc⟩:=hok37
      simp only [] at hi1 hF hK0 hrc⊢
      have hxc:=hK0.x.len
      refine v_seqR [6,9,10,56,57,58,59] ?_;intro K38 k38;refine zBinOp ⟨?_⟩;refine k38 _ ?_;refine zk ⟨?_⟩;refine v_seq ?_;intro Q39 n39 e39 r39;refine v_condS _ rfl ?_ ?_
      ·intro hc2
       have hlt:i < (missL w xl).length:=by omega
       obtain ⟨⟨t0,t1,t2⟩,hx⟩:∃x:ByteArray×Int×Int,(missL w xl)[i]? =some x:=⟨(missL w xl)[i]'(by omega),List.getElem?_eq_getElem (by omega)⟩
       obtain ⟨htn,ht1,ht9⟩:=hmn _ (List.mem_of_getElem? hx)
       simp only [] at htn ht1 ht9
       refine v_skip ?_;refine n39 _ _ (weak_keep [6,9,10,56,57,58] _) ?_;refine zk ⟨?_⟩;refine v_seq ?_;intro Q41 n41 e41 r41;refine v_block ?_;intro Q42 n42 x42 e42 r42;refine v_seqR [6,9,10,14,56,57,58] ?_;intro K43 k43
       have F:=Fc.mk (And.intro hw1 (And.intro hd6 (fun f=>getD_map (f:=f) hx)))
       refine zq23 ⟨?_⟩;refine k43 _ ?_;refine zk ⟨?_⟩;refine v_seqR [6,9,10,14,15,56,57,58] ?_;intro K44 k44;refine zq2 ⟨?_⟩;refine zAssign ⟨?_⟩;refine k44 _ ?_;refine zk ⟨?_⟩;refine v_seq ?_;intro Q45 n45 e45 r45;refine v_seqR [6,9,10,14,15,56,57,58,64,65,66] ?_;intro K46 k46;refine zq14 ⟨?_⟩;refine k46 _ ?_;refine zk ⟨?_⟩;refine v_block ?_;intro Q47 n47 x47 e47 r47;refine v_loop (fun q=>⟨[(6,.ptr 1 0 0),(9,.ptr 3 0 0),(10,.ref 4),(14,.ptr 6 0 0),(15,.int .i64 q.2.1),(56,.ref 5),(57,.int .i64 (missL w xl).length),(58,.int .i64 (Nat.cast i)),(64,.ref 4),(65,.int .i64 rc.length),(66,.int .i64 (Nat.cast q.1))],[.arr [] .flat,.box (.agg [.str .empty,.ref 0]) .mix,.arr (q.2.2.1.map (fun t:ByteArray×Int×Int=>V.agg [V.str t.1,V.int .i64 t.2.1,V.int .i64 t.2.2])) .flat,.box (.agg [.str xa,.ref 2]) .mix,.arr (q.2.2.2.map (fun t:ByteArray×List (ByteArray×Int×Int)=>V.agg [V.str t.1,V.sl (t.2.map (fun t:ByteArray×Int×Int=>V.agg [V.str t.1,V.int .i64 t.2.1,V.int .i64 t.2.2]))])) .deep,.arr ((missL w xl).map (fun t:ByteArray×Int×Int=>V.agg [V.str t.1,V.int .i64 t.2.1,V.int .i64 t.2.2])) .flat,.box (.agg [V.str t0,V.int .i64 t1,V.int .i64 t2]) .flat],true,108,0⟩) (fun q=>q.1≤rc.length∧fillJ t0 q.2.1 q.2.2.1 q.2.2.2 q.1=fillT t0 t1 xc rc∧FillOK q.2.2.1 q.2.2.2∧q.2.2.2.length=rc.length∧0≤q.2.1∧q.2.1≤99) (fun q=>rc.length - q.1) (0,t1,xc,rc) ?_ ?_ ?_
       ·refine weak_bothN [6,9,10,14,15,56,57,58,64,65,66] [0,1,2,3,4,5,6] ⟨?_⟩
        rfl
       ·exact ⟨Nat.zero_le _,fillJ_zero _ _ _ _,hK0,rfl,by show 0≤t1;omega,ht9⟩
       ·rintro ⟨j,left,x2,cur⟩ hok48 Q48 n48 e48 r48
        obtain ⟨hj1,hJ,hK,hcl,hl0,hl9⟩:=hok48
        simp only [] at hj1 hJ hK hcl hl0 hl9⊢
        have hx212:=hK.x.len
        refine v_seqR [6,9,10,14,15,56,57,58,64,65,66,67] ?_;intro K49 k49;refine zBinOp ⟨?_⟩;refine k49 _ ?_;refine zk ⟨?_⟩;refine v_seq ?_;intro Q50 n50 e50 r50;refine v_condS _ rfl ?_ ?_
        ·intro hc3
         have hltj:j < cur.length:=by omega
         obtain ⟨⟨y0,y1⟩,hy⟩:∃x:ByteArray×List (ByteArray×Int×Int),cur[j]? =some x:=⟨cur[j]'(by omega),List.getElem?_eq_getElem (by omega)⟩
         have hyo:=hK.ok _ (List.mem_of_getElem? hy)
         simp only [] at hyo
         have hy12:=hyo.2.len
         have hysz:=nm_size hyo.1
         have hcb:=cnt_bound (fun t h=>(hyo.2.ok t h).2.1) t0
         refine v_skip ?_;refine n50 _ _ (weak_keep [6,9,10,14,15,56,57,58,64,65,66] _) ?_;refine zk ⟨?_⟩;refine v_seq ?_;intro Q52 n52 e52 r52;refine v_block ?_;intro Q53 n53 x53 e53 r53;refine v_seqR [6,9,10,14,15,16,17,56,57,58,64,65,66] ?_;intro K54 k54
         have F:=Fc.mk (And.intro hw1 (And.intro hd6 (And.intro (fun f=>getD_map (f:=f) hx) (fun f=>getD_map (f:=f) hy))))
         refine zq38 ⟨?_⟩;refine k54 _ ?_;refine zk ⟨?_⟩;refine v_seqR [6,9,10,14,15,16,17,18,56,57,58,64,65,66] ?_;intro K55 k55;refine zq31 ⟨?_⟩;refine zq2 ⟨?_⟩;refine zc (eqHas_con y1 t0 (by omega) hyo.2.srt) ⟨?_⟩;refine zc (l1Least_con left (cntOf y1 t0)) ⟨?_⟩;refine zAssign ⟨?_⟩;refine k55 _ ?_;refine zk ⟨?_⟩;refine v_seq ?_;intro Q56 n56 e56 r56;refine v_seqR [6,9,10,14,15,16,17,18,56,57,58,64,65,66,79] ?_;intro K57 k57;refine zq26 ⟨?_⟩;refine k57 _ ?_;refine zk ⟨?_⟩;refine v_condS _ rfl ?_ ?_
         ·intro hc4
          have hn0:(minI left (cntOf y1 t0))=0:=by simpa [minI] using hc4
          have hnx:=fillJ_skip (left:=left) (xl:=x2) hy hn0
          refine v_exit ?_;refine e56 _ _ ?_;refine x53 _ ?_;refine n52 _ _ (weak_keep [6,9,10,14,15,56,57,58,64,65,66] _) ?_;refine zk ⟨?_⟩;refine v_region ?_;intro K59 k59;refine zq6 ⟨?_⟩;refine k59 _ ?_;refine n48 _ (j+1,left,x2,cur) ?_ ?_ ?_
          ·refine weak_bothN [6,9,10,14,15,56,57,58,64,65,66] [0,1,2,3,4,5,6] ⟨?_⟩
           rfl
          ·exact ⟨by show j+1≤rc.length;omega,by show fillJ t0 left x2 cur (j+1)=_;rw [←hnx];exact hJ,hK,hcl,hl0,hl9⟩
          ·show _ < _;show rc.length - (j+1) < rc.length - j;omega
         ·intro hc4
          have hn0:(minI left (cntOf y1 t0))≠0:=by simpa [minI] using hc4
          obtain ⟨hnb,hnl,hnc⟩:=min_pos (left:=left) hl0 (fun t h=>(hyo.2.ok t h).2.1) hn0
          refine v_skip ?_;refine n56 _ _ (weak_keep [6,9,10,14,15,16,17,18,56,57,58,64,65,66] _) ?_;refine zk ⟨?_⟩;refine v_seqR [6,9,10,14,15,16,18,19,20,21,56,57,58,64,65,66] ?_;intro K60 k60;refine zLoad ⟨?_⟩;refine zLoad ⟨?_⟩;refine zq11 ⟨?_⟩;refine zc (eqMove_con y0 y1 xa x2 t0 (minI left (cntOf y1 t0)) hyo.1 g.nm hyo.2 hK.x htn hnb) ⟨?_⟩;refine zq36 ⟨?_⟩;refine zAlloc ⟨?_⟩;refine zq10 ⟨?_⟩;refine zq27 ⟨?_⟩;refine k60 _ ?_;refine zk ⟨?_⟩;refine v_seq ?_;intro Q61 n61 e61 r61;refine v_seqR [6,9,10,14,15,16,18,19,20,56,57,58,64,65,66,91] ?_;intro K62 k62;refine zq59 ⟨?_⟩;refine k62 _ ?_;refine zk ⟨?_⟩;refine v_condS _ rfl ?_ ?_
          ·intro hc5
           have hm:mvB y1 x2 t0 (minI left (cntOf y1 t0))=false:=by
            first
            |exact hc5
            |simpa using hc5
            |simpa [minI] using hc5
           have hfail:=fillJ_fail (left:=left) (xl:=x2) hy hn0 hm
           have hnone:fillA (missL w xl) xl rest=none:=by
            rw [←hF,fillA_step hx,show fillT t0 t1 xc rc=none by rw [←hJ,hfail]]
           have hB:(fillB xa xl w rest)=false:=by rw [fillB,hnone];simp
           refine v_seq ?_;intro Q64 n64 e64 r64;refine v_region ?_;intro K65 k65;refine zq45 ⟨?_⟩;refine k65 _ ?_
           apply n64
           ·apply weak_trans (weak_keep [6,7,8] _)
            simp only [keep_mk,keepE_nil,keepE_cons,look_cons,look_nil,Nat.reduceEqDiff,reduceIte]
            exact weak_fd 16 [] rfl
           try simp only [atSlot_cons,atSlot_nil,Nat.reduceEqDiff,reduceIte,List.set_cons_zero,List.set_cons_succ]
           refine v_ret ?_;refine r61 _ ?_;refine r53 _ ?_;refine r52 _ ?_;refine r48 _ ?_;refine r47 _ ?_;refine r45 _ ?_;refine r42 _ ?_;refine r41 _ ?_;refine r37 _ ?_;refine r36 _ ?_;refine r33 _ ?_;refine r0 _ ?_;refine zf ⟨?_⟩
           simp only [zE,zL,zO,zN,aStepM,optable,set_some,Nat.reduceEqDiff,reduceIte,Nat.reduceLT,implies_true,forall_const,reduceCtorEq,V.ofValue,V.ofScalar,V.un,V.gd,aLoad,row_mk,Blk.row,PartOK,Go.Vm.part,V.cells,V.noSl,V.noRef,Nat.reduceAdd,Nat.reduceLeDiff,Nat.reduceMul,Tryd.underlying9,Ty.c9,Ty.a9,Tryd.underlying63,Ty.c63,Ty.a63,Tryd.underlying65,Ty.c65,Ty.a65]
           simp only [hB,orS,orN_f,Bool.false_eq_true,if_false,List.map_nil]
           exact ret_all rfl (by first | decide | simp [newIds,refsOf,refs2,refs1]) (by simp) rfl (by simp [newIds,refsOf,refs2,refs1]) (by simp [Blk.kindIs,fillK_fd]) rfl
          ·intro hc5
           have hm:mvB y1 x2 t0 (minI left (cntOf y1 t0))=true:=by
            first
            |exact hc5
            |simpa using hc5
            |simpa [minI] using hc5
           have hnx:=fillJ_move (left:=left) (xl:=x2) hy hn0 hm
           have hok2:=fill_ok_set hK hy hnb.1 hm
           have hsm:(cur.map (fun t:ByteArray×List (ByteArray×Int×Int)=>V.agg [V.str t.1,V.sl (t.2.map (fun t:ByteArray×Int×Int=>V.agg [V.str t.1,V.int .i64 t.2.1,V.int .i64 t.2.2]))])).set j (V.agg [V.str y0,V.sl ((takeT y1 t0 (minI left (cntOf y1 t0))).map (fun t:ByteArray×Int×Int=>V.agg [V.str t.1,V.int .i64 t.2.1,V.int .i64 t.2.2]))])=(cur.set j (y0,takeT y1 t0 (minI left (cntOf y1 t0)))).map (fun t:ByteArray×List (ByteArray×Int×Int)=>V.agg [V.str t.1,V.sl (t.2.map (fun t:ByteArray×Int×Int=>V.agg [V.str t.1,V.int .i64 t.2.1,V.int .i64 t.2.2]))]):=by have q:=List.map_set (f:=(fun t:ByteArray×List (ByteArray×Int×Int)=>V.agg [V.str t.1,V.sl (t.2.map (fun t:ByteArray×Int×Int=>V.agg [V.str t.1,V.int .i64 t.2.1,V.int .i64 t.2.2]))])) (l:=cur) (i:=j) (a:=(y0,takeT y1 t0 (minI left (cntOf y1 t0))));exact q.symm
           have hm2:=hm
           simp only [minI] at hm2 hsm
           refine v_skip ?_;refine n61 _ _ (weak_keep [6,9,10,14,15,16,18,19,20,56,57,58,64,65,66] _) ?_;refine zk ⟨?_⟩;refine v_seqR [6,9,10,14,15,18,20,56,57,58,64,65,66] ?_;intro K66 k66
           have F:=Fc.mk (And.intro hw1 (And.intro hd6 (And.intro (fun f=>getD_map (f:=f) hx) (And.intro (fun f=>getD_map (f:=f) hy) (And.intro hm2 (And.intro ((show ∀x:ByteArray,orS true x=x from fun _=>rfl)) (And.intro @orN_t hsm)))))))
           refine zq3 ⟨?_⟩;refine zLoad ⟨?_⟩;refine zIndexAddr ⟨?_⟩;refine zStore ⟨?_⟩;refine k66 _ ?_;refine zk ⟨?_⟩;refine v_seqR [6,9,10,14,15,18,56,57,58,64,65,66] ?_;intro K67 k67;refine zLoad ⟨?_⟩;refine zStore ⟨?_⟩;refine k67 _ ?_;refine zk ⟨?_⟩;refine v_region ?_;intro K68 k68;refine zq3 ⟨?_⟩;refine zq25 ⟨?_⟩;refine k68 _ ?_;refine n53 _ ?_;refine n52 _ _ (weak_keep [6,9,10,14,15,56,57,58,64,65,66] _) ?_;refine zk ⟨?_⟩;refine v_region ?_;intro K69 k69;refine zq6 ⟨?_⟩;refine k69 _ ?_;refine n48 _ (j+1,left - (minI left (cntOf y1 t0)),putT x2 t0 (minI left (cntOf y1 t0)) (dayOf y1 t0),cur.set j (y0,takeT y1 t0 (minI left (cntOf y1 t0)))) ?_ ?_ ?_
           ·refine weak_bothN [6,9,10,14,15,56,57,58,64,65,66] [0,1,10,3,4,5,6] ⟨?_⟩
            have hs1:∀x:ByteArray,orS true x=x:=fun _=>rfl
            simp only [minI,hm2,hs1,orN_t,hsm]
            all_goals rfl
           ·exact ⟨by show j+1≤rc.length;omega,by show fillJ t0 (left - (minI left (cntOf y1 t0))) _ _ (j+1)=_;rw [←hJ,hnx],hok2,by show (cur.set j _).length=_;rw [List.length_set];exact hcl,by show 0≤left - (minI left (cntOf y1 t0));omega,by show left - (minI left (cntOf y1 t0))≤99;omega⟩
           ·show _ < _;show rc.length - (j+1) < rc.length - j;omega
        ·intro hc3
         have hj2:j=cur.length:=by omega
         have hend:=fillJ_end (s:=t0) (left:=left) (xl:=x2) (cur:=cur) (j:=j) (by omega)
         have hT:fillT t0 t1 xc rc=some (cur,x2,left):=by rw [←hJ,hend]
         refine v_exit ?_;refine e50 _ _ ?_;refine e48 _ _ ?_;refine x47 _ ?_;refine n45 _ _ (weak_keep [6,9,10,15,56,57,58] _) ?_;refine zk ⟨?_⟩;refine v_seqR [6,9,10,56,57,58,103] ?_;intro K70 k70;refine zq26 ⟨?_⟩;refine k70 _ ?_;refine zk ⟨?_⟩;refine v_condS _ rfl ?_ ?_
         ·intro hc6
          have hnone:fillA (missL w xl) xl rest=none:=by
           rw [←hF,fillA_step hx,hT];simp only [];rw [if_pos (show 0 < left by first | omega | (have h:=hc6;simp at h;omega))]
          have hB:(fillB xa xl w rest)=false:=by rw [fillB,hnone];simp
          refine v_seq ?_;intro Q72 n72 e72 r72;refine v_region ?_;intro K73 k73;refine zq45 ⟨?_⟩;refine k73 _ ?_
          apply n72
          ·apply weak_trans (weak_keep [6,7,8] _)
           simp only [keep_mk,keepE_nil,keepE_cons,look_cons,look_nil,Nat.reduceEqDiff,reduceIte]
           exact weak_fd 8 [] rfl
          try simp only [atSlot_cons,atSlot_nil,Nat.reduceEqDiff,reduceIte,List.set_cons_zero,List.set_cons_succ]
          refine v_ret ?_;refine r42 _ ?_;refine r41 _ ?_;refine r37 _ ?_;refine r36 _ ?_;refine r33 _ ?_;refine r0 _ ?_;refine zf ⟨?_⟩
          simp only [zE,zL,zO,zN,aStepM,optable,set_some,Nat.reduceEqDiff,reduceIte,Nat.reduceLT,implies_true,forall_const,reduceCtorEq,V.ofValue,V.ofScalar,V.un,V.gd,aLoad,row_mk,Blk.row,PartOK,Go.Vm.part,V.cells,V.noSl,V.noRef,Nat.reduceAdd,Nat.reduceLeDiff,Nat.reduceMul,Tryd.underlying9,Ty.c9,Ty.a9,Tryd.underlying63,Ty.c63,Ty.a63,Tryd.underlying65,Ty.c65,Ty.a65]
          simp only [hB,orS,orN_f,Bool.false_eq_true,if_false,List.map_nil]
          exact ret_all rfl (by first | decide | simp [newIds,refsOf,refs2,refs1]) (by simp) rfl (by simp [newIds,refsOf,refs2,refs1]) (by simp [Blk.kindIs,fillK_fd]) rfl
         ·intro hc6
          have hnx2:fillA ((missL w xl).drop (i+1)) x2 cur=fillA (missL w xl) xl rest:=by
           rw [←hF,fillA_step hx,hT];simp only [];rw [if_neg (show ¬0 < left by first | omega | (have h:=hc6;simp at h;omega))]
          refine v_skip ?_;refine n42 _ ?_;refine n41 _ _ (weak_keep [6,9,10,56,57,58] _) ?_;refine zk ⟨?_⟩;refine v_region ?_;intro K74 k74;refine zq6 ⟨?_⟩;refine k74 _ ?_;refine n37 _ (i+1,x2,cur) ?_ ?_ ?_
          ·refine weak_bothN [6,9,10,56,57,58] [0,1,2,3,4,5] ⟨?_⟩
           rfl
          ·exact ⟨hlt,hnx2,hK,hcl.trans hrc⟩
          ·show _ < _;show (missL w xl).length - (i+1) < (missL w xl).length - i;omega
      ·intro hc2
       have hend:fillA (missL w xl) xl rest=some (xc,rc):=by rw [←hF,List.drop_of_length_le (by omega)];rfl
       have hXe:fillX xl w rest=xc:=by rw [fillX,hend]
       have hRe:fillR xl w rest=rc:=by rw [fillR,hend]
       have hB:(fillB xa xl w rest)=true:=by rw [fillB,hG,hend];rfl
       refine v_exit ?_;refine e39 _ _ ?_;refine e37 _ _ ?_;refine x36 _ ?_;refine n33 _ _ (weak_keep [6,9,10] _) ?_;refine zk ⟨?_⟩;refine v_seqR [6,7,8] ?_;intro K75 k75;refine zLoad ⟨?_⟩;refine zMove ⟨?_⟩;refine zStore ⟨?_⟩;refine zq1 ⟨?_⟩;refine k75 _ ?_;refine zk ⟨?_⟩;refine v_ret ?_;refine r0 _ ?_;refine zf ⟨?_⟩
       simp only [zE,zL,zO,zN,aStepM,optable,set_some,Nat.reduceEqDiff,reduceIte,Nat.reduceLT,implies_true,forall_const,reduceCtorEq,V.ofValue,V.ofScalar,V.un,V.gd,aLoad,row_mk,Blk.row,PartOK,Go.Vm.part,V.cells,V.noSl,V.noRef,Nat.reduceAdd,Nat.reduceLeDiff,Nat.reduceMul,Tryd.underlying9,Ty.c9,Ty.a9,Tryd.underlying63,Ty.c63,Ty.a63,Tryd.underlying65,Ty.c65,Ty.a65]
       simp only [hB,orS,if_true,orN_t,hXe,hRe]
       exact ret_all rfl (by first | decide | simp [newIds,refsOf,refs2,refs1]) (by simp) rfl (by simp [newIds,refsOf,refs2,refs1]) (by simp [Blk.kindIs,fillK_fd]) rfl
end Go.Proofs.YtbameklegpgkfaaDoor
