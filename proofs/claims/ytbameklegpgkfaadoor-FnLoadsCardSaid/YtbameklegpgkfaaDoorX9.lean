/- What functions compute. No condition. -/
import Derived.Test.YtbameklegpgkfaaDoorUz
import Derived.Test.YtbameklegpgkfaaDoorUty
import Derived.Test.YtbameklegpgkfaaDoorUmG
import Derived.Test.YtbameklegpgkfaaDoorX8
import Derived.Test.YtbameklegpgkfaaDoorX3
import Derived.Test.YtbameklegpgkfaaDoorX4
set_option linter.unusedSimpArgs false
set_option linter.unusedVariables false
set_option linter.defProp false
namespace Go.Proofs.YtbameklegpgkfaaDoor
open Go Go.Vm
def ldOK (x:ByteArray×List (ByteArray×Int×Int)):Bool:=nameB x.1 && thsB x.2
def ldChk:List (ByteArray×List (ByteArray×Int×Int))→List (ByteArray×List (ByteArray×Int×Int))→Bool
  | _,[]=>true
  | pre,x::l=>(ldOK x && !(pre.any fun y=>decide (y.1=x.1))) && ldChk (pre++[x]) l
theorem ldChk_step {l:List (ByteArray×List (ByteArray×Int×Int))} {i:Nat} {x0:ByteArray} {x1:List (ByteArray×Int×Int)} (h:l[i]? =some (x0,x1)):ldChk (l.take i) (l.drop i)=((ldOK (x0,x1) && !((l.take i).any fun y=>decide (y.1=x0))) && ldChk (l.take (i+1)) (l.drop (i+1))):=by
  rw [getElem_drop_cons h,ldChk,List.take_add_one,h];rfl
theorem ldChk_ok':∀(l pre:List (ByteArray×List (ByteArray×Int×Int))),ldChk pre l=true→∀x∈l,ldOK x=true
  | [],_,_,x,hx=>by cases hx
  | y::l,pre,h,x,hx=>by
    rw [ldChk,Bool.and_eq_true,Bool.and_eq_true] at h
    rcases List.mem_cons.1 hx with rfl | hx
    · exact h.1.1
    · exact ldChk_ok' l _ h.2 x hx
theorem ldChk_ok {l:List (ByteArray×List (ByteArray×Int×Int))} (h:ldChk [] l=true):∀x∈l,ldOK x=true:=ldChk_ok' l [] h
def cntSum:List (ByteArray×List (ByteArray×Int×Int))→ByteArray→Int
  | [],_=>0
  | x::l,s=>cntOf x.2 s+cntSum l s
theorem cntSum_app (s:ByteArray):∀l m:List (ByteArray×List (ByteArray×Int×Int)),cntSum (l++m) s=cntSum l s+cntSum m s
  | [],m=>by simp [cntSum]
  | x::l,m=>by rw [List.cons_append,cntSum,cntSum,cntSum_app s l m];omega
theorem cntSum_step {l:List (ByteArray×List (ByteArray×Int×Int))} {s:ByteArray} {i:Nat} {x0:ByteArray} {x1:List (ByteArray×Int×Int)} (h:l[i]? =some (x0,x1)):cntSum (l.take (i+1)) s=cntSum (l.take i) s+cntOf x1 s:=by
  rw [List.take_add_one,h,Option.toList_some,cntSum_app]
  simp [cntSum]
def cntB (l:List (ByteArray×List (ByteArray×Int×Int))) (s:ByteArray):Bool:=(decide ((l.length:Int)≤7) && tnB s) && ldChk [] l
def cntV (l:List (ByteArray×List (ByteArray×Int×Int))) (s:ByteArray):Int:=if cntB l s=true then cntSum l s else 0
theorem any_step {α:Type} {p:α→Bool} {l:List α} {j:Nat} {y:α} (h:l[j]? =some y):(l.take (j+1)).any p=((l.take j).any p || p y):=by
  rw [List.take_add_one,h,Option.toList_some,List.any_append];simp
set_option maxHeartbeats 1000000 in
theorem countThings1_con (x0:ByteArray) (x1:List (ByteArray×Int×Int)) (y0:ByteArray) (y1:List (ByteArray×Int×Int)):Con Tryd.prog 137 [.agg [V.str x0,V.sl (x1.map (fun t:ByteArray×Int×Int=>V.agg [V.str t.1,V.int .i64 t.2.1,V.int .i64 t.2.2]))],.pv [V.agg [V.str y0,V.sl (y1.map (fun t:ByteArray×Int×Int=>V.agg [V.str t.1,V.int .i64 t.2.1,V.int .i64 t.2.2]))]] 0 0] [] (.bool (decide (x0=y0))) []:=by
 refine v_con [.tmp 3] [] Tryd.func137 rfl rfl rfl (by simp [Tryd.ntmps137]) ?_
 intro Q0 n0 r0
 simp only [Tryd.ntmps137,envFrom,Nat.reduceAdd]
 have T:=Tys.mk (And.intro Ty.t3 (And.intro Ty.t9 (And.intro Ty.t63 (And.intro Ty.t65 Ty.t93))))
 have F:=Fc.mk True.intro
 refine v_seqR [1,2] ?_;intro K1 k1;refine zq21 ⟨?_⟩;refine k1 _ ?_;refine zk ⟨?_⟩;refine v_seqR [3] ?_;intro K2 k2;refine zq2 ⟨?_⟩;refine zq2 ⟨?_⟩;refine zq28 ⟨?_⟩;refine k2 _ ?_;refine zk ⟨?_⟩;refine v_ret ?_;refine r0 _ ?_;refine zf ⟨?_⟩
 exact ret_pure rfl (by first | rfl | simp) (.inl rfl)
set_option maxHeartbeats 1000000 in
theorem implCount_con (l:List (ByteArray×List (ByteArray×Int×Int))) (hl:l.length≤1048576) (hlz:∀x∈l,x.1.size≤9223372036854775807∧x.2.length≤1048576∧∀t∈x.2,t.1.size≤9223372036854775807) (s:ByteArray) (hss:s.size≤9223372036854775807):Con Tryd.prog 61 [.sl (l.map (fun t:ByteArray×List (ByteArray×Int×Int)=>V.agg [V.str t.1,V.sl (t.2.map (fun t:ByteArray×Int×Int=>V.agg [V.str t.1,V.int .i64 t.2.1,V.int .i64 t.2.2]))])),.str s] [] (.tup [.int .i64 (cntV l s),.bool (cntB l s)]) []:=by
 refine v_con [.tmp 4,.tmp 5] [] Tryd.func61 rfl rfl rfl (by simp [Tryd.ntmps61]) ?_
 intro Q0 n0 r0
 simp only [Tryd.ntmps61,envFrom,Nat.reduceAdd]
 have T:=Tys.mk (And.intro Ty.t3 (And.intro Ty.t4 (And.intro Ty.t9 (And.intro Ty.t63 (And.intro Ty.t65 (And.intro Ty.t66 Ty.t93))))))
 have F:=Fc.mk True.intro
 refine v_seqR [0,1] ?_;intro K1 k1;refine zq1 ⟨?_⟩;refine k1 _ ?_;refine zk ⟨?_⟩;refine v_seq ?_;intro Q2 n2 e2 r2;refine v_seqR [0,1,16] ?_;intro K3 k3;refine zq5 ⟨?_⟩;refine zBinOp ⟨?_⟩;refine zq4 ⟨?_⟩;refine zgc (isThingName_con s hss) ⟨?_⟩;refine zq12 ⟨?_⟩;refine k3 _ ?_;refine zk ⟨?_⟩;refine v_condS _ rfl ?_ ?_
 ·intro hc0
  have hB:(cntB l s)=false:=by
   rw [cntB]
   by_cases q:(l.length:Int)≤7<;>cases h:tnB s<;>simp [q,h] at hc0⊢<;>(try omega)
  have hV:cntV l s=0:=by rw [cntV,hB];rfl
  refine v_seqR [4,5] ?_;intro K5 k5;refine zq1 ⟨?_⟩;refine k5 _ ?_;refine zk ⟨?_⟩;refine v_ret ?_;refine r2 _ ?_;refine r0 _ ?_;refine zf ⟨?_⟩
  exact ret_pure rfl (by rw [hV,hB]) (.inl rfl)
 ·intro hc0
  have hg:((l.length:Int)≤7)∧tnB s=true:=by
   by_cases q:(l.length:Int)≤7<;>cases h:tnB s<;>simp [q,h] at hc0⊢<;>(try omega)
  obtain ⟨hl7,hsn⟩:=hg
  refine v_skip ?_;refine n2 _ _ (weak_keep [0,1] _) ?_;refine zk ⟨?_⟩;refine v_seqR [0,1,6] ?_;intro K6 k6;refine zAssign ⟨?_⟩;refine k6 _ ?_;refine zk ⟨?_⟩;refine v_seq ?_;intro Q7 n7 e7 r7;refine v_seqR [0,1,6,17,18,19] ?_;intro K8 k8;refine zq14 ⟨?_⟩;refine k8 _ ?_;refine zk ⟨?_⟩;refine v_block ?_;intro Q9 n9 x9 e9 r9;refine v_loop (fun p=>⟨[(0,.sl (l.map (fun t:ByteArray×List (ByteArray×Int×Int)=>V.agg [V.str t.1,V.sl (t.2.map (fun t:ByteArray×Int×Int=>V.agg [V.str t.1,V.int .i64 t.2.1,V.int .i64 t.2.2]))]))),(1,.str s),(6,.int .i64 p.2),(17,.sl (l.map (fun t:ByteArray×List (ByteArray×Int×Int)=>V.agg [V.str t.1,V.sl (t.2.map (fun t:ByteArray×Int×Int=>V.agg [V.str t.1,V.int .i64 t.2.1,V.int .i64 t.2.2]))]))),(18,.int .i64 l.length),(19,.int .i64 (Nat.cast p.1))],[],false,42,0⟩) (fun p=>p.1≤l.length∧ldChk (l.take p.1) (l.drop p.1)=ldChk [] l∧p.2=cntSum (l.take p.1) s∧0≤p.2∧p.2≤99 * (p.1:Int)) (fun p=>l.length - p.1) ((0,0):Nat×Int) ?_ ?_ ?_
  ·refine weak_bothS [0,1,6,17,18,19] [] ⟨?_⟩
   rfl
  ·exact ⟨Nat.zero_le _,rfl,rfl,by simp⟩
  ·rintro ⟨i,sm⟩ hok10 Q10 n10 e10 r10
   obtain ⟨hi1,hR,hS,hsb⟩:=hok10
   simp only [] at hi1 hR hS hsb⊢
   refine v_seqR [0,1,6,17,18,19,20] ?_;intro K11 k11;refine zBinOp ⟨?_⟩;refine k11 _ ?_;refine zk ⟨?_⟩;refine v_seq ?_;intro Q12 n12 e12 r12;refine v_condS _ rfl ?_ ?_
   ·intro hc1
    have hlt:i < l.length:=by omega
    obtain ⟨⟨x0,x1⟩,hx⟩:∃x:ByteArray×List (ByteArray×Int×Int),l[i]? =some x:=⟨l[i]'(by omega),List.getElem?_eq_getElem (by omega)⟩
    have hxz:=hlz _ (List.mem_of_getElem? hx)
    simp only [] at hxz
    have hst:=ldChk_step hx
    refine v_skip ?_;refine n12 _ _ (weak_keep [0,1,6,17,18,19] _) ?_;refine zk ⟨?_⟩;refine v_seq ?_;intro Q14 n14 e14 r14;refine v_block ?_;intro Q15 n15 x15 e15 r15;refine v_seqR [0,1,6,7,8,17,18,19] ?_;intro K16 k16
    have F:=Fc.mk (fun f=>getD_map (f:=f) hx)
    refine zq38 ⟨?_⟩;refine k16 _ ?_;refine zk ⟨?_⟩;refine v_seq ?_;intro Q17 n17 e17 r17;refine v_seqR [0,1,6,8,17,18,19,33] ?_;intro K18 k18;refine zLoad ⟨?_⟩;refine zc (isLoad_con x0 x1 hxz.1 hxz.2.1 hxz.2.2) ⟨?_⟩;refine zUnOp ⟨?_⟩;refine zq15 ⟨?_⟩;refine zgSlice ⟨?_⟩;refine zgMakeFunc ⟨?_⟩;refine zgc (containsFuncLoad_con (l.take i) _ _ (fun y=>decide (y.1=x0)) (by rw [List.length_take];omega) (.pv _ .nil) (fun y0 y1 _=>countThings1_con y0 y1 x0 x1)) ⟨?_⟩;refine zPick ⟨?_⟩;refine k18 _ ?_;refine zk ⟨?_⟩;refine v_condS _ rfl ?_ ?_
    ·intro hc2
     have hbad:ldChk (l.take i) (l.drop i)=false:=by
      rw [hst]
      revert hc2
      unfold ldOK
      cases nameB x0<;>cases thsB x1<;>cases ((l.take i).any fun y=>decide (y.1=x0))<;>simp
     have hB:(cntB l s)=false:=by rw [cntB,←hR,hbad];simp
     have hV:cntV l s=0:=by rw [cntV,hB];rfl
     refine v_seqR [4,5] ?_;intro K20 k20;refine zq1 ⟨?_⟩;refine k20 _ ?_;refine zk ⟨?_⟩;refine v_ret ?_;refine r17 _ ?_;refine r15 _ ?_;refine r14 _ ?_;refine r10 _ ?_;refine r9 _ ?_;refine r7 _ ?_;refine r0 _ ?_;refine zf ⟨?_⟩
     exact ret_pure rfl (by rw [hV,hB]) (.inl rfl)
    ·intro hc2
     have hgd:(nameB x0 && thsB x1)=true∧ldChk (l.take (i+1)) (l.drop (i+1))=ldChk (l.take i) (l.drop i):=by
      rw [hst]
      revert hc2
      unfold ldOK
      cases nameB x0<;>cases thsB x1<;>cases ((l.take i).any fun y=>decide (y.1=x0))<;>simp
     clear hc2 hst
     have hxk:=(ths_iff x1).1 (by have:=hgd.1;rw [Bool.and_eq_true] at this;exact this.2)
     have hcb:=cnt_bound (fun t h=>(hxk.ok t h).2.1) s
     have hcs:=cntSum_step (s:=s) hx
     refine v_skip ?_;refine n17 _ _ (weak_keep [0,1,6,8,17,18,19] _) ?_;refine zk ⟨?_⟩;refine v_region ?_;intro K21 k21;refine zMove ⟨?_⟩;refine zq11 ⟨?_⟩;refine zc (countOf_con x1 s hxz.2.1) ⟨?_⟩;refine zq25 ⟨?_⟩;refine k21 _ ?_;refine n15 _ ?_;refine n14 _ _ (weak_keep [0,1,6,17,18,19] _) ?_;refine zk ⟨?_⟩;refine v_region ?_;intro K22 k22;refine zq6 ⟨?_⟩;refine k22 _ ?_;refine n10 _ (i+1,sm+cntOf x1 s) ?_ ?_ ?_
     ·refine weak_bothS [0,1,6,17,18,19] [] ⟨?_⟩
      rfl
     ·exact ⟨hlt,by show ldChk (l.take (i+1)) (l.drop (i+1))=_;rw [hgd.2,hR],by show sm+cntOf x1 s=_;rw [hcs,hS],by show 0≤sm+cntOf x1 s∧sm+cntOf x1 s≤99 * ((i+1:Nat):Int);omega⟩
     ·show _ < _;show l.length - (i+1) < l.length - i;omega
   ·intro hc1
    refine v_exit ?_;refine e12 _ _ ?_;refine e10 _ _ ?_;refine x9 _ ?_;refine n7 _ _ (weak_keep [6] _) ?_;refine zk ⟨?_⟩;refine v_seqR [4,5] ?_;intro K23 k23;refine zq41 ⟨?_⟩;refine k23 _ ?_;refine zk ⟨?_⟩;refine v_ret ?_;refine r0 _ ?_;refine zf ⟨?_⟩
    have hend:ldChk [] l=true:=by rw [←hR,List.drop_of_length_le (by omega)];rfl
    have hB:(cntB l s)=true:=by rw [cntB,hend,hsn,decide_eq_true hl7];rfl
    exact ret_pure rfl (by rw [hB,cntV,hB,if_pos rfl,hS,List.take_of_length_le (by omega)]) (.inl rfl)
set_option maxHeartbeats 1000000 in
theorem eqLoads_con (l:List (ByteArray×List (ByteArray×Int×Int))) (hl:l.length≤1048576) (hlz:∀x∈l,x.1.size≤9223372036854775807∧x.2.length≤1048576∧∀t∈x.2,t.1.size≤9223372036854775807) (m:Int):Con Tryd.prog 122 [.sl (l.map (fun t:ByteArray×List (ByteArray×Int×Int)=>V.agg [V.str t.1,V.sl (t.2.map (fun t:ByteArray×Int×Int=>V.agg [V.str t.1,V.int .i64 t.2.1,V.int .i64 t.2.2]))])),.int .i64 m] [] (.bool (ldChk [] l && decide ((l.length:Int)≤m))) []:=by
 refine v_con [.tmp 4] [] Tryd.func122 rfl rfl rfl (by simp [Tryd.ntmps122]) ?_
 intro Q0 n0 r0
 simp only [Tryd.ntmps122,envFrom,Nat.reduceAdd]
 have T:=Tys.mk (And.intro Ty.t3 (And.intro Ty.t4 (And.intro Ty.t9 (And.intro Ty.t63 (And.intro Ty.t65 (And.intro Ty.t66 Ty.t93))))))
 have F:=Fc.mk True.intro
 refine v_seqR [0,1] ?_;intro K1 k1;refine zAssign ⟨?_⟩;refine k1 _ ?_;refine zk ⟨?_⟩;refine v_seq ?_;intro Q2 n2 e2 r2;refine v_seqR [0,1,9,10,11] ?_;intro K3 k3;refine zq14 ⟨?_⟩;refine k3 _ ?_;refine zk ⟨?_⟩;refine v_block ?_;intro Q4 n4 x4 e4 r4;refine v_loop (fun i=>⟨[(0,.sl (l.map (fun t:ByteArray×List (ByteArray×Int×Int)=>V.agg [V.str t.1,V.sl (t.2.map (fun t:ByteArray×Int×Int=>V.agg [V.str t.1,V.int .i64 t.2.1,V.int .i64 t.2.2]))]))),(1,.int .i64 m),(9,.sl (l.map (fun t:ByteArray×List (ByteArray×Int×Int)=>V.agg [V.str t.1,V.sl (t.2.map (fun t:ByteArray×Int×Int=>V.agg [V.str t.1,V.int .i64 t.2.1,V.int .i64 t.2.2]))]))),(10,.int .i64 l.length),(11,.int .i64 (Nat.cast i))],[],false,38,0⟩) (fun i=>i≤l.length∧ldChk (l.take i) (l.drop i)=ldChk [] l) (fun i=>l.length - i) 0 ?_ ?_ ?_
 ·refine weak_bothS [0,1,9,10,11] [] ⟨?_⟩
  rfl
 ·exact ⟨Nat.zero_le _,rfl⟩
 ·rintro i hok5 Q5 n5 e5 r5
  obtain ⟨hi1,hR⟩:=hok5
  refine v_seqR [0,1,9,10,11,12] ?_;intro K6 k6;refine zBinOp ⟨?_⟩;refine k6 _ ?_;refine zk ⟨?_⟩;refine v_seq ?_;intro Q7 n7 e7 r7;refine v_condS _ rfl ?_ ?_
  ·intro hc0
   have hlt:i < l.length:=by omega
   obtain ⟨⟨x0,x1⟩,hx⟩:∃x:ByteArray×List (ByteArray×Int×Int),l[i]? =some x:=⟨l[i]'(by omega),List.getElem?_eq_getElem (by omega)⟩
   have hxz:=hlz _ (List.mem_of_getElem? hx)
   simp only [] at hxz
   have hst:=ldChk_step hx
   refine v_skip ?_;refine n7 _ _ (weak_keep [0,1,9,10,11] _) ?_;refine zk ⟨?_⟩;refine v_seq ?_;intro Q9 n9 e9 r9;refine v_block ?_;intro Q10 n10 x10 e10 r10;refine v_seqR [0,1,5,6,9,10,11] ?_;intro K11 k11
   have F:=Fc.mk (fun f=>getD_map (f:=f) hx)
   refine zq38 ⟨?_⟩;refine k11 _ ?_;refine zk ⟨?_⟩;refine v_seq ?_;intro Q12 n12 e12 r12;refine v_seqR [0,1,5,6,9,10,11,18] ?_;intro K13 k13;refine zLoad ⟨?_⟩;refine zc (eqLoad_con x0 x1 hxz.1 hxz.2.1 hxz.2.2) ⟨?_⟩;refine zUnOp ⟨?_⟩;refine k13 _ ?_;refine zk ⟨?_⟩;refine v_condS _ rfl ?_ ?_
   ·intro hc1
    have hbad:ldChk (l.take i) (l.drop i)=false:=by
     rw [hst]
     have h:ldOK (x0,x1)=false:=by unfold ldOK;simpa using hc1
     rw [h];rfl
    refine v_seqR [4] ?_;intro K15 k15;refine zAssign ⟨?_⟩;refine k15 _ ?_;refine zk ⟨?_⟩;refine v_ret ?_;refine r12 _ ?_;refine r10 _ ?_;refine r9 _ ?_;refine r5 _ ?_;refine r4 _ ?_;refine r2 _ ?_;refine r0 _ ?_;refine zf ⟨?_⟩
    exact ret_pure rfl (by rw [←hR,hbad];rfl) (.inl rfl)
   ·intro hc1
    have hok1:ldOK (x0,x1)=true:=by unfold ldOK;simpa using hc1
    refine v_skip ?_;refine n12 _ _ (weak_keep [0,1,5,6,9,10,11] _) ?_;refine zk ⟨?_⟩;refine v_seqR [0,1,6,9,10,11,21,22,23] ?_;intro K16 k16;refine zq3 ⟨?_⟩;refine zSlice ⟨?_⟩;refine zq46 ⟨?_⟩;refine k16 _ ?_;refine zk ⟨?_⟩;refine v_block ?_;intro Q17 n17 x17 e17 r17;refine v_loop (fun j=>⟨[(0,.sl (l.map (fun t:ByteArray×List (ByteArray×Int×Int)=>V.agg [V.str t.1,V.sl (t.2.map (fun t:ByteArray×Int×Int=>V.agg [V.str t.1,V.int .i64 t.2.1,V.int .i64 t.2.2]))]))),(1,.int .i64 m),(6,.ptr 0 0 0),(9,.sl (l.map (fun t:ByteArray×List (ByteArray×Int×Int)=>V.agg [V.str t.1,V.sl (t.2.map (fun t:ByteArray×Int×Int=>V.agg [V.str t.1,V.int .i64 t.2.1,V.int .i64 t.2.2]))]))),(10,.int .i64 l.length),(11,.int .i64 (Nat.cast i)),(21,.sl ((l.take i).map (fun t:ByteArray×List (ByteArray×Int×Int)=>V.agg [V.str t.1,V.sl (t.2.map (fun t:ByteArray×Int×Int=>V.agg [V.str t.1,V.int .i64 t.2.1,V.int .i64 t.2.2]))]))),(22,.int .i64 (l.take i).length),(23,.int .i64 (Nat.cast j))],[.box (.agg [V.str x0,V.sl (x1.map (fun t:ByteArray×Int×Int=>V.agg [V.str t.1,V.int .i64 t.2.1,V.int .i64 t.2.2]))]) .shal],false,38,0⟩) (fun j=>j≤(l.take i).length∧(((l.take i).take j).any fun y=>decide (y.1=x0))=false) (fun j=>(l.take i).length - j) 0 ?_ ?_ ?_
    ·refine weak_bothS [0,1,6,9,10,11,21,22,23] [1] ⟨?_⟩
     rfl
    ·exact ⟨Nat.zero_le _,rfl⟩
    ·rintro j hok18 Q18 n18 e18 r18
     obtain ⟨hj1,hJ⟩:=hok18
     refine v_seqR [0,1,6,9,10,11,21,22,23,24] ?_;intro K19 k19;refine zBinOp ⟨?_⟩;refine k19 _ ?_;refine zk ⟨?_⟩;refine v_seq ?_;intro Q20 n20 e20 r20;refine v_condS _ rfl ?_ ?_
     ·intro hc2
      have hltj:j < (l.take i).length:=by omega
      have hlti:(l.take i).length≤1048576:=by rw [List.length_take];omega
      obtain ⟨⟨y0,y1⟩,hy⟩:∃x:ByteArray×List (ByteArray×Int×Int),(l.take i)[j]? =some x:=⟨(l.take i)[j]'(by omega),List.getElem?_eq_getElem (by omega)⟩
      refine v_skip ?_;refine n20 _ _ (weak_keep [0,1,6,9,10,11,21,22,23] _) ?_;refine zk ⟨?_⟩;refine v_seq ?_;intro Q22 n22 e22 r22;refine v_block ?_;intro Q23 n23 x23 e23 r23;refine v_seqR [0,1,6,8,9,10,11,21,22,23] ?_;intro K24 k24
      have F:=Fc.mk (And.intro (fun f=>getD_map (f:=f) hx) (fun f=>getD_map (f:=f) hy))
      refine zq23 ⟨?_⟩;refine k24 _ ?_;refine zk ⟨?_⟩;refine v_seqR [0,1,6,9,10,11,21,22,23,31] ?_;intro K25 k25;refine zq2 ⟨?_⟩;refine zq49 ⟨?_⟩;refine k25 _ ?_;refine zk ⟨?_⟩;refine v_condS _ rfl ?_ ?_
      ·intro hc3
       have hbad:ldChk (l.take i) (l.drop i)=false:=by
        rw [hst]
        have h:((l.take i).any fun y=>decide (y.1=x0))=true:=List.any_eq_true.2 ⟨_,List.mem_of_getElem? hy,by simpa using hc3.symm⟩
        rw [h];simp
       refine v_seqR [4] ?_;intro K27 k27;refine zAssign ⟨?_⟩;refine k27 _ ?_;refine zk ⟨?_⟩;refine v_ret ?_;refine r23 _ ?_;refine r22 _ ?_;refine r18 _ ?_;refine r17 _ ?_;refine r10 _ ?_;refine r9 _ ?_;refine r5 _ ?_;refine r4 _ ?_;refine r2 _ ?_;refine r0 _ ?_;refine zf ⟨?_⟩
       exact ret_pure rfl (by rw [←hR,hbad];rfl) (.inl rfl)
      ·intro hc3
       have hne:decide (y0=x0)=false:=decide_eq_false (fun e=>hc3 e.symm)
       have hany:=any_step (p:=fun y:ByteArray×List (ByteArray×Int×Int)=>decide (y.1=x0)) hy
       refine v_skip ?_;refine n23 _ ?_;refine n22 _ _ (weak_keep [0,1,6,9,10,11,21,22,23] _) ?_;refine zk ⟨?_⟩;refine v_region ?_;intro K28 k28;refine zq6 ⟨?_⟩;refine k28 _ ?_;refine n18 _ (j+1) ?_ ?_ ?_
       ·refine weak_bothS [0,1,6,9,10,11,21,22,23] [0] ⟨?_⟩
        rfl
       ·exact ⟨hltj,by rw [hany,hJ,hne];rfl⟩
       ·show _ < _;omega
     ·intro hc2
      have hnone:((l.take i).any fun y=>decide (y.1=x0))=false:=by
       have e:(l.take i).take j=l.take i:=List.take_of_length_le (by omega)
       rw [←hJ,e]
      have hgd:ldChk (l.take (i+1)) (l.drop (i+1))=ldChk (l.take i) (l.drop i):=by rw [hst,hok1,hnone];rfl
      refine v_exit ?_;refine e20 _ _ ?_;refine e18 _ _ ?_;refine x17 _ ?_;refine n10 _ ?_;refine n9 _ _ (weak_keep [0,1,9,10,11] _) ?_;refine zk ⟨?_⟩;refine v_region ?_;intro K29 k29;refine zq6 ⟨?_⟩;refine k29 _ ?_;refine n5 _ (i+1) ?_ ?_ ?_
      ·refine weak_bothS [0,1,9,10,11] [] ⟨?_⟩
       rfl
      ·exact ⟨hlt,by rw [hgd,hR]⟩
      ·show _ < _;omega
  ·intro hc0
   refine v_exit ?_;refine e7 _ _ ?_;refine e5 _ _ ?_;refine x4 _ ?_;refine n2 _ _ (weak_keep [0,1] _) ?_;refine zk ⟨?_⟩;refine v_seqR [4] ?_;intro K30 k30;refine zq14 ⟨?_⟩;refine zq28 ⟨?_⟩;refine k30 _ ?_;refine zk ⟨?_⟩;refine v_ret ?_;refine r0 _ ?_;refine zf ⟨?_⟩
   have hend:ldChk [] l=true:=by rw [←hR,List.drop_of_length_le (by omega)];rfl
   exact ret_pure rfl (by rw [hend];rfl) (.inl rfl)
set_option maxHeartbeats 1000000 in
theorem specCount_con (l:List (ByteArray×List (ByteArray×Int×Int))) (hl:l.length≤1048576) (hlz:∀x∈l,x.1.size≤9223372036854775807∧x.2.length≤1048576∧∀t∈x.2,t.1.size≤9223372036854775807) (s:ByteArray) (hss:s.size≤9223372036854775807):Con Tryd.prog 62 [.sl (l.map (fun t:ByteArray×List (ByteArray×Int×Int)=>V.agg [V.str t.1,V.sl (t.2.map (fun t:ByteArray×Int×Int=>V.agg [V.str t.1,V.int .i64 t.2.1,V.int .i64 t.2.2]))])),.str s] [] (.tup [.int .i64 (cntV l s),.bool (cntB l s)]) []:=by
 refine v_con [.tmp 4,.tmp 5] [] Tryd.func62 rfl rfl rfl (by simp [Tryd.ntmps62]) ?_
 intro Q0 n0 r0
 simp only [Tryd.ntmps62,envFrom,Nat.reduceAdd]
 have T:=Tys.mk (And.intro Ty.t3 (And.intro Ty.t4 (And.intro Ty.t9 (And.intro Ty.t63 (And.intro Ty.t65 (And.intro Ty.t66 Ty.t93))))))
 have F:=Fc.mk True.intro
 refine v_seqR [0,1] ?_;intro K1 k1;refine zq1 ⟨?_⟩;refine k1 _ ?_;refine zk ⟨?_⟩;refine v_seq ?_;intro Q2 n2 e2 r2;refine v_seqR [0,1,16] ?_;intro K3 k3;refine zMove ⟨?_⟩;refine zc (eqLoads_con l hl hlz 7) ⟨?_⟩;refine zq18 ⟨?_⟩;refine zgc (eqName_con s hss) ⟨?_⟩;refine zq12 ⟨?_⟩;refine k3 _ ?_;refine zk ⟨?_⟩;refine v_condS _ rfl ?_ ?_
 ·intro hc0
  have hB:(cntB l s)=false:=by
   rw [cntB]
   by_cases q:(l.length:Int)≤7<;>cases h:tnB s<;>cases h2:ldChk [] l<;>simp [q,h,h2] at hc0⊢<;>(try omega)
  have hV:cntV l s=0:=by rw [cntV,hB];rfl
  refine v_seqR [4,5] ?_;intro K5 k5;refine zq1 ⟨?_⟩;refine k5 _ ?_;refine zk ⟨?_⟩;refine v_ret ?_;refine r2 _ ?_;refine r0 _ ?_;refine zf ⟨?_⟩
  exact ret_pure rfl (by rw [hV,hB]) (.inl rfl)
 ·intro hc0
  have hg:((l.length:Int)≤7)∧tnB s=true∧ldChk [] l=true:=by
   by_cases q:(l.length:Int)≤7<;>cases h:tnB s<;>cases h2:ldChk [] l<;>simp [q,h,h2] at hc0⊢<;>(try omega)
  obtain ⟨hl7,hsn,hld⟩:=hg
  have hall:=ldChk_ok hld
  have hB:(cntB l s)=true:=by rw [cntB,hld,hsn,decide_eq_true hl7];rfl
  refine v_skip ?_;refine n2 _ _ (weak_keep [0,1] _) ?_;refine zk ⟨?_⟩;refine v_seqR [0,1,6] ?_;intro K6 k6;refine zAssign ⟨?_⟩;refine k6 _ ?_;refine zk ⟨?_⟩;refine v_seq ?_;intro Q7 n7 e7 r7;refine v_seqR [1,6,17,18,19] ?_;intro K8 k8;refine zq14 ⟨?_⟩;refine k8 _ ?_;refine zk ⟨?_⟩;refine v_block ?_;intro Q9 n9 x9 e9 r9;refine v_loop (fun p=>⟨[(1,.str s),(6,.int .i64 p.2),(17,.sl (l.map (fun t:ByteArray×List (ByteArray×Int×Int)=>V.agg [V.str t.1,V.sl (t.2.map (fun t:ByteArray×Int×Int=>V.agg [V.str t.1,V.int .i64 t.2.1,V.int .i64 t.2.2]))]))),(18,.int .i64 l.length),(19,.int .i64 (Nat.cast p.1))],[],false,31,0⟩) (fun p=>p.1≤l.length∧p.2=cntSum (l.take p.1) s∧0≤p.2∧p.2≤99 * (p.1:Int)) (fun p=>l.length - p.1) ((0,0):Nat×Int) ?_ ?_ ?_
  ·refine weak_bothS [1,6,17,18,19] [] ⟨?_⟩
   rfl
  ·exact ⟨Nat.zero_le _,rfl,by simp⟩
  ·rintro ⟨i,sm⟩ hok10 Q10 n10 e10 r10
   obtain ⟨hi1,hS,hsb⟩:=hok10
   simp only [] at hi1 hS hsb⊢
   refine v_seqR [1,6,17,18,19,20] ?_;intro K11 k11;refine zBinOp ⟨?_⟩;refine k11 _ ?_;refine zk ⟨?_⟩;refine v_seq ?_;intro Q12 n12 e12 r12;refine v_condS _ rfl ?_ ?_
   ·intro hc1
    have hlt:i < l.length:=by omega
    obtain ⟨⟨x0,x1⟩,hx⟩:∃x:ByteArray×List (ByteArray×Int×Int),l[i]? =some x:=⟨l[i]'(by omega),List.getElem?_eq_getElem (by omega)⟩
    have hxz:=hlz _ (List.mem_of_getElem? hx)
    simp only [] at hxz
    have hgd:=hall _ (List.mem_of_getElem? hx)
    have hxk:=(ths_iff x1).1 (by unfold ldOK at hgd;rw [Bool.and_eq_true] at hgd;exact hgd.2)
    have hcb:=cnt_bound (fun t h=>(hxk.ok t h).2.1) s
    have hcs:=cntSum_step (s:=s) hx
    refine v_skip ?_;refine n12 _ _ (weak_keep [1,6,17,18,19] _) ?_;refine zk ⟨?_⟩;refine v_seq ?_;intro Q14 n14 e14 r14;refine v_block ?_;intro Q15 n15 x15 e15 r15;refine v_seqR [1,6,8,17,18,19] ?_;intro K16 k16
    have F:=Fc.mk (fun f=>getD_map (f:=f) hx)
    refine zq23 ⟨?_⟩;refine k16 _ ?_;refine zk ⟨?_⟩;refine v_region ?_;intro K17 k17;refine zMove ⟨?_⟩;refine zq11 ⟨?_⟩;refine zc (eqHas_con x1 s hxz.2.1 hxk.srt) ⟨?_⟩;refine zq25 ⟨?_⟩;refine k17 _ ?_;refine n15 _ ?_;refine n14 _ _ (weak_keep [1,6,17,18,19] _) ?_;refine zk ⟨?_⟩;refine v_region ?_;intro K18 k18;refine zq6 ⟨?_⟩;refine k18 _ ?_;refine n10 _ (i+1,sm+cntOf x1 s) ?_ ?_ ?_
    ·refine weak_bothS [1,6,17,18,19] [] ⟨?_⟩
     rfl
    ·exact ⟨hlt,by show sm+cntOf x1 s=_;rw [hcs,hS],by show 0≤sm+cntOf x1 s∧sm+cntOf x1 s≤99 * ((i+1:Nat):Int);omega⟩
    ·show _ < _;show l.length - (i+1) < l.length - i;omega
   ·intro hc1
    refine v_exit ?_;refine e12 _ _ ?_;refine e10 _ _ ?_;refine x9 _ ?_;refine n7 _ _ (weak_keep [6] _) ?_;refine zk ⟨?_⟩;refine v_seqR [4,5] ?_;intro K19 k19;refine zq41 ⟨?_⟩;refine k19 _ ?_;refine zk ⟨?_⟩;refine v_ret ?_;refine r0 _ ?_;refine zf ⟨?_⟩
    exact ret_pure rfl (by rw [hB,cntV,hB,if_pos rfl,hS,List.take_of_length_le (by omega)]) (.inl rfl)
set_option maxHeartbeats 1000000 in
theorem qThings_con (l:List (ByteArray×Int×Int)) (hl:l.length≤1048576):Con Tryd.prog 141 [.sl (l.map (fun t:ByteArray×Int×Int=>V.agg [V.str t.1,V.int .i64 t.2.1,V.int .i64 t.2.2])),.sl (l.map (fun t:ByteArray×Int×Int=>V.agg [V.str t.1,V.int .i64 t.2.1,V.int .i64 t.2.2]))] [] (.bool true) []:=by
 refine v_con [.tmp 4] [] Tryd.func141 rfl rfl rfl (by simp [Tryd.ntmps141]) ?_
 intro Q0 n0 r0
 simp only [Tryd.ntmps141,envFrom,Nat.reduceAdd]
 have T:=Tys.mk (And.intro Ty.t3 (And.intro Ty.t9 (And.intro Ty.t63 Ty.t93)))
 have F:=Fc.mk True.intro
 refine v_seqR [0,1] ?_;intro K1 k1;refine zAssign ⟨?_⟩;refine k1 _ ?_;refine zk ⟨?_⟩;refine v_seq ?_;intro Q2 n2 e2 r2;refine v_seqR [0,1,10] ?_;intro K3 k3;refine zq5 ⟨?_⟩;refine zq5 ⟨?_⟩;refine zBinOp ⟨?_⟩;refine k3 _ ?_;refine zk ⟨?_⟩;refine v_cond _ rfl ?_ ?_
 ·intro hc0
  exfalso;simp at hc0
 ·intro hc0
  try simp only [zC,reduceCtorEq] at hc0
  refine v_skip ?_;refine n2 _ _ (weak_keep [0,1] _) ?_;refine zk ⟨?_⟩;refine v_seq ?_;intro Q5 n5 e5 r5;refine v_seqR [0,1,12,13] ?_;intro K6 k6;refine zq14 ⟨?_⟩;refine k6 _ ?_;refine zk ⟨?_⟩;refine v_block ?_;intro Q7 n7 x7 e7 r7;refine v_loop (fun i=>⟨[(0,.sl (l.map (fun t:ByteArray×Int×Int=>V.agg [V.str t.1,V.int .i64 t.2.1,V.int .i64 t.2.2]))),(1,.sl (l.map (fun t:ByteArray×Int×Int=>V.agg [V.str t.1,V.int .i64 t.2.1,V.int .i64 t.2.2]))),(12,.int .i64 l.length),(13,.int .i64 (Nat.cast i))],[],false,26,0⟩) (fun i=>i≤l.length) (fun i=>l.length - i) 0 ?_ ?_ ?_
  ·refine weak_of [0,1,12,13] ?_
   simp only [keep_mk,keepE_nil,keepE_cons,look_cons,look_nil,Nat.reduceEqDiff,reduceIte]
   rfl
  ·exact Nat.zero_le _
  ·rintro i hok8 Q8 n8 e8 r8
   have hi1:i≤l.length:=hok8
   refine v_seqR [0,1,12,13,14] ?_;intro K9 k9;refine zBinOp ⟨?_⟩;refine k9 _ ?_;refine zk ⟨?_⟩;refine v_seq ?_;intro Q10 n10 e10 r10;refine v_condS _ rfl ?_ ?_
   ·intro hc1
    have hlt:i < l.length:=by omega
    obtain ⟨⟨x0,x1,x2⟩,hx⟩:∃x:ByteArray×Int×Int,l[i]? =some x:=⟨l[i]'(by omega),List.getElem?_eq_getElem (by omega)⟩
    refine v_skip ?_;refine n10 _ _ (weak_keep [0,1,12,13] _) ?_;refine zk ⟨?_⟩;refine v_seq ?_;intro Q12 n12 e12 r12;refine v_block ?_;intro Q13 n13 x13 e13 r13;refine v_seqR [0,1,5,12,13] ?_;intro K14 k14
    have F:=Fc.mk (fun f=>getD_map (f:=f) hx)
    refine zq19 ⟨?_⟩;refine k14 _ ?_;refine zk ⟨?_⟩;refine v_seq ?_;intro Q15 n15 e15 r15;refine v_draw (by kernel_rfl) ?_;intro K16 q16 k16
    show aAny _ _ _ _ 9 (Array.replicate 9 false) _
    refine zdMove q16 true 0 16 ?_;refine zdMove q16 true 1 17 ?_;refine zdIndexAddr q16 true 2 18 ?_;refine zdLoad q16 true 3 19 ?_;refine zdMove q16 true 4 20 ?_;refine zdMove q16 true 5 21 ?_;refine zdIndexAddr q16 true 6 22 ?_;refine zdLoad q16 true 7 23 ?_;refine zdBinOp q16 true 8 24 ?_;refine aAny_done (by kernel_rfl) ?_;refine k16 _ ?_;refine n15 _ _ (weak_keep [0,1,12,13,24] _) ?_;refine zk ⟨?_⟩;refine v_cond _ rfl ?_ ?_
    ·intro hc2
     exfalso;simp at hc2
    ·intro hc2
     try simp only [zC,reduceCtorEq] at hc2
     refine v_skip ?_;refine n13 _ ?_;refine n12 _ _ (weak_keep [0,1,12,13] _) ?_;refine zk ⟨?_⟩;refine v_region ?_;intro K18 k18;refine zq6 ⟨?_⟩;refine k18 _ ?_;refine n8 _ (i+1) ?_ ?_ ?_
     ·refine weak_bothS [0,1,12,13] [] ⟨?_⟩
      rfl
     ·exact hlt
     ·show _ < _;omega
   ·intro hc1
    refine v_exit ?_;refine e10 _ _ ?_;refine e8 _ _ ?_;refine x7 _ ?_;refine n5 _ _ (weak_keep [] _) ?_;refine zk ⟨?_⟩;refine v_seqR [4] ?_;intro K19 k19;refine zAssign ⟨?_⟩;refine k19 _ ?_;refine zk ⟨?_⟩;refine v_ret ?_;refine r0 _ ?_;refine zf ⟨?_⟩
    exact ret_pure rfl rfl (.inl rfl)
set_option maxHeartbeats 1000000 in
theorem qLoad_con (a:ByteArray) (l:List (ByteArray×Int×Int)) (hl:l.length≤1048576):Con Tryd.prog 66 [.agg [.str a,.sl (l.map (fun t:ByteArray×Int×Int=>V.agg [V.str t.1,V.int .i64 t.2.1,V.int .i64 t.2.2]))],.agg [.str a,.sl (l.map (fun t:ByteArray×Int×Int=>V.agg [V.str t.1,V.int .i64 t.2.1,V.int .i64 t.2.2]))]] [] (.bool true) []:=by
 refine v_con [.tmp 4] [] Tryd.func66 rfl rfl rfl (by simp [Tryd.ntmps66]) ?_
 intro Q0 n0 r0
 simp only [Tryd.ntmps66,envFrom,Nat.reduceAdd]
 have T:=Tys.mk (And.intro Ty.t3 (And.intro Ty.t4 (And.intro Ty.t9 (And.intro Ty.t63 (And.intro Ty.t65 Ty.t93)))))
 have F:=Fc.mk True.intro
 refine v_seqR [2,3] ?_;intro K1 k1;refine zBox ⟨?_⟩;refine zq21 ⟨?_⟩;refine k1 _ ?_;refine zk ⟨?_⟩;refine v_seqR [4] ?_;intro K2 k2;refine zq2 ⟨?_⟩;refine zq49 ⟨?_⟩;refine zMove ⟨?_⟩;refine zq22 ⟨?_⟩;refine zq22 ⟨?_⟩;refine zgc (qThings_con l hl) ⟨?_⟩;refine zPick ⟨?_⟩;refine zAssign ⟨?_⟩;refine k2 _ ?_;refine zk ⟨?_⟩;refine v_ret ?_;refine r0 _ ?_;refine zf ⟨?_⟩
 exact ret_pure rfl (by simp) (.inl rfl)
def sumC (l:List (ByteArray×Int×Int)):Int:=(l.map fun x=>x.2.1).sum
theorem sumC_cons (x:(ByteArray×Int×Int)) (l:List (ByteArray×Int×Int)):sumC (x::l)=x.2.1+sumC l:=by simp [sumC]
theorem sumC_app (l m:List (ByteArray×Int×Int)):sumC (l++m)=sumC l+sumC m:=by simp [sumC,List.sum_append]
def pairM (x y:(ByteArray×Int×Int)):Int:=if x.1=y.1 then (if x.2.1≤y.2.1 then x.2.1 else y.2.1) else 0
def sumP (x:(ByteArray×Int×Int)) (t:List (ByteArray×Int×Int)):Int:=(t.map (pairM x)).sum
theorem sumP_none {x:(ByteArray×Int×Int)}:∀{t:List (ByteArray×Int×Int)},(∀y∈t,x.1≠y.1)→sumP x t=0
  | [],_=>rfl
  | y::t,h=>by
    have ih:=sumP_none (t:=t) fun z hz=>h z (List.mem_cons_of_mem _ hz)
    unfold sumP at ih⊢
    rw [List.map_cons,List.sum_cons,ih,pairM,if_neg (h y (List.mem_cons_self ..))];rfl
theorem srt_ne {l:List (ByteArray×Int×Int)} (hs:SortedT l):l.Pairwise fun x y=>x.1≠y.1:=hs.imp fun {x y} h e=>by rw [e,str_irr] at h;cases h
theorem sumP_cnt {x:(ByteArray×Int×Int)}:∀{t:List (ByteArray×Int×Int)},t.Pairwise (fun x y=>x.1≠y.1)→(∀y∈t,1≤y.2.1)→1≤x.2.1→sumP x t=if x.2.1≤cntOf t x.1 then x.2.1 else cntOf t x.1
  | [],_,_,h1=>by simp [sumP,cntOf];omega
  | y ::t,hp,hb,h1=>by
    rw [List.pairwise_cons] at hp
    have e:sumP x (y::t)=pairM x y+sumP x t:=by simp [sumP]
    rw [e]
    by_cases q:y.1=x.1
    · have hz:sumP x t=0:=sumP_none fun z hz=>by rw [←q];exact hp.1 z hz
      have hc:cntOf (y::t) x.1=y.2.1:=by simp [cntOf,List.find?_cons,q]
      rw [hz,hc,pairM,if_pos q.symm];omega
    · have ih:=sumP_cnt (x:=x) hp.2 (fun z hz=>hb z (List.mem_cons_of_mem _ hz)) h1
      have hc:cntOf (y::t) x.1=cntOf t x.1:=by simp [cntOf,List.find?_cons,q]
      rw [ih,hc,pairM,if_neg (fun e=>q e.symm)];omega
theorem pairM_comm (x y:(ByteArray×Int×Int)):pairM x y=pairM y x:=by
  unfold pairM
  by_cases q:x.1=y.1
  · rw [if_pos q,if_pos q.symm];split<;>split<;>omega
  · rw [if_neg q,if_neg (fun e=>q e.symm)]
theorem sum_add (f g:(ByteArray×Int×Int)→Int):∀l:List (ByteArray×Int×Int),(l.map fun x=>f x+g x).sum=(l.map f).sum+(l.map g).sum
  | []=>rfl
  | x::l=>by simp only [List.map_cons,List.sum_cons,sum_add f g l];omega
theorem sum_zero:∀l:List (ByteArray×Int×Int),(l.map fun _=>(0:Int)).sum=0
  | []=>rfl
  | x::l=>by rw [List.map_cons,List.sum_cons,sum_zero l];rfl
theorem sum_swap (w:List (ByteArray×Int×Int)):∀t:List (ByteArray×Int×Int),(w.map fun x=>sumP x t).sum=(t.map fun y=>sumP y w).sum
  | []=>by
    show (w.map fun x=>(0:Int)).sum=0
    exact sum_zero w
  | y::t=>by
    have e:(fun x=>sumP x (y::t))=fun x=>pairM x y+sumP x t:=by funext x;simp [sumP]
    rw [e,sum_add,sum_swap w t,List.map_cons,List.sum_cons]
    congr 1
    unfold sumP
    congr 1
    apply List.map_congr_left
    intro x _
    exact pairM_comm x y
theorem sum_miss (t:List (ByteArray×Int×Int)):∀w:List (ByteArray×Int×Int),(w.map fun x=>x.2.1).sum - sumC (missL w t)=(w.map fun x=>if x.2.1≤cntOf t x.1 then x.2.1 else cntOf t x.1).sum
  | []=>by simp [missL,sumC]
  | x ::w=>by
    have ih:=sum_miss t w
    have e:missL (x::w) t=missF t x++missL w t:=by simp [missL]
    rw [e,sumC_app,List.map_cons,List.sum_cons,List.map_cons,List.sum_cons]
    have hf:sumC (missF t x)=if 0 < x.2.1 - cntOf t x.1 then x.2.1 - cntOf t x.1 else 0:=by
      unfold missF;split<;>simp [sumC]
    rw [hf]
    split<;>split<;>omega
theorem sum_spare (w:List (ByteArray×Int×Int)):∀t:List (ByteArray×Int×Int),(t.map fun x=>x.2.1).sum - sumC (spareL w t)=(t.map fun x=>if x.2.1≤cntOf w x.1 then x.2.1 else cntOf w x.1).sum
  | []=>by simp [spareL,sumC]
  | x ::t=>by
    have ih:=sum_spare w t
    have e:spareL w (x::t)=spareF w x++spareL w t:=by simp [spareL]
    rw [e,sumC_app,List.map_cons,List.sum_cons,List.map_cons,List.sum_cons]
    have hf:sumC (spareF w x)=if 0 < x.2.1 - cntOf w x.1 then x.2.1 - cntOf w x.1 else 0:=by
      unfold spareF;split<;>simp [sumC]
    rw [hf]
    split<;>split<;>omega
theorem sum_all {w t:List (ByteArray×Int×Int)} (hw:ThOK w) (ht:ThOK t):sumC w - sumC t - sumC (missL w t)+sumC (spareL w t)=0:=by
  have h1:=sum_miss t w
  have h2:=sum_spare w t
  have e1:(w.map fun x=>if x.2.1≤cntOf t x.1 then x.2.1 else cntOf t x.1)=w.map fun x=>sumP x t:=by
    apply List.map_congr_left
    intro x hx
    exact (sumP_cnt (srt_ne ht.srt) (fun y hy=>(ht.ok y hy).2.1.1) (hw.ok x hx).2.1.1).symm
  have e2:(t.map fun x=>if x.2.1≤cntOf w x.1 then x.2.1 else cntOf w x.1)=t.map fun x=>sumP x w:=by
    apply List.map_congr_left
    intro x hx
    exact (sumP_cnt (srt_ne hw.srt) (fun y hy=>(hw.ok y hy).2.1.1) (ht.ok x hx).2.1.1).symm
  rw [e1] at h1
  rw [e2] at h2
  have hs:=sum_swap w t
  unfold sumC at *
  omega
theorem cnt_self {t:List (ByteArray×Int×Int)} (hs:SortedT t) {x:(ByteArray×Int×Int)} (hx:x∈t):cntOf t x.1=x.2.1:=by
  rcases there_cases hs x.1 with ⟨_,_,h3,_⟩ | ⟨y,_,_,h3,h4,h5⟩
  · exact absurd rfl (h3 x hx)
  · have hy:=List.mem_of_getElem? h3
    have:y=x:=by
      by_cases q:y=x
      · exact q
      · exfalso
        obtain ⟨i,hi,ei⟩:=List.mem_iff_getElem.1 hx
        obtain ⟨j,hj,ej⟩:=List.mem_iff_getElem.1 hy
        have hn:=List.pairwise_iff_getElem.1 (srt_ne hs)
        rcases Nat.lt_trichotomy i j with z | z | z
        · have:=hn i j hi hj z;rw [ei,ej] at this;exact this h4.symm
        · subst z;rw [ei] at ej;exact q ej.symm
        · have:=hn j i hj hi z;rw [ei,ej] at this;exact this h4
    rw [h5,this]
theorem miss_self {t:List (ByteArray×Int×Int)} (hs:SortedT t):missL t t=[]:=by
  rw [missL,List.flatMap_eq_nil_iff]
  intro x hx
  rw [missF,cnt_self hs hx,if_neg (by omega)]
theorem sumC_step {l:List (ByteArray×Int×Int)} {i:Nat} {x:(ByteArray×Int×Int)} (h:l[i]? =some x):sumC (l.take (i+1))=sumC (l.take i)+x.2.1:=by
  rw [List.take_add_one,h,Option.toList_some,sumC_app];simp [sumC]
theorem cnt_app (l m:List (ByteArray×Int×Int)) (s:ByteArray) (h:∀x∈l,x.1≠s):cntOf (l++m) s=cntOf m s:=by
  unfold cntOf
  rw [List.find?_append,List.find?_eq_none.2 (fun x hx=>by simpa using h x hx)];rfl
theorem cnt_cons_eq (t:(ByteArray×Int×Int)) (m:List (ByteArray×Int×Int)) (s:ByteArray) (h:t.1=s):cntOf (t::m) s=t.2.1:=by simp [cntOf,List.find?_cons,h]
theorem lb_ne {l:List (ByteArray×Int×Int)} (hs:SortedT l) (s:ByteArray):∀x∈l.take (lbT l s),x.1≠s:=by
  intro x hx e
  obtain ⟨i,hi,ei⟩:=List.mem_iff_getElem.1 hx
  have hi2:i < lbT l s:=by rw [List.length_take] at hi;omega
  have h1:l[i]? =some x:=by rw [←ei,←List.getElem?_eq_getElem hi,List.getElem?_take_of_lt hi2]
  have:=(lb_spec s l hs).1 i x h1 hi2
  rw [e,str_irr] at this;cases this
theorem cnt_take {l:List (ByteArray×Int×Int)} {s:ByteArray} {n:Int} (hs:SortedT l) (hn:n≤cntOf l s) (hp:1≤n):cntOf (takeT l s n) s=cntOf l s - n:=by
  rcases there_cases hs s with ⟨_,_,_,h4⟩ | ⟨y,hth,_,hy,hyn,hc⟩
  · omega
  · have hne:=lb_ne hs s
    unfold takeT
    rw [hy]
    simp only []
    split
    · rw [cnt_app _ _ _ hne,cnt_cons_eq _ _ s (show ((y.1,y.2.1 - n,y.2.2):(ByteArray×Int×Int)).1=s from hyn),hc]
    · rename_i q
      have hd:∀x∈l.take (lbT l s)++l.drop (lbT l s+1),x.1≠s:=by
        intro x hx
        rcases List.mem_append.1 hx with hx | hx
        · exact hne x hx
        · intro e
          obtain ⟨i,hi,ei⟩:=List.mem_iff_getElem.1 hx
          rw [List.getElem_drop] at ei
          have hlt:=(List.getElem?_eq_some_iff.1 hy)
          obtain ⟨hl,hye⟩:=hlt
          have:=List.pairwise_iff_getElem.1 (srt_ne hs) (lbT l s) (lbT l s+1+i) hl (by rw [List.length_drop] at hi;omega) (by omega)
          rw [hye,ei,hyn,e] at this
          exact this rfl
      have h0:cntOf (l.take (lbT l s)++l.drop (lbT l s+1)) s=0:=by
        rw [←List.append_nil (l.take (lbT l s)++l.drop (lbT l s+1)),cnt_app _ _ _ hd];rfl
      rw [h0,hc];omega
theorem cnt_put {l:List (ByteArray×Int×Int)} {s:ByteArray} {n d:Int} (hs:SortedT l):cntOf (putT l s n d) s=cntOf l s+n:=by
  have hne:=lb_ne hs s
  rcases there_cases hs s with ⟨hth,_,_,h4⟩ | ⟨y,hth,_,hy,hyn,hc⟩
  · rw [put_new n d hth,cnt_app _ _ _ hne,cnt_cons_eq _ _ _ rfl,h4];show n=0+n;omega
  · rw [put_old n d hth hy,cnt_app _ _ _ hne,cnt_cons_eq _ _ _ rfl,hc];show n+y.2.1=y.2.1+n;omega
theorem len_take {l:List (ByteArray×Int×Int)} {s:ByteArray} {n:Int} (hs:SortedT l) (hn:n≤cntOf l s) (hp:1≤n):1≤l.length∧(takeT l s n).length=if n < cntOf l s then l.length else l.length - 1:=by
  rcases there_cases hs s with ⟨_,_,_,h4⟩ | ⟨y,hth,_,hy,hyn,hc⟩
  · omega
  · have hk:=(List.getElem?_eq_some_iff.1 hy).1
    refine ⟨by omega,?_⟩
    unfold takeT
    rw [hy]
    simp only []
    by_cases q:n < cntOf l s
    · rw [if_pos q,if_pos (show 0 < y.2.1 - n by omega)]
      simp only [List.length_append,List.length_cons,List.length_take,List.length_drop];omega
    · rw [if_neg q,if_neg (show ¬0 < y.2.1 - n by omega)]
      simp only [List.length_append,List.length_take,List.length_drop];omega
theorem len_put {l:List (ByteArray×Int×Int)} {s:ByteArray} {n d:Int} (h:ThOK l):(putT l s n d).length=if 0 < cntOf l s then l.length else l.length+1:=by
  have hle:=lbT_le l s
  rcases there_cases h.srt s with ⟨hth,_,_,h4⟩ | ⟨y,hth,_,hy,hyn,hc⟩
  · rw [put_new n d hth,if_neg (by omega)]
    simp only [List.length_append,List.length_cons,List.length_take,List.length_drop];omega
  · have hk:=(List.getElem?_eq_some_iff.1 hy).1
    have hyo:=(h.ok _ (List.mem_of_getElem? hy)).2.1
    rw [put_old n d hth hy,if_pos (by omega)]
    simp only [List.length_append,List.length_cons,List.length_take,List.length_drop];omega
theorem back_len {fl tl:List (ByteArray×Int×Int)} {s:ByteArray} {n d d2:Int} (hf:ThOK fl) (ht:ThOK tl) (hF:ThOK (takeT fl s n)) (hT:ThOK (putT tl s n d)) (hn:1≤n) (hc:n≤cntOf fl s) :
    (putT (takeT fl s n) s n d2).length=fl.length∧(takeT (putT tl s n d) s n).length=tl.length:=by
  have hb:=cnt_bound (fun x h=>(ht.ok x h).2.1) s
  have a1:=cnt_take (s:=s) hf.srt hc hn
  obtain ⟨a0,a2⟩:=len_take (s:=s) hf.srt hc hn
  have a3:=len_put (s:=s) (n:=n) (d:=d2) hF
  have b1:=cnt_put (s:=s) (n:=n) (d:=d) ht.srt
  have b2:=len_put (s:=s) (n:=n) (d:=d) ht
  obtain ⟨b0,b3⟩:=len_take (s:=s) hT.srt (n:=n) (by omega) hn
  rw [a1] at a3
  rw [b1] at b3
  constructor
  · rw [a3,a2]
    by_cases q:n < cntOf fl s
    · rw [if_pos (show 0 < cntOf fl s - n by omega),if_pos q]
    · rw [if_neg (show ¬0 < cntOf fl s - n by omega),if_neg q];omega
  · rw [b3,b2]
    by_cases q:0 < cntOf tl s
    · rw [if_pos (show n < cntOf tl s+n by omega),if_pos q]
    · rw [if_neg (show ¬n < cntOf tl s+n by omega),if_neg q];omega
theorem ld_two {fa ta:ByteArray} {fl tl:List (ByteArray×Int×Int)} (h1:nameB fa=true) (h2:nameB ta=true) (h3:thsB fl=true) (h4:thsB tl=true) (h5:fa≠ta):ldChk [] [(fa,fl),(ta,tl)]=true:=by
  simp [ldChk,ldOK,h1,h2,h3,h4,h5]
theorem mv_parts {fa ta s:ByteArray} {fl tl:List (ByteArray×Int×Int)} {n:Int} (h:mvAll fa fl ta tl s n=true):(nameB fa=true∧nameB ta=true)∧tnB s=true∧(1≤n∧n≤99)∧fa≠ta∧ThOK fl∧ThOK tl∧n≤cntOf fl s∧ThOK (takeT fl s n)∧ThOK (putT tl s n (dayOf fl s)):=by
  have h0:=h
  rw [mvAll,Bool.and_eq_true] at h0
  obtain ⟨g1,g2,g3,g4,g5,g6⟩:=mvG_facts h0.1
  have hne:fa≠ta:=by
    have:=h0.1
    simp only [mvG,Bool.and_eq_true,Bool.not_eq_true',decide_eq_false_iff_not] at this
    exact this.2
  have hm:=h0.2
  rw [mvB,Bool.and_eq_true,decide_eq_true_eq] at hm
  have hf:=(ths_iff _).1 g2
  refine ⟨⟨g1,g3⟩,g5,g6,hne,hf,(ths_iff _).1 g4,hm.1,?_,(ths_iff _).1 hm.2⟩
  rcases there_cases hf.srt s with ⟨_,_,_,h4⟩ | ⟨y,hth,_,hy,hyn,hc⟩
  · omega
  · exact take_ok hf g6.1 hy
theorem mv_count {fa ta s:ByteArray} {fl tl:List (ByteArray×Int×Int)} {n:Int} (h:mvAll fa fl ta tl s n=true):cntB [(fa,fl),(ta,tl)] s=true∧cntB [(fa,takeT fl s n),(ta,putT tl s n (dayOf fl s))] s=true∧cntV [(fa,takeT fl s n),(ta,putT tl s n (dayOf fl s))] s=cntV [(fa,fl),(ta,tl)] s:=by
  obtain ⟨⟨a1,a2⟩,a3,⟨a4,a5⟩,a6,hf,ht,hc,hF,hT⟩:=mv_parts h
  have c1:cntB [(fa,fl),(ta,tl)] s=true:=by rw [cntB,ld_two a1 a2 ((ths_iff _).2 hf) ((ths_iff _).2 ht) a6,a3];rfl
  have c2:cntB [(fa,takeT fl s n),(ta,putT tl s n (dayOf fl s))] s=true:=by rw [cntB,ld_two a1 a2 ((ths_iff _).2 hF) ((ths_iff _).2 hT) a6,a3];rfl
  refine ⟨c1,c2,?_⟩
  rw [cntV,cntV,c1,c2,if_pos rfl,if_pos rfl]
  simp only [cntSum]
  rw [cnt_take hf.srt hc a4,cnt_put ht.srt];omega
theorem mv_back {fa ta s:ByteArray} {fl tl:List (ByteArray×Int×Int)} {n d2:Int} (h:mvAll fa fl ta tl s n=true):(putT (takeT fl s n) s n d2).length=fl.length∧(takeT (putT tl s n (dayOf fl s)) s n).length=tl.length:=by
  obtain ⟨_,_,⟨a4,_⟩,_,hf,ht,hc,hF,hT⟩:=mv_parts h
  exact back_len hf ht hF hT a4 hc
theorem miss_cnt {w t:List (ByteArray×Int×Int)} (hw:ThOK w) (ht:ThOK t):∀x∈missL w t,1≤x.2.1∧x.2.1≤99:=by
  intro x hx
  obtain ⟨y,hy,hm⟩:=List.mem_flatMap.1 hx
  have hyo:=(hw.ok y hy).2.1
  have hb:=cnt_bound (fun z h=>(ht.ok z h).2.1) y.1
  unfold missF at hm
  split at hm
  · rw [List.mem_singleton] at hm
    subst hm
    show 1≤y.2.1 - cntOf t y.1∧y.2.1 - cntOf t y.1≤99
    omega
  · cases hm
theorem spare_cnt {w t:List (ByteArray×Int×Int)} (hw:ThOK w) (ht:ThOK t):∀x∈spareL w t,1≤x.2.1∧x.2.1≤99:=by
  intro x hx
  obtain ⟨y,hy,hm⟩:=List.mem_flatMap.1 hx
  have hyo:=(ht.ok y hy).2.1
  have hb:=cnt_bound (fun z h=>(hw.ok z h).2.1) y.1
  unfold spareF at hm
  split at hm
  · rw [List.mem_singleton] at hm
    subst hm
    show 1≤y.2.1 - cntOf w y.1∧y.2.1 - cntOf w y.1≤99
    omega
  · cases hm
theorem orN_len {α:Type} {b:Bool} {l:List α} {k:Nat} (h:l.length≤k):(orN b l).length≤k:=by
  cases b
  · exact Nat.zero_le _
  · exact h
def fillT (s:ByteArray):Int→List (ByteArray×Int×Int)→List (ByteArray×List (ByteArray×Int×Int))→Option (List (ByteArray×List (ByteArray×Int×Int))×List (ByteArray×Int×Int)×Int)
  | left,xl,[]=>some ([],xl,left)
  | left,xl,y::r=>
    if minI left (cntOf y.2 s)=0 then (fillT s left xl r).map fun q=>(y::q.1,q.2)
    else if mvB y.2 xl s (minI left (cntOf y.2 s))=true then
      (fillT s (left - minI left (cntOf y.2 s)) (putT xl s (minI left (cntOf y.2 s)) (dayOf y.2 s)) r).map fun q=>((y.1,takeT y.2 s (minI left (cntOf y.2 s)))::q.1,q.2)
    else none
def fillA:List (ByteArray×Int×Int)→List (ByteArray×Int×Int)→List (ByteArray×List (ByteArray×Int×Int))→Option (List (ByteArray×Int×Int)×List (ByteArray×List (ByteArray×Int×Int)))
  | [],xl,rest=>some (xl,rest)
  | t::ts,xl,rest=>match fillT t.1 t.2.1 xl rest with
    | some q=>if 0 < q.2.2 then none else fillA ts q.2.1 q.1
    | none=>none
def fillJ (s:ByteArray) (left:Int) (xl:List (ByteArray×Int×Int)) (cur:List (ByteArray×List (ByteArray×Int×Int))) (j:Nat):Option (List (ByteArray×List (ByteArray×Int×Int))×List (ByteArray×Int×Int)×Int):=(fillT s left xl (cur.drop j)).map fun q=>(cur.take j++q.1,q.2)
theorem fillJ_zero (s:ByteArray) (left:Int) (xl:List (ByteArray×Int×Int)) (cur:List (ByteArray×List (ByteArray×Int×Int))):fillJ s left xl cur 0=fillT s left xl cur:=by
  unfold fillJ;simp
theorem fillJ_end {s:ByteArray} {left:Int} {xl:List (ByteArray×Int×Int)} {cur:List (ByteArray×List (ByteArray×Int×Int))} {j:Nat} (h:cur.length≤j):fillJ s left xl cur j=some (cur,xl,left):=by
  unfold fillJ;rw [List.drop_of_length_le h,List.take_of_length_le h];simp [fillT]
theorem fillJ_skip {s:ByteArray} {left:Int} {xl:List (ByteArray×Int×Int)} {cur:List (ByteArray×List (ByteArray×Int×Int))} {j:Nat} {y:(ByteArray×List (ByteArray×Int×Int))} (h:cur[j]? =some y) (h0:minI left (cntOf y.2 s)=0):fillJ s left xl cur j=fillJ s left xl cur (j+1):=by
  unfold fillJ
  rw [getElem_drop_cons h,fillT,if_pos h0,List.take_add_one,h,Option.map_map]
  congr 1
  funext q
  simp
theorem fillJ_fail {s:ByteArray} {left:Int} {xl:List (ByteArray×Int×Int)} {cur:List (ByteArray×List (ByteArray×Int×Int))} {j:Nat} {y:(ByteArray×List (ByteArray×Int×Int))} (h:cur[j]? =some y) (h0:minI left (cntOf y.2 s)≠0) (hm:mvB y.2 xl s (minI left (cntOf y.2 s))=false):fillJ s left xl cur j=none:=by
  unfold fillJ
  rw [getElem_drop_cons h,fillT,if_neg h0,hm];rfl
theorem fillJ_move {s:ByteArray} {left:Int} {xl:List (ByteArray×Int×Int)} {cur:List (ByteArray×List (ByteArray×Int×Int))} {j:Nat} {y:(ByteArray×List (ByteArray×Int×Int))} (h:cur[j]? =some y) (h0:minI left (cntOf y.2 s)≠0) (hm:mvB y.2 xl s (minI left (cntOf y.2 s))=true) :
    fillJ s left xl cur j=fillJ s (left - minI left (cntOf y.2 s)) (putT xl s (minI left (cntOf y.2 s)) (dayOf y.2 s)) (cur.set j (y.1,takeT y.2 s (minI left (cntOf y.2 s)))) (j+1):=by
  have hl:=(List.getElem?_eq_some_iff.1 h).1
  unfold fillJ
  rw [getElem_drop_cons h,fillT,if_neg h0,if_pos hm,List.drop_set,if_pos (by omega),List.take_add_one,List.getElem?_set_self hl,List.take_set,List.set_eq_of_length_le (by rw [List.length_take];omega),Option.map_map]
  congr 1
  funext q
  simp
theorem fillA_step {ms:List (ByteArray×Int×Int)} {i:Nat} {t:(ByteArray×Int×Int)} {xl:List (ByteArray×Int×Int)} {rest:List (ByteArray×List (ByteArray×Int×Int))} (h:ms[i]? =some t):fillA (ms.drop i) xl rest=match fillT t.1 t.2.1 xl rest with
    | some q=>if 0 < q.2.2 then none else fillA (ms.drop (i+1)) q.2.1 q.1
    | none=>none:=by
  rw [getElem_drop_cons h,fillA]
structure FillOK (xl:List (ByteArray×Int×Int)) (rest:List (ByteArray×List (ByteArray×Int×Int))):Prop where
  x:ThOK xl
  ok:∀y∈rest,nameB y.1=true∧ThOK y.2
def namesL (rest:List (ByteArray×List (ByteArray×Int×Int))):List ByteArray:=rest.map fun y=>y.1
theorem min_pos {left:Int} {l:List (ByteArray×Int×Int)} {s:ByteArray} (hl:0≤left) (h:∀x∈l,1≤x.2.1∧x.2.1≤99) (h0:minI left (cntOf l s)≠0):(1≤minI left (cntOf l s)∧minI left (cntOf l s)≤99)∧minI left (cntOf l s)≤left∧minI left (cntOf l s)≤cntOf l s:=by
  have:=cnt_bound h s
  unfold minI at *
  split at h0<;>split<;>omega
theorem mv_ok {fl tl:List (ByteArray×Int×Int)} {s:ByteArray} {n:Int} (hf:ThOK fl) (hn:1≤n) (h:mvB fl tl s n=true):ThOK (takeT fl s n)∧ThOK (putT tl s n (dayOf fl s))∧n≤cntOf fl s:=by
  rw [mvB,Bool.and_eq_true,decide_eq_true_eq] at h
  refine ⟨?_,(ths_iff _).1 h.2,h.1⟩
  rcases there_cases hf.srt s with ⟨_,_,_,h4⟩ | ⟨y,hth,_,hy,hyn,hc⟩
  · omega
  · exact take_ok hf hn hy
theorem fill_ok_set {xl:List (ByteArray×Int×Int)} {cur:List (ByteArray×List (ByteArray×Int×Int))} {j:Nat} {y:(ByteArray×List (ByteArray×Int×Int))} {s:ByteArray} {n:Int} (h:FillOK xl cur) (hy:cur[j]? =some y) (hn:1≤n) (hm:mvB y.2 xl s n=true):FillOK (putT xl s n (dayOf y.2 s)) (cur.set j (y.1,takeT y.2 s n)):=by
  have hyo:=h.ok y (List.mem_of_getElem? hy)
  obtain ⟨a,b,_⟩:=mv_ok hyo.2 hn hm
  refine ⟨b,fun z hz=> ?_⟩
  rcases List.mem_or_eq_of_mem_set hz with q | q
  · exact h.ok z q
  · subst q;exact ⟨hyo.1,a⟩
theorem names_set {cur:List (ByteArray×List (ByteArray×Int×Int))} {j:Nat} {y:(ByteArray×List (ByteArray×Int×Int))} {l:List (ByteArray×Int×Int)} (hy:cur[j]? =some y):namesL (cur.set j (y.1,l))=namesL cur:=by
  unfold namesL
  rw [List.map_set]
  apply List.ext_getElem?
  intro k
  rw [List.getElem?_set]
  split
  · rename_i e
    subst e
    have hl:=(List.getElem?_eq_some_iff.1 hy).1
    rw [if_pos (by rw [List.length_map];exact hl),List.getElem?_map,hy];rfl
  · rfl
theorem len_names {a b:List (ByteArray×List (ByteArray×Int×Int))} (h:namesL a=namesL b):a.length=b.length:=by
  have:=congrArg List.length h
  simpa [namesL] using this
def totC (xl:List (ByteArray×Int×Int)) (rest:List (ByteArray×List (ByteArray×Int×Int))) (nm:ByteArray):Int:=cntOf xl nm+cntSum rest nm
theorem cnt_mid {A B:List (ByteArray×Int×Int)} {y:(ByteArray×Int×Int)} {nm:ByteArray} (h:y.1≠nm):cntOf (A++y::B) nm=cntOf (A++B) nm:=by
  unfold cntOf
  rw [List.find?_append,List.find?_append]
  cases hA:A.find? (fun t=>decide (t.1=nm)) with
  | some z=>rfl
  | none=>simp [List.find?_cons,h]
theorem split_at {l:List (ByteArray×Int×Int)} {k:Nat} {y:(ByteArray×Int×Int)} (h:l[k]? =some y):l=l.take k++y::l.drop (k+1):=by
  have:=List.take_append_drop k l
  rw [getElem_drop_cons h] at this
  exact this.symm
theorem cnt_take_ne {l:List (ByteArray×Int×Int)} {s nm:ByteArray} {n:Int} (hs:SortedT l) (hn:n≤cntOf l s) (hp:1≤n) (h:nm≠s):cntOf (takeT l s n) nm=cntOf l nm:=by
  rcases there_cases hs s with ⟨_,_,_,h4⟩ | ⟨y,hth,_,hy,hyn,hc⟩
  · omega
  · have e:=split_at hy
    unfold takeT
    rw [hy]
    simp only []
    have h1:y.1≠nm:=fun q=>h (by rw [←q,hyn])
    conv=>rhs;rw [e]
    rw [cnt_mid h1]
    split
    · exact cnt_mid h1
    · rfl
theorem cnt_put_ne {l:List (ByteArray×Int×Int)} {s nm:ByteArray} {n d:Int} (hs:SortedT l) (h:nm≠s):cntOf (putT l s n d) nm=cntOf l nm:=by
  rcases there_cases hs s with ⟨hth,_,_,h4⟩ | ⟨y,hth,_,hy,hyn,hc⟩
  · rw [put_new n d hth,cnt_mid (show ((s,n,d):(ByteArray×Int×Int)).1≠nm from fun q=>h q.symm),List.take_append_drop]
  · have e:=split_at hy
    rw [put_old n d hth hy,cnt_mid (show ((s,n+y.2.1,minI d y.2.2):(ByteArray×Int×Int)).1≠nm from fun q=>h q.symm)]
    conv=>rhs;rw [e]
    rw [cnt_mid (show y.1≠nm from fun q=>h (by rw [←q,hyn]))]
theorem cntSum_cons (y:(ByteArray×List (ByteArray×Int×Int))) (r:List (ByteArray×List (ByteArray×Int×Int))) (nm:ByteArray):cntSum (y::r) nm=cntOf y.2 nm+cntSum r nm:=rfl
theorem fillT_facts (s:ByteArray):∀(rest:List (ByteArray×List (ByteArray×Int×Int))) (left:Int) (xl:List (ByteArray×Int×Int)) (q:List (ByteArray×List (ByteArray×Int×Int))×List (ByteArray×Int×Int)×Int),ThOK xl→(∀y∈rest,nameB y.1=true∧ThOK y.2)→0≤left→fillT s left xl rest=some q→
    FillOK q.2.1 q.1∧namesL q.1=namesL rest∧(∀nm,totC q.2.1 q.1 nm=totC xl rest nm)∧(∀nm,nm≠s→cntOf q.2.1 nm=cntOf xl nm)∧cntOf q.2.1 s=cntOf xl s+(left - q.2.2)∧0≤q.2.2∧q.2.2≤left
  | [],left,xl,q,hx,hr,hl,h=>by
    simp only [fillT,Option.some.injEq] at h
    subst h
    exact ⟨⟨hx,by simp⟩,rfl,fun _=>rfl,fun _ _=>rfl,by show cntOf xl s=cntOf xl s+(left - left);omega,hl,Int.le_refl _⟩
  | y ::r,left,xl,q,hx,hr,hl,h=>by
    have hy:=hr y (List.mem_cons_self ..)
    have hr':∀z∈r,nameB z.1=true∧ThOK z.2:=fun z hz=>hr z (List.mem_cons_of_mem _ hz)
    rw [fillT] at h
    split at h
    · obtain ⟨q',e,rfl⟩:=Option.map_eq_some_iff.1 h
      obtain ⟨a,b,c,d,f,g1,g2⟩:=fillT_facts s r left xl q' hx hr' hl e
      refine ⟨⟨a.x,fun z hz=> ?_⟩,by simp only [namesL,List.map_cons] at b⊢;rw [b],fun nm=> ?_,d,f,g1,g2⟩
      · rcases List.mem_cons.1 hz with rfl | hz
        · exact hy
        · exact a.ok z hz
      · have:=c nm
        simp only [totC,cntSum_cons] at this⊢;omega
    · rename_i h0
      split at h
      · rename_i hm
        obtain ⟨q',e,rfl⟩:=Option.map_eq_some_iff.1 h
        obtain ⟨hn,hnl,hnc⟩:=min_pos hl (fun x h=>(hy.2.ok x h).2.1) h0
        obtain ⟨k1,k2,k3⟩:=mv_ok hy.2 hn.1 hm
        obtain ⟨a,b,c,d,f,g1,g2⟩:=fillT_facts s r _ _ q' k2 hr' (by omega) e
        have p1:=cnt_put (s:=s) (n:=minI left (cntOf y.2 s)) (d:=dayOf y.2 s) hx.srt
        have p2:=cnt_take (s:=s) hy.2.srt hnc hn.1
        refine ⟨⟨a.x,fun z hz=> ?_⟩,by simp only [namesL,List.map_cons] at b⊢;rw [b],fun nm=> ?_,fun nm hnm=> ?_,?_,g1,by show q'.2.2≤left;omega⟩
        · rcases List.mem_cons.1 hz with rfl | hz
          · exact ⟨hy.1,k1⟩
          · exact a.ok z hz
        · have h1:=c nm
          simp only [totC,cntSum_cons] at h1⊢
          by_cases e2:nm=s
          · subst e2;rw [p1] at h1;rw [p2];omega
          · rw [cnt_put_ne hx.srt e2] at h1;rw [cnt_take_ne hy.2.srt hnc hn.1 e2];omega
        · rw [d nm hnm,cnt_put_ne hx.srt hnm]
        · rw [f,p1];show _=cntOf xl s+(left - q'.2.2);omega
      · cases h
theorem fillA_facts:∀(ms:List (ByteArray×Int×Int)) (xl:List (ByteArray×Int×Int)) (rest:List (ByteArray×List (ByteArray×Int×Int))) (q:List (ByteArray×Int×Int)×List (ByteArray×List (ByteArray×Int×Int))),ms.Pairwise (fun x y=>x.1≠y.1)→(∀t∈ms,0≤t.2.1)→FillOK xl rest→fillA ms xl rest=some q→
    FillOK q.1 q.2∧namesL q.2=namesL rest∧(∀nm,totC q.1 q.2 nm=totC xl rest nm)∧(∀nm,(∀t∈ms,t.1≠nm)→cntOf q.1 nm=cntOf xl nm)∧∀t∈ms,cntOf q.1 t.1=cntOf xl t.1+t.2.1
  | [],xl,rest,q,_,_,hf,h=>by
    simp only [fillA,Option.some.injEq] at h
    subst h
    exact ⟨hf,rfl,fun _=>rfl,fun _ _=>rfl,by simp⟩
  | t ::ts,xl,rest,q,hp,h0,hf,h=>by
    rw [fillA] at h
    rw [List.pairwise_cons] at hp
    have ht0:=h0 t (List.mem_cons_self ..)
    cases e:fillT t.1 t.2.1 xl rest with
    | none=>rw [e] at h;cases h
    | some p=>
      rw [e] at h
      simp only at h
      split at h
      · cases h
      · rename_i hle
        obtain ⟨a,b,c,d,f,g1,g2⟩:=fillT_facts t.1 rest _ xl p hf.x hf.ok ht0 e
        obtain ⟨a2,b2,c2,d2,f2⟩:=fillA_facts ts p.2.1 p.1 q hp.2 (fun u hu=>h0 u (List.mem_cons_of_mem _ hu)) a h
        refine ⟨a2,b2.trans b,fun nm=>(c2 nm).trans (c nm),fun nm hnm=> ?_,fun u hu=> ?_⟩
        · rw [d2 nm fun u hu=>hnm u (List.mem_cons_of_mem _ hu),d nm fun e2=>hnm t (List.mem_cons_self ..) e2.symm]
        · rcases List.mem_cons.1 hu with rfl | hu
          · rw [d2 _ fun v hv e2=>hp.1 v hv e2.symm,f];omega
          · rw [f2 u hu,d _ fun e2=>hp.1 u hu e2.symm]
theorem miss_names {w xl:List (ByteArray×Int×Int)} {t:(ByteArray×Int×Int)} (h:t∈missL w xl):∃x∈w,x.1=t.1∧0 < x.2.1 - cntOf xl x.1∧t.2.1=x.2.1 - cntOf xl x.1:=by
  obtain ⟨x,hx,hm⟩:=List.mem_flatMap.1 h
  unfold missF at hm
  split at hm
  · rw [List.mem_singleton] at hm;subst hm;exact ⟨x,hx,rfl,by assumption,rfl⟩
  · cases hm
theorem miss_pair {xl:List (ByteArray×Int×Int)}:∀{w:List (ByteArray×Int×Int)},w.Pairwise (fun x y=>x.1≠y.1)→(missL w xl).Pairwise (fun x y=>x.1≠y.1)
  | [],_=>.nil
  | x ::w,h=>by
    rw [List.pairwise_cons] at h
    have e:missL (x::w) xl=missF xl x++missL w xl:=by simp [missL]
    rw [e,List.pairwise_append]
    refine ⟨by unfold missF;split<;>simp,miss_pair h.2,fun a ha b hb q=> ?_⟩
    obtain ⟨z,hz,hz1,_⟩:=miss_names hb
    have ha1:a.1=x.1:=by
      unfold missF at ha
      split at ha
      · rw [List.mem_singleton] at ha;rw [ha]
      · cases ha
    exact h.1 z hz (by rw [←ha1,q,hz1])
theorem fill_none {w xl:List (ByteArray×Int×Int)} {rest:List (ByteArray×List (ByteArray×Int×Int))} {q:List (ByteArray×Int×Int)×List (ByteArray×List (ByteArray×Int×Int))} (hw:ThOK w) (hf:FillOK xl rest) (h:fillA (missL w xl) xl rest=some q):missL w q.1=[]:=by
  have hp:=miss_pair (xl:=xl) (srt_ne hw.srt)
  obtain ⟨a,b,c,d,f⟩:=fillA_facts _ xl rest q hp (fun t ht=>by obtain ⟨x,_,_,h1,h2⟩:=miss_names ht;omega) hf h
  rw [missL,List.flatMap_eq_nil_iff]
  intro x hx
  rw [missF,if_neg]
  by_cases h0:0 < x.2.1 - cntOf xl x.1
  · have hm:(x.1,x.2.1 - cntOf xl x.1,(0:Int))∈missL w xl:=List.mem_flatMap.2 ⟨x,hx,by rw [missF,if_pos h0];simp⟩
    have:=f _ hm
    simp only at this
    omega
  · rw [d x.1 fun t ht e=>by
      obtain ⟨z,hz,hz1,hz2,_⟩:=miss_names ht
      have:z=x:=by
        by_cases q:z=x
        · exact q
        · exfalso
          obtain ⟨i,hi,ei⟩:=List.mem_iff_getElem.1 hz
          obtain ⟨j,hj,ej⟩:=List.mem_iff_getElem.1 hx
          have hn:=List.pairwise_iff_getElem.1 (srt_ne hw.srt)
          rcases Nat.lt_trichotomy i j with z2 | z2 | z2
          · have:=hn i j hi hj z2;rw [ei,ej] at this;exact this (hz1.trans e)
          · subst z2;rw [ei] at ej;exact q ej
          · have:=hn j i hj hi z2;rw [ei,ej] at this;exact this (hz1.trans e).symm
      subst this
      omega]
    exact h0
theorem ldChk_iff:∀(l pre:List (ByteArray×List (ByteArray×Int×Int))),ldChk pre l=true↔(∀x∈l,ldOK x=true)∧(namesL l).Nodup∧∀x∈l,∀y∈pre,y.1≠x.1
  | [],pre=>by simp [ldChk,namesL]
  | x ::l,pre=>by
    rw [ldChk,Bool.and_eq_true,Bool.and_eq_true,ldChk_iff l (pre++[x]),Bool.not_eq_true',List.any_eq_false]
    simp only [namesL,List.map_cons,List.nodup_cons,List.mem_cons,List.mem_append,List.not_mem_nil,or_false,List.mem_map,not_exists,not_and,decide_eq_true_eq]
    constructor
    · rintro ⟨⟨h1,h2⟩,h3,h4,h5⟩
      refine ⟨fun z hz=> ?_,⟨fun z hz e=>h5 z hz x (.inr rfl) e.symm,h4⟩,fun z hz y hy=> ?_⟩
      · rcases hz with rfl | hz
        · exact h1
        · exact h3 z hz
      · rcases hz with rfl | hz
        · exact h2 y hy
        · exact h5 z hz y (.inl hy)
    · rintro ⟨h1,⟨h2,h3⟩,h4⟩
      exact ⟨⟨h1 x (.inl rfl),fun y hy=>h4 x (.inl rfl) y hy⟩,fun z hz=>h1 z (.inr hz),h3,fun z hz y hy=>by
        rcases hy with hy | rfl
        · exact h4 z (.inr hz) y hy
        · exact fun e=>h2 z hz e.symm⟩
theorem ldChk_step1 {z:(ByteArray×List (ByteArray×Int×Int))} {l:List (ByteArray×List (ByteArray×Int×Int))} {i:Nat} {x0:ByteArray} {x1:List (ByteArray×Int×Int)} (h:l[i]? =some (x0,x1)):ldChk (z::l.take i) (l.drop i)=((ldOK (x0,x1) && !((z::l.take i).any fun y=>decide (y.1=x0))) && ldChk (z::l.take (i+1)) (l.drop (i+1))):=by
  rw [getElem_drop_cons h,ldChk,List.take_add_one,h];rfl
def fillG (xa:ByteArray) (xl w:List (ByteArray×Int×Int)) (rest:List (ByteArray×List (ByteArray×Int×Int))):Bool:=(nameB xa && thsB xl) && thsB w && (ldChk [(xa,xl)] rest && decide ((rest.length:Int)≤6))
def fillB (xa:ByteArray) (xl w:List (ByteArray×Int×Int)) (rest:List (ByteArray×List (ByteArray×Int×Int))):Bool:=fillG xa xl w rest && (fillA (missL w xl) xl rest).isSome
def fillX (xl w:List (ByteArray×Int×Int)) (rest:List (ByteArray×List (ByteArray×Int×Int))):List (ByteArray×Int×Int):=match fillA (missL w xl) xl rest with | some q=>q.1 | none=>[]
def fillR (xl w:List (ByteArray×Int×Int)) (rest:List (ByteArray×List (ByteArray×Int×Int))):List (ByteArray×List (ByteArray×Int×Int)):=match fillA (missL w xl) xl rest with | some q=>q.2 | none=>[]
theorem ldChk_one (xa:ByteArray) (xl:List (ByteArray×Int×Int)) (rest:List (ByteArray×List (ByteArray×Int×Int))):ldChk [] ((xa,xl)::rest)=((nameB xa && thsB xl) && ldChk [(xa,xl)] rest):=by
  rw [ldChk];simp [ldOK]
structure FillG (xa:ByteArray) (xl w:List (ByteArray×Int×Int)) (rest:List (ByteArray×List (ByteArray×Int×Int))):Prop where
  nm:nameB xa=true
  w:ThOK w
  ok:FillOK xl rest
  six:rest.length≤6
  ld:ldChk [] ((xa,xl)::rest)=true
theorem fillG_facts {xa:ByteArray} {xl w:List (ByteArray×Int×Int)} {rest:List (ByteArray×List (ByteArray×Int×Int))} (h:fillG xa xl w rest=true):FillG xa xl w rest:=by
  simp only [fillG,Bool.and_eq_true,decide_eq_true_eq] at h
  obtain ⟨⟨⟨h1,h2⟩,h3⟩,h4,h5⟩:=h
  refine ⟨h1,(ths_iff _).1 h3,⟨(ths_iff _).1 h2,fun y hy=> ?_⟩,by omega,by rw [ldChk_one,h1,h2,h4];rfl⟩
  have:=((ldChk_iff _ _).1 h4).1 y hy
  rw [ldOK,Bool.and_eq_true] at this
  exact ⟨this.1,(ths_iff _).1 this.2⟩
theorem fill_law {xa:ByteArray} {xl w:List (ByteArray×Int×Int)} {rest:List (ByteArray×List (ByteArray×Int×Int))} (h:fillB xa xl w rest=true) :
    FillOK (fillX xl w rest) (fillR xl w rest)∧(fillR xl w rest).length=rest.length∧missL w (fillX xl w rest)=[]∧ldChk [] ((xa,fillX xl w rest)::fillR xl w rest)=true∧
      ∀nm,cntSum ((xa,fillX xl w rest)::fillR xl w rest) nm=cntSum ((xa,xl)::rest) nm:=by
  rw [fillB,Bool.and_eq_true] at h
  have g:=fillG_facts h.1
  obtain ⟨q,e⟩:=Option.isSome_iff_exists.1 h.2
  have hX:fillX xl w rest=q.1:=by rw [fillX,e]
  have hR:fillR xl w rest=q.2:=by rw [fillR,e]
  have hp:=miss_pair (xl:=xl) (srt_ne g.w.srt)
  obtain ⟨a,b,c,d,f⟩:=fillA_facts _ xl rest q hp (fun t ht=>by obtain ⟨x,_,_,h1,h2⟩:=miss_names ht;omega) g.ok e
  rw [hX,hR]
  refine ⟨a,len_names b,fill_none g.w g.ok e,?_,fun nm=>c nm⟩
  have hl:=(ldChk_iff _ _).1 g.ld
  refine (ldChk_iff _ _).2 ⟨fun z hz=> ?_,?_,by simp⟩
  · rcases List.mem_cons.1 hz with rfl | hz
    · rw [ldOK,g.nm,(ths_iff _).2 a.x];rfl
    · obtain ⟨h1,h2⟩:=a.ok z hz
      rw [ldOK,h1,(ths_iff _).2 h2];rfl
  · have e2:namesL ((xa,q.1)::q.2)=namesL ((xa,xl)::rest):=by simp only [namesL,List.map_cons] at b⊢;rw [b]
    rw [e2];exact hl.2.1
theorem guard3 (w:List (ByteArray×Int×Int)) (rest:List (ByteArray×List (ByteArray×Int×Int))):thsB w=false∨(thsB w=true∧decide ((6:Int) < (rest.length:Int))=true)∨(thsB w=true∧decide ((6:Int) < (rest.length:Int))=false):=by
  cases h:thsB w
  · exact .inl rfl
  · right
    by_cases q:(6:Int) < (rest.length:Int)
    · exact .inl ⟨rfl,decide_eq_true q⟩
    · exact .inr ⟨rfl,decide_eq_false q⟩
end Go.Proofs.YtbameklegpgkfaaDoor
