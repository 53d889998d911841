/- What functions compute. No condition. -/
import Derived.Test.YtaefoaghpehbpaaGreatUz
import Derived.Test.YtaefoaghpehbpaaGreatUty
import Derived.Test.YtaefoaghpehbpaaGreatUmG
import Derived.Test.YtaefoaghpehbpaaGreatX3
import Derived.Test.YtaefoaghpehbpaaGreatX12
import Derived.Test.YtaefoaghpehbpaaGreatX11
import Derived.Test.YtaefoaghpehbpaaGreatX4
import Derived.Test.YtaefoaghpehbpaaGreatX8
import Derived.Test.YtaefoaghpehbpaaGreatX6
import Derived.Test.YtaefoaghpehbpaaGreatX5
set_option linter.unusedSimpArgs false
set_option linter.unusedVariables false
set_option linter.defProp false
namespace Go.Proofs.YtaefoaghpehbpaaGreat
open Go Go.Vm
set_option maxHeartbeats 1000000 in
theorem indexFuncWant_con (l:List (Int×List Int)) (g:Nat) (caps:List V) (p:(Int×List Int)→Bool) (hl:l.length≤1048576) (hc:Caps caps) (hg:∀x0 x1,(x0,x1)∈l→Con Tryz.prog g (V.agg [V.int .i64 x0,V.sl (x1.map (V.int .i64))]::caps) [] (.bool (p (x0,x1))) []):Con Tryz.prog 144 [.sl (l.map (fun t:Int×List Int=>V.agg [V.int .i64 t.1,V.sl (t.2.map (V.int .i64))])),.fn g caps] [] (.int .i64 (firstP p 0 l)) []:=by
 refine v_con [.tmp 4] [] Tryz.func144 rfl rfl rfl (by simp [Tryz.ntmps144]) ?_
 intro Q0 n0 r0
 simp only [Tryz.ntmps144,envFrom,Nat.reduceAdd]
 have T:=Tys.mk (And.intro Ty.t3 (And.intro Ty.t4 (And.intro Ty.t34 (And.intro Ty.t75 Ty.t102))))
 have F:=Fc.mk True.intro
 refine yR [0,1] ⟨?_⟩;refine v_seq ?_;intros;refine yR [0,1,7,8] ⟨?_⟩;refine v_block ?_;intros;refine v_loop (fun i=>⟨[(0,.sl (l.map (fun t:Int×List Int=>V.agg [V.int .i64 t.1,V.sl (t.2.map (V.int .i64))]))),(1,.fn g caps),(7,.int .i64 l.length),(8,.int .i64 (Nat.cast i))],[],false,19,0⟩) (fun i=>i≤l.length∧firstP p i (l.drop i)=firstP p 0 l) (fun i=>l.length - i) 0 ?_ ?_ ?_
 ·refine weak_of [0,1,7,8] ?_
  simp only [keep_mk,keepE_nil,keepE_cons,look_cons,look_nil,Nat.reduceEqDiff,reduceIte]
  rfl
 ·exact ⟨Nat.zero_le _,rfl⟩
 ·rintro i hok5 Q5 n5 e5 r5
  obtain ⟨hi1,hR⟩:=hok5
  refine yR [0,1,7,8,9] ⟨?_⟩;refine v_seq ?_;intros;refine v_condS _ rfl ?_ ?_
  ·intro hc0
   have hlt:i < l.length:=by omega
   obtain ⟨⟨x0,x1⟩,hx⟩:∃x:Int×List Int,l[i]? =some x:=⟨l[i]'(by omega),List.getElem?_eq_getElem (by omega)⟩
   have hst:=first_step (p:=p) hx
   refine zn [0,1,7,8] ⟨?_⟩;refine v_seq ?_;intros;refine v_block ?_;intros
   have F:=Fc.mk (fun f=>getD_map (f:=f) hx)
   refine yR [0,1,5,7,8] ⟨?_⟩;refine v_seqR [0,1,5,7,8,16] ?_;intro K12 k12;refine zq2 ⟨?_⟩;refine zIndexAddr ⟨?_⟩;refine zLoad ⟨?_⟩;refine zcc (hg x0 x1 (List.mem_of_getElem? hx)) ⟨?_⟩;refine k12 _ ?_;refine zk ⟨?_⟩;refine v_condS _ rfl ?_ ?_
   ·intro hc1
    refine yR [4] ⟨?_⟩;refine zr ⟨?_⟩
    exact ret_pure rfl (by rw [←hR,hst,if_pos hc1]) (.inl rfl)
   ·intro hc1
    refine zn [0,1,7,8] ⟨?_⟩;refine yV ⟨?_⟩;refine n5 _ (i+1) ?_ ?_ ?_
    ·refine weak_bothC [0,1,7,8] [] ⟨?_⟩
     rfl
    ·exact ⟨by omega,by rw [←hR,hst,if_neg (by simp [hc1])]⟩
    ·show _ < _;omega
  ·intro hc0
   refine zn [] ⟨?_⟩;refine yR [4] ⟨?_⟩;refine zr ⟨?_⟩
   exact ret_pure rfl (by rw [←hR,first_end (by omega)]) (.inl rfl)
set_option maxRecDepth 100000 in
set_option maxHeartbeats 1000000 in
theorem deleteFuncWant_con (l:List (Int×List Int)) (g:Nat) (caps:List V) (p:(Int×List Int)→Bool) (hl:l.length≤1048576) (hc:Caps caps) (hg:∀x0 x1,(x0,x1)∈l→Con Tryz.prog g (V.agg [V.int .i64 x0,V.sl (x1.map (V.int .i64))]::caps) [] (.bool (p (x0,x1))) []) (hne:∀x∈l,x.2≠[]):Con Tryz.prog 69 [.ref 0,.fn g caps] [.arr (l.map (fun t:Int×List Int=>V.agg [V.int .i64 t.1,V.sl (t.2.map (V.int .i64))])) (fillK l.length)] (.ref 1) [.dead,.arr ((l.filter (fun x=> !p x)).map (fun t:Int×List Int=>V.agg [V.int .i64 t.1,V.sl (t.2.map (V.int .i64))])) (thK (l.filter (fun x=> !p x)).length)]:=by
 refine v_con [.tmp 4] [] Tryz.func69 rfl rfl rfl (by simp [Tryz.ntmps69]) ?_
 intro Q0 n0 r0
 simp only [Tryz.ntmps69,envFrom,Nat.reduceAdd]
 have T:=Tys.mk (And.intro Ty.t3 (And.intro Ty.t4 (And.intro Ty.t34 (And.intro Ty.t75 Ty.t102))))
 have F:=Fc.mk True.intro
 refine yR [0,1] ⟨?_⟩;refine v_seqR [0,1,5] ?_;intro K2 k2;refine zq1 ⟨?_⟩;refine zcc (indexFuncWant_con l g caps p hl hc hg) ⟨?_⟩;refine zAssign ⟨?_⟩;refine k2 _ ?_;refine zk ⟨?_⟩;refine v_seq ?_;intros;refine yR [0,1,5,12] ⟨?_⟩;refine v_condS _ rfl ?_ ?_
 ·intro hc0
  have hfil:=first_none hc0
  refine v_seq ?_;intro Q6 n6 e6 r6;refine yV ⟨?_⟩
  apply n6
  ·apply weak_trans (weak_keep [4] _)
   simp only [keep_mk,keepE_nil,keepE_cons,look_cons,look_nil,Nat.reduceEqDiff,reduceIte]
   exact weak_trans (weak_whole 0 4 (l.map (fun t:Int×List Int=>V.agg [V.int .i64 t.1,V.sl (t.2.map (V.int .i64))])) (fillK l.length) rfl rfl) (weak_retireX 0 (l.map (fun t:Int×List Int=>V.agg [V.int .i64 t.1,V.sl (t.2.map (V.int .i64))])).length 4 (l.map (fun t:Int×List Int=>V.agg [V.int .i64 t.1,V.sl (t.2.map (V.int .i64))])) (by simp) (by rw [List.length_map];rfl) (Nat.le_refl _) (fun e=>by rw [List.length_eq_zero_iff.1 e];rfl) rfl rfl)
  try simp only [atSlot_cons,atSlot_nil,Nat.reduceEqDiff,reduceIte,List.set_cons_zero,List.set_cons_succ]
  refine zr ⟨?_⟩
  rw [hfil]
  have htl:List.take l.length (l.map (fun t:Int×List Int=>V.agg [V.int .i64 t.1,V.sl (t.2.map (V.int .i64))]))=l.map (fun t:Int×List Int=>V.agg [V.int .i64 t.1,V.sl (t.2.map (V.int .i64))]):=List.take_of_length_le (by rw [List.length_map];exact Nat.le_refl _)
  exact ret_all rfl (by simp [newIds,refsOf,refs2,refs1]) (by simp) rfl (by simp [newIds,refsOf,refs2,refs1,htl]) (by simp [Blk.kindIs,thK_fd]) rfl
 ·intro hc0
  obtain ⟨k0,hk1,hk2,hk3,⟨z0,z1⟩,hz,hpz⟩:=first_some hc0
  rw [Nat.zero_add] at hk2
  have hk4:(delK p l k0)=l.take k0:=by have e:=hk3;rw [←delK,delK_yes hz hpz] at e;exact e
  have hk5:(delK p l (k0+1))=l.take k0:=hk3
  have hK0:(delK p l (k0+1)).length=k0:=by rw [hk5,List.length_take];omega
  have hfd:fillK l.length=.deep:=by unfold fillK;rw [if_neg (by omega)]
  have hR0:(delR (fun t:Int×List Int=>V.agg [V.int .i64 t.1,V.sl (t.2.map (V.int .i64))]) p l k0)=l.map (fun t:Int×List Int=>V.agg [V.int .i64 t.1,V.sl (t.2.map (V.int .i64))]):=by rw [delR,hk4,List.length_take,Nat.min_eq_left (by omega),Nat.sub_self,List.replicate_zero,List.nil_append,←List.map_append,List.take_append_drop]
  have hR1:(l.map (fun t:Int×List Int=>V.agg [V.int .i64 t.1,V.sl (t.2.map (V.int .i64))])).set k0 ST2=(delR (fun t:Int×List Int=>V.agg [V.int .i64 t.1,V.sl (t.2.map (V.int .i64))]) p l (k0+1)):=by have e:=delR_yes (f:=(fun t:Int×List Int=>V.agg [V.int .i64 t.1,V.sl (t.2.map (V.int .i64))])) hz hpz ST2;rw [hR0,List.set_set] at e;exact e
  refine zn [0,1,5] ⟨?_⟩;refine v_seq ?_;intros
  have F:=Fc.mk hk2
  refine yR [0,1,5,6] ⟨?_⟩;refine v_block ?_;intros;refine v_loop (fun j=>⟨[(0,.ref 0),(1,.fn g caps),(5,.int .i64 (Nat.cast (delK p l j).length)),(6,.int .i64 (Nat.cast j))],[.arr (delR (fun t:Int×List Int=>V.agg [V.int .i64 t.1,V.sl (t.2.map (V.int .i64))]) p l j) .deep],false,42,0⟩) (fun j=>(delK p l j).length < j∧j≤l.length) (fun j=>l.length - j) (k0+1) ?_ ?_ ?_
  ·refine weak_trans (weak_keep [0,1,5,6] _) ?_
   simp only [keep_mk,keepE_nil,keepE_cons,look_cons,look_nil,Nat.reduceEqDiff,reduceIte]
   rw [hK0,←hR1]
   refine weak_trans (weak_bothC [0,1,5,6] [0] ⟨rfl⟩) ?_;refine weak_trans (weak_fk 0 l.length (l.map (fun t:Int×List Int=>V.agg [V.int .i64 t.1,V.sl (t.2.map (V.int .i64))])) rfl) ?_
   exact weak_trans (weak_any2 0 k0 (l.map (fun t:Int×List Int=>V.agg [V.int .i64 t.1,V.sl (t.2.map (V.int .i64))])) (V.int .i64 z0) (V.sl (z1.map (V.int .i64))) .deep rfl (by rw [List.getElem?_map,hz];rfl)) (weak_refl _ _)
  ·exact ⟨by rw [hK0];omega,hk1⟩
  ·rintro j hok11 Q11 n11 e11 r11
   obtain ⟨hj1,hj2⟩:=hok11
   refine v_seq ?_;intro Q12 n12 e12 r12;refine yR [0,1,5,6,19] ⟨?_⟩;refine v_condS _ rfl ?_ ?_
   ·intro hc1
    have hlt:j < l.length:=by rw [delR_len hj2] at hc1;simpa using hc1
    obtain ⟨⟨x0,x1⟩,hx⟩:∃x:Int×List Int,l[j]? =some x:=⟨l[j]'(by omega),List.getElem?_eq_getElem (by omega)⟩
    have hrx:=delR_get (f:=(fun t:Int×List Int=>V.agg [V.int .i64 t.1,V.sl (t.2.map (V.int .i64))])) (p:=p) hx
    have hxe:=hne _ (List.mem_of_getElem? hx)
    simp only [] at hxe
    have hxn:x1.map (V.int .i64)≠[]:=fun e=>hxe (List.map_eq_nil_iff.1 e)
    have hrl:=delR_len (f:=(fun t:Int×List Int=>V.agg [V.int .i64 t.1,V.sl (t.2.map (V.int .i64))])) (p:=p) hj2
    have hgj:((delR (fun t:Int×List Int=>V.agg [V.int .i64 t.1,V.sl (t.2.map (V.int .i64))]) p l j).set j (V.agg [V.int .i64 x0,V.ref 1])).getD j .any=V.agg [V.int .i64 x0,V.ref 1]:=getD_set (by rw [hrl];exact hlt)
    have hgy:=delR_low (f:=(fun t:Int×List Int=>V.agg [V.int .i64 t.1,V.sl (t.2.map (V.int .i64))])) hj1 (V.agg [V.int .i64 x0,V.ref 1])
    have hcz0:=cells_set (y:=V.agg [V.int .i64 x0,V.ref 1]) hrx rfl 2 (delR_cells p l j fun _=>rfl)
    simp only [V.cells] at hcz0
    have hcz:=eq_true hcz0
    refine v_skip ?_
    apply n12
    ·apply weak_trans (weak_keep [0,1,5,6] _)
     simp only [keep_mk,keepE_nil,keepE_cons,look_cons,look_nil,Nat.reduceEqDiff,reduceIte]
     exact weak_outL 0 j _ [V.int .i64 x0] (x1.map (V.int .i64)) .deep .flat rfl (.inl rfl) hrx hxn (.inr ⟨rfl,by rw [List.all_map,List.all_eq_true];intro a _;rfl⟩) rfl
    try simp only [atSlot_cons,atSlot_nil,Nat.reduceEqDiff,reduceIte,List.set_cons_zero,List.set_cons_succ]
    refine v_seq ?_;intro Q15 n15 e15 r15;refine v_block ?_;intros
    have F:=Fc.mk (And.intro hk2 (And.intro hgj (And.intro hgy (And.intro hrl (And.intro @List.length_set.{0} hcz)))))
    refine yR [0,1,5,6,7] ⟨?_⟩;refine v_seqR [0,1,5,6,7,29] ?_;intro K18 k18;refine zMove ⟨?_⟩;refine zLoad ⟨?_⟩;refine zcc (hg x0 x1 (List.mem_of_getElem? hx)) ⟨?_⟩;refine zUnOp ⟨?_⟩;refine k18 _ ?_;refine zk ⟨?_⟩;refine v_condS _ rfl ?_ ?_
    ·intro hc2
     have hde:((((delR (fun t:Int×List Int=>V.agg [V.int .i64 t.1,V.sl (t.2.map (V.int .i64))]) p l j).set j (V.agg [V.int .i64 x0,V.ref 1])).set (delK p l j).length (V.agg [V.int .i64 x0,V.sl (x1.map (V.int .i64))])).set j ST2)=(delR (fun t:Int×List Int=>V.agg [V.int .i64 t.1,V.sl (t.2.map (V.int .i64))]) p l (j+1)):=delR_no (f:=(fun t:Int×List Int=>V.agg [V.int .i64 t.1,V.sl (t.2.map (V.int .i64))])) hx hc2 hj1 _
     have hcn:(((delK p l j).length:Nat):Int)+1=(((delK p l (j+1)).length:Nat):Int):=by rw [delK_no hx hc2,List.length_append];rfl
     refine yR [0,1,5,6] ⟨?_⟩;refine yV ⟨?_⟩
     apply n15
     ·apply weak_trans (weak_keep [0,1,5,6] _)
      simp only [keep_mk,keepE_nil,keepE_cons,look_cons,look_nil,Nat.reduceEqDiff,reduceIte]
      refine weak_trans (weak_any2 0 j _ (V.int .i64 x0) (V.ref 1) .part rfl ?_) (weak_dp 0 _ _ _ rfl (.inl ⟨rfl,rfl⟩) ?_)
      ·first | exact List.getElem?_set_self (by rw [hrl];exact hlt) | (rw [List.getElem?_set_ne (show (delK p l j).length≠j by omega)];exact List.getElem?_set_self (by rw [hrl];exact hlt))
      ·rw [hde];exact delR_noRef p l (j+1) fun _=>rfl
     try simp only [atSlot_cons,atSlot_nil,Nat.reduceEqDiff,reduceIte,List.set_cons_zero,List.set_cons_succ]
     refine yV ⟨?_⟩;refine n11 _ (j+1) ?_ ?_ ?_
     ·refine weak_bothC [0,1,5,6] [0] ⟨?_⟩
      rw [hde,hcn];rfl
     ·exact ⟨by rw [delK_no hx hc2,List.length_append,List.length_singleton];omega,hlt⟩
     ·show _ < _;omega
    ·intro hc2
     have hde:(((delR (fun t:Int×List Int=>V.agg [V.int .i64 t.1,V.sl (t.2.map (V.int .i64))]) p l j).set j (V.agg [V.int .i64 x0,V.ref 1])).set j ST2)=(delR (fun t:Int×List Int=>V.agg [V.int .i64 t.1,V.sl (t.2.map (V.int .i64))]) p l (j+1)):=delR_yes (f:=(fun t:Int×List Int=>V.agg [V.int .i64 t.1,V.sl (t.2.map (V.int .i64))])) hx hc2 _
     have hcn:(((delK p l j).length:Nat):Int)=(((delK p l (j+1)).length:Nat):Int):=by rw [delK_yes hx hc2]
     refine zx ⟨?_⟩
     apply n15
     ·apply weak_trans (weak_keep [0,1,5,6] _)
      simp only [keep_mk,keepE_nil,keepE_cons,look_cons,look_nil,Nat.reduceEqDiff,reduceIte]
      refine weak_trans (weak_any2 0 j _ (V.int .i64 x0) (V.ref 1) .part rfl ?_) (weak_dp 0 _ _ _ rfl (.inl ⟨rfl,rfl⟩) ?_)
      ·first | exact List.getElem?_set_self (by rw [hrl];exact hlt) | (rw [List.getElem?_set_ne (show (delK p l j).length≠j by omega)];exact List.getElem?_set_self (by rw [hrl];exact hlt))
      ·rw [hde];exact delR_noRef p l (j+1) fun _=>rfl
     try simp only [atSlot_cons,atSlot_nil,Nat.reduceEqDiff,reduceIte,List.set_cons_zero,List.set_cons_succ]
     refine yV ⟨?_⟩;refine n11 _ (j+1) ?_ ?_ ?_
     ·refine weak_bothC [0,1,5,6] [0] ⟨?_⟩
      rw [hde,hcn];rfl
     ·exact ⟨by rw [delK_yes hx hc2];omega,hlt⟩
     ·show _ < _;omega
   ·intro hc1
    have hjl:l.length≤j:=by rw [delR_len hj2] at hc1;simpa using hc1
    obtain ⟨he1,he2⟩:=delR_end (f:=(fun t:Int×List Int=>V.agg [V.int .i64 t.1,V.sl (t.2.map (V.int .i64))])) (p:=p) hjl hj2
    have hfle:(l.filter (fun x=> !p x)).length≤l.length:=List.length_filter_le ..
    rw [he1,he2]
    have hel:((l.filter (fun x=> !p x)).map (fun t:Int×List Int=>V.agg [V.int .i64 t.1,V.sl (t.2.map (V.int .i64))])++List.replicate (l.length - (l.filter (fun x=> !p x)).length) ST2).length=l.length:=by rw [List.length_append,List.length_map,List.length_replicate];omega
    have hec1:∀x∈((l.filter (fun x=> !p x)).map (fun t:Int×List Int=>V.agg [V.int .i64 t.1,V.sl (t.2.map (V.int .i64))])++List.replicate (l.length - (l.filter (fun x=> !p x)).length) ST2),x.cells.length=2:=by rw [←he1];exact delR_cells p l j fun _=>rfl
    have hec0:=hec1
    simp only [V.cells] at hec0
    have hec:=eq_true hec0
    have het:((l.filter (fun x=> !p x)).map (fun t:Int×List Int=>V.agg [V.int .i64 t.1,V.sl (t.2.map (V.int .i64))])++List.replicate (l.length - (l.filter (fun x=> !p x)).length) ST2).take (l.filter (fun x=> !p x)).length=(l.filter (fun x=> !p x)).map (fun t:Int×List Int=>V.agg [V.int .i64 t.1,V.sl (t.2.map (V.int .i64))]):=List.take_left' (List.length_map _)
    have hed:((l.filter (fun x=> !p x)).map (fun t:Int×List Int=>V.agg [V.int .i64 t.1,V.sl (t.2.map (V.int .i64))])++List.replicate (l.length - (l.filter (fun x=> !p x)).length) ST2).drop ((l.filter (fun x=> !p x)).length+(l.length - (l.filter (fun x=> !p x)).length))=[]:=List.drop_of_length_le (by rw [hel];omega)
    have hel2:((l.filter (fun x=> !p x)).map (fun t:Int×List Int=>V.agg [V.int .i64 t.1,V.sl (t.2.map (V.int .i64))])++List.replicate (l.length - (l.filter (fun x=> !p x)).length) (V.agg [V.int .i64 0,V.sl []])).length=l.length:=by rw [List.length_append,List.length_map,List.length_replicate];omega
    have hez0:∀x∈((l.filter (fun x=> !p x)).map (fun t:Int×List Int=>V.agg [V.int .i64 t.1,V.sl (t.2.map (V.int .i64))])++List.replicate (l.length - (l.filter (fun x=> !p x)).length) (V.agg [V.int .i64 0,V.sl []])),x.cells.length=2:=by intro x hx;rcases List.mem_append.1 hx with h | h;exact hec1 x (List.mem_append_left _ h);rw [List.eq_of_mem_replicate h];rfl
    simp only [V.cells] at hez0
    have hez:=eq_true hez0
    refine zn [0,5] ⟨?_⟩
    have F:=Fc.mk (And.intro hk2 (And.intro hel (And.intro het (And.intro hed (And.intro hec (And.intro hel2 hez))))))
    refine yR [0,5] ⟨?_⟩;refine v_seq ?_;intro Q25 n25 e25 r25;refine yV ⟨?_⟩
    apply n25
    ·apply weak_trans (weak_keep [4] _)
     simp only [keep_mk,keepE_nil,keepE_cons,look_cons,look_nil,Nat.reduceEqDiff,reduceIte]
     exact weak_trans (weak_tail2 0 (l.length - (l.filter (fun x=> !p x)).length) ((l.filter (fun x=> !p x)).map (fun t:Int×List Int=>V.agg [V.int .i64 t.1,V.sl (t.2.map (V.int .i64))])) (V.int .i64 0) (V.sl []) .deep rfl) (weak_retireX 0 (l.filter (fun x=> !p x)).length 4 ((l.filter (fun x=> !p x)).map (fun t:Int×List Int=>V.agg [V.int .i64 t.1,V.sl (t.2.map (V.int .i64))])++List.replicate (l.length - (l.filter (fun x=> !p x)).length) ST2) (by simp) (by rw [hel,hfd];rfl) (by rw [hel];exact hfle) (fun e=>by rw [List.length_eq_zero_iff.1 e,List.map_nil,List.nil_append,List.all_eq_true];intro a ha;rw [List.eq_of_mem_replicate ha];rfl) rfl rfl)
    try simp only [atSlot_cons,atSlot_nil,Nat.reduceEqDiff,reduceIte,List.set_cons_zero,List.set_cons_succ]
    refine zr ⟨?_⟩
    exact ret_all rfl (by simp [newIds,refsOf,refs2,refs1]) (by simp) rfl (by simp [newIds,refsOf,refs2,refs1,het]) (by simp [Blk.kindIs,thK_fd]) rfl
theorem fin_new {names:List ByteArray} {j:Nat} {s:ByteArray} (h:names.Pairwise fun a b=>strLt a b=true) (hj:names[j]? =some s):inS s (names.take j)=false:=by
  rw [inS,List.any_eq_false]
  intro y hy hq
  obtain ⟨i,hi,rfl⟩:=List.mem_iff_getElem.1 hy
  rw [List.length_take] at hi
  rw [List.getElem_take,decide_eq_true_eq] at hq
  have:=pair_get h (List.getElem?_eq_getElem (show i < names.length by omega)) hj (by omega)
  rw [hq,strLt_irrefl] at this;cases this
theorem thK_0:thK 0=.thin:=rfl
theorem ctl_wne {n:Int} {ss:List (Int×Int×Int)} {fl:List (ByteArray×Int×Int×Int×Int)} {ins:List (Int×Int×Bool×List ByteArray)} {ws:List (Int×List Int)} (hp:CtlProp n ss fl ins ws) {x:(Int×List Int)} (hx:x∈ws):x.2≠[]:=by
  intro e
  have h:=(hp.want x hx).2
  rw [e] at h
  exact absurd h (by decide)
set_option maxHeartbeats 1000000 in
theorem fin1_con (x0:Int) (x1:List Int) (m:Int):Con Tryz.prog 70 [.agg [V.int .i64 x0,V.sl (x1.map (V.int .i64))],.pv [.int .i64 m] 0 0] [] (.bool (decide (x0=m))) []:=by
 refine v_con [.tmp 3] [] Tryz.func70 rfl rfl rfl (by simp [Tryz.ntmps70]) ?_
 intro Q0 n0 r0
 simp only [Tryz.ntmps70,envFrom,Nat.reduceAdd]
 have T:=Tys.mk (And.intro Ty.t3 (And.intro Ty.t75 Ty.t102))
 have F:=Fc.mk True.intro
 refine yR [1,2] ⟨?_⟩;refine yR [3] ⟨?_⟩;refine zr ⟨?_⟩
 exact ret_pure rfl (by first | rfl | simp) (.inl rfl)
set_option maxRecDepth 100000 in
set_option maxHeartbeats 1000000 in
theorem implFin_con (n:Int) (ss:List (Int×Int×Int)) (fl:List (ByteArray×Int×Int×Int×Int)) (ins:List (Int×Int×Bool×List ByteArray)) (ws:List (Int×List Int)) (m:Int) (hs:ss.length≤1048576) (hl:fl.length≤1048576) (hls:∀t∈fl,t.1.size≤9223372036854775807) (hil:ins.length≤1048576) (hin:∀x∈ins,x.2.2.2.length≤1048576) (his:∀x∈ins,∀s∈x.2.2.2,s.size≤9223372036854775807) (hwl:ws.length≤1048576) (hwn:∀x∈ws,x.2.length≤1048576):Con Tryz.prog 13 [.agg [.int .i64 n,.sl (ss.map (fun t:Int×Int×Int=>V.agg [V.int .i64 t.1,V.int .i64 t.2.1,V.int .i64 t.2.2]))],.agg [.sl (fl.map (fun t:ByteArray×Int×Int×Int×Int=>V.agg [V.str t.1,V.int .i64 t.2.1,V.int .i64 t.2.2.1,V.int .i64 t.2.2.2.1,V.int .i64 t.2.2.2.2])),.sl (ins.map (fun t:Int×Int×Bool×List ByteArray=>V.agg [V.int .i64 t.1,V.int .i64 t.2.1,V.bool t.2.2.1,V.sl (t.2.2.2.map V.str)])),.sl (ws.map (fun t:Int×List Int=>V.agg [V.int .i64 t.1,V.sl (t.2.map (V.int .i64))]))],.int .i64 m] [] (.tup [.agg [.ref 0,.ref 1,.ref 2],.bool (atB n ss fl ins ws m)]) [.arr ((orNil (atB n ss fl ins ws m) (finF fl (finN ins m))).map (fun t:ByteArray×Int×Int×Int×Int=>V.agg [V.str t.1,V.int .i64 t.2.1,V.int .i64 t.2.2.1,V.int .i64 t.2.2.2.1,V.int .i64 t.2.2.2.2])) .flat,.arr ((orNil (atB n ss fl ins ws m) (finI ins m)).map (fun t:Int×Int×Bool×List ByteArray=>V.agg [V.int .i64 t.1,V.int .i64 t.2.1,V.bool t.2.2.1,V.sl (t.2.2.2.map V.str)])) (fillK (orNil (atB n ss fl ins ws m) (finI ins m)).length),.arr ((orNil (atB n ss fl ins ws m) (finW ws m)).map (fun t:Int×List Int=>V.agg [V.int .i64 t.1,V.sl (t.2.map (V.int .i64))])) (thK (orNil (atB n ss fl ins ws m) (finW ws m)).length)]:=by
 refine v_con [.cell 6 36,.tmp 7] [(69,[0])] Tryz.func13 rfl rfl rfl (by simp [Tryz.ntmps13]) ?_
 intro Q0 n0 r0
 simp only [Tryz.ntmps13,envFrom,Nat.reduceAdd]
 have T:=Tys.mk (And.intro Ty.t3 (And.intro Ty.t4 (And.intro Ty.t9 (And.intro Ty.t32 (And.intro Ty.t33 (And.intro Ty.t34 (And.intro Ty.t36 (And.intro Ty.t39 (And.intro Ty.t41 (And.intro Ty.t51 (And.intro Ty.t75 (And.intro Ty.t96 (And.intro Ty.t99 (And.intro Ty.t102 (And.intro Ty.t108 (And.intro Ty.t110 Ty.t169))))))))))))))))
 have F:=Fc.mk True.intro
 refine yR [3,4,5,6] ⟨?_⟩;refine v_seq ?_;intros;refine yRcgg [4,5,6,25] (isTown_con n ss hs) (isControl_con n ss fl ins ws hs hl hls hil hin his hwl hwn) (openAt_con ins m hil) ⟨?_⟩;refine v_condS _ rfl ?_ ?_
 ·intro hc0
  have hB:(atB n ss fl ins ws m)=false:=by
   rw [atB]
   cases hq:(ctlB n ss fl ins ws) with
   |false=>rfl
   |true=>(have ht:=ctl_town hq;simp [hq,ht] at hc0;simp;omega)
  refine v_seq ?_;intro Q5 n5 e5 r5;refine yV ⟨?_⟩
  apply n5
  ·apply weak_trans (weak_keep [6,7] _)
   simp only [keep_mk,keepE_nil,keepE_cons,look_cons,look_nil,Nat.reduceEqDiff,reduceIte]
   exact weak_thin 9 _ rfl
  try simp only [atSlot_cons,atSlot_nil,Nat.reduceEqDiff,reduceIte,List.set_cons_zero,List.set_cons_succ]
  refine zr ⟨?_⟩
  simp only [zE,zL,zO,zN,aStepM,optable,set_some,Nat.reduceEqDiff,reduceIte,Nat.reduceLT,implies_true,forall_const,reduceCtorEq,V.ofValue,V.ofScalar,V.un,V.gd,aLoad,row_mk,Blk.row,PartOK,Go.Vm.part,V.cells,V.noSl,V.noRef,Nat.reduceAdd,Nat.reduceLeDiff,Nat.reduceMul,Tryz.underlying32,Ty.c32,Ty.a32,Tryz.underlying33,Ty.c33,Ty.a33,Tryz.underlying34,Ty.c34,Ty.a34,Tryz.underlying36,Ty.c36,Ty.a36]
  simp only [hB,orNil_f,List.map_nil,List.length_nil,fillK_0,thK_0]
  exact ret_all rfl (by first | decide | simp [newIds,refsOf,refs2,refs1]) (by simp) rfl (by simp [newIds,refsOf,refs2,refs1]) (by simp [Blk.kindIs,fillK_fd]) rfl
 ·intro hc0
  have hB:(atB n ss fl ins ws m)=true:=by
   rw [atB]
   cases hq:(ctlB n ss fl ins ws) with
   |false=>simp [hq] at hc0
   |true=>(have ht:=ctl_town hq;simp [hq,ht] at hc0;simp;omega)
  have hB2:=hB
  rw [atB,Bool.and_eq_true,decide_eq_true_eq] at hB2
  have hp:=(ctl_iff n ss fl ins ws).1 hB2.1
  obtain ⟨k,t,hk1,hk2,hk3⟩:=openF_at hB2.2
  obtain ⟨t0,t1,t2,t3⟩:=t
  have hkl:k < ins.length:=(List.getElem?_eq_some_iff.1 hk1).1
  obtain ⟨hfn,hfi⟩:=fin_at hk3 hk1
  simp only [] at hfn hfi
  have hnl:=hin _ (List.mem_of_getElem? hk1)
  simp only [] at hnl
  have hinc:=hp.inc.each _ (List.mem_of_getElem? hk1)
  have hsrt:t3.Pairwise (fun a b=>strLt a b=true):=hinc.srt
  have hsI1:(ins.map (fun t:Int×Int×Bool×List ByteArray=>V.agg [V.int .i64 t.1,V.int .i64 t.2.1,V.bool t.2.2.1,V.sl (t.2.2.2.map V.str)])).set k (V.agg [V.int .i64 t0,V.int .i64 t1,V.bool true,V.sl (t3.map V.str)])=(ins.set k (t0,t1,true,t3)).map (fun t:Int×Int×Bool×List ByteArray=>V.agg [V.int .i64 t.1,V.int .i64 t.2.1,V.bool t.2.2.1,V.sl (t.2.2.2.map V.str)]):=by have e:=List.map_set (f:=(fun t:Int×Int×Bool×List ByteArray=>V.agg [V.int .i64 t.1,V.int .i64 t.2.1,V.bool t.2.2.1,V.sl (t.2.2.2.map V.str)])) (l:=ins) (i:=k) (a:=(t0,t1,true,t3));exact e.symm
  have hgI:(ins.set k (t0,t1,true,t3))[k]? =some (t0,t1,true,t3):=List.getElem?_set_self hkl
  have hlI:(ins.set k (t0,t1,true,t3)).length=ins.length:=List.length_set
  have hsI2:((ins.set k (t0,t1,true,t3)).map (fun t:Int×Int×Bool×List ByteArray=>V.agg [V.int .i64 t.1,V.int .i64 t.2.1,V.bool t.2.2.1,V.sl (t.2.2.2.map V.str)])).set k (V.agg [V.int .i64 t0,V.int .i64 t1,V.bool true,V.sl []])=(ins.set k (t0,t1,true,[])).map (fun t:Int×Int×Bool×List ByteArray=>V.agg [V.int .i64 t.1,V.int .i64 t.2.1,V.bool t.2.2.1,V.sl (t.2.2.2.map V.str)]):=by have e:=List.map_set (f:=(fun t:Int×Int×Bool×List ByteArray=>V.agg [V.int .i64 t.1,V.int .i64 t.2.1,V.bool t.2.2.1,V.sl (t.2.2.2.map V.str)])) (l:=ins.set k (t0,t1,true,t3)) (i:=k) (a:=(t0,t1,true,[]));rw [List.set_set] at e;exact e.symm
  refine zn [4,5,6] ⟨?_⟩
  have F:=Fc.mk (And.intro hk3 (And.intro @Int.toNat_natCast (And.intro (fun f=>getD_map (f:=f) hk1) (And.intro hsI1 (And.intro (fun f=>getD_map (f:=f) hgI) (And.intro hlI hsI2))))))
  refine yRc [4,5,6,8] (copyControl_con fl ins ws hl hil hin hwl hwn) ⟨?_⟩;refine yRc [4,5,6,8,9] (openAt_con ins m hil) ⟨?_⟩;refine v_seq ?_;intro Q9 n9 e9 r9;refine yR [4,5,6,8,9,37,38,39] ⟨?_⟩;refine v_block ?_;intros;refine v_loop (fun j=>⟨[(4,.ptr 0 0 0),(5,.ptr 1 0 0),(6,.ptr 5 0 0),(8,.ptr 9 0 0),(9,.int .i64 (Nat.cast k)),(37,.sl (t3.map V.str)),(38,.int .i64 t3.length),(39,.int .i64 (Nat.cast j))],[.box (.agg [.sl (fl.map (fun t:ByteArray×Int×Int×Int×Int=>V.agg [V.str t.1,V.int .i64 t.2.1,V.int .i64 t.2.2.1,V.int .i64 t.2.2.2.1,V.int .i64 t.2.2.2.2])),.sl (ins.map (fun t:Int×Int×Bool×List ByteArray=>V.agg [V.int .i64 t.1,V.int .i64 t.2.1,V.bool t.2.2.1,V.sl (t.2.2.2.map V.str)])),.sl (ws.map (fun t:Int×List Int=>V.agg [V.int .i64 t.1,V.sl (t.2.map (V.int .i64))]))]) .shal,.box (.int .i64 m) .flat,.arr [] .flat,.arr [] .flat,.arr [] .flat,.box (.agg [.ref 2,.ref 3,.ref 4]) .mix,.arr ((finF fl (t3.take j)).map (fun t:ByteArray×Int×Int×Int×Int=>V.agg [V.str t.1,V.int .i64 t.2.1,V.int .i64 t.2.2.1,V.int .i64 t.2.2.2.1,V.int .i64 t.2.2.2.2])) .flat,.arr (ins.map (fun t:Int×Int×Bool×List ByteArray=>V.agg [V.int .i64 t.1,V.int .i64 t.2.1,V.bool t.2.2.1,V.sl (t.2.2.2.map V.str)])) (fillK ins.length),.arr (ws.map (fun t:Int×List Int=>V.agg [V.int .i64 t.1,V.sl (t.2.map (V.int .i64))])) (fillK ws.length),.box (.agg [.ref 6,.ref 7,.ref 8]) .mix],false,78,0⟩) (fun j=>j≤t3.length) (fun j=>t3.length - j) 0 ?_ ?_ ?_
  ·refine weak_bothN [4,5,6,8,9,37,38,39] [1,2,3,4,5,6,7,8,9,13] ⟨?_⟩
   rw [List.take_zero,finF_nil];rfl
  ·exact Nat.zero_le _
  ·rintro j hok12 Q12 n12 e12 r12
   have hj1:j≤t3.length:=hok12
   refine yR [4,5,6,8,9,37,38,39,40] ⟨?_⟩;refine v_seq ?_;intros;refine v_condS _ rfl ?_ ?_
   ·intro hc1
    have hlt:j < t3.length:=by omega
    obtain ⟨s,hs⟩:∃s,t3[j]? =some s:=⟨_,List.getElem?_eq_getElem hlt⟩
    obtain ⟨q,⟨a0,a1,a2,a3,a4⟩,hf1,hf2,hf3⟩:=findA_at ((findA_iff fl s).2 (hp.names _ (List.mem_of_getElem? hk1) s (List.mem_of_getElem? hs)))
    simp only [] at hf2
    subst hf2
    have hnw:=fin_new hsrt hs
    have hfa:=finF_at hf1 hnw
    have hql:q < fl.length:=(List.getElem?_eq_some_iff.1 hf1).1
    have hfl:(finF fl (t3.take j)).length=fl.length:=finF_len ..
    have hstp:=finF_step (names:=t3) (fun i b hi e=>name_uniq hp.srt hi hf1 e) hs hf1 rfl
    refine zn [4,5,6,8,9,37,38,39] ⟨?_⟩;refine v_seq ?_;intros;refine v_block ?_;intros
    have F:=Fc.mk (And.intro hk3 (And.intro @Int.toNat_natCast (And.intro (fun f=>getD_map (f:=f) hk1) (And.intro hsI1 (And.intro (fun f=>getD_map (f:=f) hgI) (And.intro hlI (And.intro hsI2 (And.intro (fun f=>getD_map (f:=f) hs) (And.intro hf3 (And.intro @Int.toNat_natCast (And.intro (fun f=>getD_map (f:=f) hfa) hfl)))))))))))
    refine yR [4,5,6,8,9,11,37,38,39] ⟨?_⟩;refine v_seq ?_;intro Q19 n19 e19 r19;refine v_draw (by kernel_rfl) ?_;intro K20 q20 k20
    show aAny _ _ _ _ 8 (Array.replicate 8 false) _
    refine zdFieldAddr q20 true 0 43 ?_;refine zdLoadX q20 true 1 44 ?_;refine zdFieldAddr q20 true 2 45 ?_;refine zdLoadX q20 true 3 46 ?_;refine zdMove q20 true 4 47 ?_;refine zoc 5 (findAppliance_con fl a0 hl) ⟨?_⟩;refine aAny_take q20 true 6 49 rfl rfl (by kernel_rfl) (by kernel_rfl) ?_
    apply Exists.intro;apply And.intro
    ·intro t hn gx ho K' k'
     have g44:=gx 44 (by decide)
     have g48:=gx 48 (by decide)
     simp only [get_mk,look_cons,look_nil,set_some,Nat.reduceEqDiff,reduceIte] at g44 g48
     first | have row0:=grow_row (i:=0) (ho rfl) rfl | have row0:t.n+0=t.n:=rfl
     first | have row1:=grow_row (i:=1) (ho rfl) rfl | have row1:t.n+0=t.n:=rfl
     first | have row2:=grow_row (i:=2) (ho rfl) rfl | have row2:t.n+0=t.n:=rfl
     first | have row3:=grow_row (i:=3) (ho rfl) rfl | have row3:t.n+0=t.n:=rfl
     first | have row4:=grow_row (i:=4) (ho rfl) rfl | have row4:t.n+0=t.n:=rfl
     first | have row5:=grow_row (i:=5) (ho rfl) rfl | have row5:t.n+0=t.n:=rfl
     first | have row6:=grow_row (i:=6) (ho rfl) rfl | have row6:t.n+0=t.n:=rfl
     first | have row7:=grow_row (i:=7) (ho rfl) rfl | have row7:t.n+0=t.n:=rfl
     first | have row8:=grow_row (i:=8) (ho rfl) rfl | have row8:t.n+0=t.n:=rfl
     first | have row9:=grow_row (i:=9) (ho rfl) rfl | have row9:t.n+0=t.n:=rfl
     first | have row10:=grow_row (i:=10) (ho rfl) rfl | have row10:t.n+0=t.n:=rfl
     first | have row11:=grow_row (i:=11) (ho rfl) rfl | have row11:t.n+0=t.n:=rfl
     first | have row12:=grow_row (i:=12) (ho rfl) rfl | have row12:t.n+0=t.n:=rfl
     first | have row13:=grow_row (i:=13) (ho rfl) rfl | have row13:t.n+0=t.n:=rfl
     first | have row14:=grow_row (i:=14) (ho rfl) rfl | have row14:t.n+0=t.n:=rfl
     first | have row15:=grow_row (i:=15) (ho rfl) rfl | have row15:t.n+0=t.n:=rfl
     first | have row16:=grow_row (i:=16) (ho rfl) rfl | have row16:t.n+0=t.n:=rfl
     first | have row17:=grow_row (i:=17) (ho rfl) rfl | have row17:t.n+0=t.n:=rfl
     first | have row18:=grow_row (i:=18) (ho rfl) rfl | have row18:t.n+0=t.n:=rfl
     first | have row19:=grow_row (i:=19) (ho rfl) rfl | have row19:t.n+0=t.n:=rfl
     have hdl:49 < t.n:=by rw [hn];show 49 < 78;decide
     clear hn
     refine .inl ?_
     simp only [zE,zL,zN,hdl,aStepM,optable,Nat.reduceEqDiff,reduceIte,implies_true,forall_const,reduceCtorEq,V.ofValue,V.ofScalar,V.un,V.gd,aExec,aop,g44,g48,row0,row1,row2,row3,row4,row5,row6,row7,row8,row9,row10,row11,row12,row13,row14,row15,row16,row17,row18,row19,List.mem_cons,List.not_mem_nil,or_false,forall_eq_or_imp,forall_eq,aIndexAddr,row_mk,Blk.row,Go.Vm.V.cells,List.forall_mem_map,List.length_map,Int.toNat_natCast,Int.reduceToNat,TypeDesc.slice.injEq,Nat.reduceAdd,Nat.reduceLeDiff,Nat.reduceLT,Nat.reduceMul,Tryz.underlying32,Ty.c32,Ty.a32,Tryz.underlying96,Ty.c96,Ty.a96,hk3,getD_map hk1,hsI1,getD_map hgI,hlI,hsI2,getD_map hs,hf3,getD_map hfa,hfl]
     repeat (refine And.intro (by first | omega | (exact set_all (fun x hx=>by obtain ⟨t,_,rfl⟩:=List.mem_map.1 hx;rfl) rfl) | (intros;omega) | (intros;simp_all;done)) ?_)
     exact k'
    simp only [set_some]
    refine zoAssign 7 ⟨?_⟩;refine aAny_done (by kernel_rfl) ?_;refine k20 _ ?_;refine n19 _ _ (weak_keep [4,5,6,8,9,12,37,38,39] _) ?_;refine zk ⟨?_⟩;refine yR [4,5,6,8,9,12,37,38,39,54] ⟨?_⟩;refine v_condS _ rfl ?_ ?_
    ·intro hc2
     have hfe:finA (a0,a1,a2,a3,a4)=(a0,a1,a2,a3,0):=by simp [finA,finS,hc2]
     rw [hfe] at hstp
     have hsm:((finF fl (t3.take j)).map (fun t:ByteArray×Int×Int×Int×Int=>V.agg [V.str t.1,V.int .i64 t.2.1,V.int .i64 t.2.2.1,V.int .i64 t.2.2.2.1,V.int .i64 t.2.2.2.2])).set q (V.agg [V.str a0,V.int .i64 a1,V.int .i64 a2,V.int .i64 a3,V.int .i64 0])=(finF fl (t3.take (j+1))).map (fun t:ByteArray×Int×Int×Int×Int=>V.agg [V.str t.1,V.int .i64 t.2.1,V.int .i64 t.2.2.1,V.int .i64 t.2.2.2.1,V.int .i64 t.2.2.2.2]):=by rw [←hstp,List.map_set]
     have F:=Fc.mk (And.intro hk3 (And.intro @Int.toNat_natCast (And.intro (fun f=>getD_map (f:=f) hk1) (And.intro hsI1 (And.intro (fun f=>getD_map (f:=f) hgI) (And.intro hlI (And.intro hsI2 (And.intro (fun f=>getD_map (f:=f) hs) (And.intro hf3 (And.intro @Int.toNat_natCast (And.intro (fun f=>getD_map (f:=f) hfa) (And.intro hfl hsm))))))))))))
     refine yQ [4,5,6,8,9,37,38,39] ⟨?_⟩;refine yV ⟨?_⟩;refine n12 _ (j+1) ?_ ?_ ?_
     ·refine weak_bothN [4,5,6,8,9,37,38,39] [0,1,2,3,4,5,6,7,8,9] ⟨?_⟩
      rfl
     ·exact hlt
     ·show _ < _;omega
    ·intro hc2
     have hfe:finA (a0,a1,a2,a3,a4)=(a0,a1,a2,a3,4):=by simp [finA,finS,hc2]
     rw [hfe] at hstp
     have hsm:((finF fl (t3.take j)).map (fun t:ByteArray×Int×Int×Int×Int=>V.agg [V.str t.1,V.int .i64 t.2.1,V.int .i64 t.2.2.1,V.int .i64 t.2.2.2.1,V.int .i64 t.2.2.2.2])).set q (V.agg [V.str a0,V.int .i64 a1,V.int .i64 a2,V.int .i64 a3,V.int .i64 4])=(finF fl (t3.take (j+1))).map (fun t:ByteArray×Int×Int×Int×Int=>V.agg [V.str t.1,V.int .i64 t.2.1,V.int .i64 t.2.2.1,V.int .i64 t.2.2.2.1,V.int .i64 t.2.2.2.2]):=by rw [←hstp,List.map_set]
     have F:=Fc.mk (And.intro hk3 (And.intro @Int.toNat_natCast (And.intro (fun f=>getD_map (f:=f) hk1) (And.intro hsI1 (And.intro (fun f=>getD_map (f:=f) hgI) (And.intro hlI (And.intro hsI2 (And.intro (fun f=>getD_map (f:=f) hs) (And.intro hf3 (And.intro @Int.toNat_natCast (And.intro (fun f=>getD_map (f:=f) hfa) (And.intro hfl hsm))))))))))))
     refine yQ [4,5,6,8,9,37,38,39] ⟨?_⟩;refine yV ⟨?_⟩;refine n12 _ (j+1) ?_ ?_ ?_
     ·refine weak_bothN [4,5,6,8,9,37,38,39] [0,1,2,3,4,5,6,7,8,9] ⟨?_⟩
      rfl
     ·exact hlt
     ·show _ < _;omega
   ·intro hc1
    have hje:t3.take j=t3:=List.take_of_length_le (by omega)
    rw [hje]
    refine zx ⟨?_⟩
    apply n9
    ·apply weak_trans (weak_keep [5,6,8,9] _)
     simp only [keep_mk,keepE_nil,keepE_cons,look_cons,look_nil,Nat.reduceEqDiff,reduceIte]
     exact weak_fk 7 ins.length _ rfl
    try simp only [atSlot_cons,atSlot_nil,Nat.reduceEqDiff,reduceIte,List.set_cons_zero,List.set_cons_succ]
    refine v_seq ?_;intro Q27 n27 e27 r27;refine v_draw (by kernel_rfl) ?_;intro K28 q28 k28
    show aAny _ _ _ _ 12 (Array.replicate 12 false) _
    refine zdFieldAddr q28 true 0 62 ?_;refine zdLoadX q28 true 1 63 ?_;refine zdMove q28 true 2 64 ?_;refine zdFieldAddr q28 false 3 65 ?_;refine zdMove q28 false 5 67 ?_;refine aAny_take q28 true 6 68 rfl rfl (by kernel_rfl) (by kernel_rfl) ?_
    apply Exists.intro;apply And.intro
    ·intro t hn gx ho K' k'
     have g63:=gx 63 (by decide)
     have g64:=gx 64 (by decide)
     simp only [get_mk,look_cons,look_nil,set_some,Nat.reduceEqDiff,reduceIte] at g63 g64
     first | have row0:=grow_row (i:=0) (ho rfl) rfl | have row0:t.n+0=t.n:=rfl
     first | have row1:=grow_row (i:=1) (ho rfl) rfl | have row1:t.n+0=t.n:=rfl
     first | have row2:=grow_row (i:=2) (ho rfl) rfl | have row2:t.n+0=t.n:=rfl
     first | have row3:=grow_row (i:=3) (ho rfl) rfl | have row3:t.n+0=t.n:=rfl
     first | have row4:=grow_row (i:=4) (ho rfl) rfl | have row4:t.n+0=t.n:=rfl
     first | have row5:=grow_row (i:=5) (ho rfl) rfl | have row5:t.n+0=t.n:=rfl
     first | have row6:=grow_row (i:=6) (ho rfl) rfl | have row6:t.n+0=t.n:=rfl
     first | have row7:=grow_row (i:=7) (ho rfl) rfl | have row7:t.n+0=t.n:=rfl
     first | have row8:=grow_row (i:=8) (ho rfl) rfl | have row8:t.n+0=t.n:=rfl
     first | have row9:=grow_row (i:=9) (ho rfl) rfl | have row9:t.n+0=t.n:=rfl
     first | have row10:=grow_row (i:=10) (ho rfl) rfl | have row10:t.n+0=t.n:=rfl
     first | have row11:=grow_row (i:=11) (ho rfl) rfl | have row11:t.n+0=t.n:=rfl
     first | have row12:=grow_row (i:=12) (ho rfl) rfl | have row12:t.n+0=t.n:=rfl
     first | have row13:=grow_row (i:=13) (ho rfl) rfl | have row13:t.n+0=t.n:=rfl
     first | have row14:=grow_row (i:=14) (ho rfl) rfl | have row14:t.n+0=t.n:=rfl
     first | have row15:=grow_row (i:=15) (ho rfl) rfl | have row15:t.n+0=t.n:=rfl
     first | have row16:=grow_row (i:=16) (ho rfl) rfl | have row16:t.n+0=t.n:=rfl
     first | have row17:=grow_row (i:=17) (ho rfl) rfl | have row17:t.n+0=t.n:=rfl
     first | have row18:=grow_row (i:=18) (ho rfl) rfl | have row18:t.n+0=t.n:=rfl
     first | have row19:=grow_row (i:=19) (ho rfl) rfl | have row19:t.n+0=t.n:=rfl
     have hdl:68 < t.n:=by rw [hn];show 68 < 78;decide
     clear hn
     refine .inl ?_
     simp only [zE,zL,zN,hdl,aStepM,optable,Nat.reduceEqDiff,reduceIte,implies_true,forall_const,reduceCtorEq,V.ofValue,V.ofScalar,V.un,V.gd,aExec,aop,g63,g64,row0,row1,row2,row3,row4,row5,row6,row7,row8,row9,row10,row11,row12,row13,row14,row15,row16,row17,row18,row19,List.mem_cons,List.not_mem_nil,or_false,forall_eq_or_imp,forall_eq,aIndexAddr,row_mk,Blk.row,Go.Vm.V.cells,List.forall_mem_map,List.length_map,Int.toNat_natCast,Int.reduceToNat,TypeDesc.slice.injEq,Nat.reduceAdd,Nat.reduceLeDiff,Nat.reduceLT,Nat.reduceMul,Tryz.underlying33,Ty.c33,Ty.a33,Tryz.underlying99,Ty.c99,Ty.a99,hk3,getD_map hk1,hsI1,getD_map hgI,hlI,hsI2]
     repeat (refine And.intro (by first | omega | (exact set_all (fun x hx=>by obtain ⟨t,_,rfl⟩:=List.mem_map.1 hx;rfl) rfl) | (intros;omega) | (intros;simp_all;done)) ?_)
     exact k'
    simp only [set_some]
    refine zdFieldAddr q28 true 7 69 ?_;refine aAny_two 4 8 rfl rfl (by kernel_rfl) ?_ ?_
    ·intro K k
     skip
     simp only [zE,zL,zO,zN,aStepM,optable,set_some,Nat.reduceEqDiff,reduceIte,Nat.reduceLT,implies_true,forall_const,reduceCtorEq,V.ofValue,V.ofScalar,V.un,V.gd,aExec,aop,aLoad,row_mk,Blk.row,PartOK,Go.Vm.part,V.cells,V.noSl,V.noRef,Nat.reduceAdd,Nat.reduceLeDiff,Nat.reduceMul,Tryz.underlying33,Ty.c33,Ty.a33,Tryz.underlying99,Ty.c99,Ty.a99,hk3,Int.toNat_natCast,getD_map hk1,hsI1,getD_map hgI,hlI,hsI2]
     repeat (refine And.intro (by first | omega | (intros;omega) | (intros;simp_all;done) | (intros;simp_all;omega)) ?_)
     refine k _ ?_;clear k K;refine zoStore 8 ⟨?_⟩;refine aAny_take q28 true 9 70 rfl rfl (by kernel_rfl) (by kernel_rfl) ?_
     apply Exists.intro;apply And.intro
     ·intro t hn gx ho K' k'
      have g66:=gx 66 (by decide)
      have g67:=gx 67 (by decide)
      simp only [get_mk,look_cons,look_nil,set_some,Nat.reduceEqDiff,reduceIte] at g66 g67
      first | have row0:=grow_row (i:=0) (ho rfl) rfl | have row0:t.n+0=t.n:=rfl
      first | have row1:=grow_row (i:=1) (ho rfl) rfl | have row1:t.n+0=t.n:=rfl
      first | have row2:=grow_row (i:=2) (ho rfl) rfl | have row2:t.n+0=t.n:=rfl
      first | have row3:=grow_row (i:=3) (ho rfl) rfl | have row3:t.n+0=t.n:=rfl
      first | have row4:=grow_row (i:=4) (ho rfl) rfl | have row4:t.n+0=t.n:=rfl
      first | have row5:=grow_row (i:=5) (ho rfl) rfl | have row5:t.n+0=t.n:=rfl
      first | have row6:=grow_row (i:=6) (ho rfl) rfl | have row6:t.n+0=t.n:=rfl
      first | have row7:=grow_row (i:=7) (ho rfl) rfl | have row7:t.n+0=t.n:=rfl
      first | have row8:=grow_row (i:=8) (ho rfl) rfl | have row8:t.n+0=t.n:=rfl
      first | have row9:=grow_row (i:=9) (ho rfl) rfl | have row9:t.n+0=t.n:=rfl
      first | have row10:=grow_row (i:=10) (ho rfl) rfl | have row10:t.n+0=t.n:=rfl
      first | have row11:=grow_row (i:=11) (ho rfl) rfl | have row11:t.n+0=t.n:=rfl
      first | have row12:=grow_row (i:=12) (ho rfl) rfl | have row12:t.n+0=t.n:=rfl
      first | have row13:=grow_row (i:=13) (ho rfl) rfl | have row13:t.n+0=t.n:=rfl
      first | have row14:=grow_row (i:=14) (ho rfl) rfl | have row14:t.n+0=t.n:=rfl
      first | have row15:=grow_row (i:=15) (ho rfl) rfl | have row15:t.n+0=t.n:=rfl
      first | have row16:=grow_row (i:=16) (ho rfl) rfl | have row16:t.n+0=t.n:=rfl
      first | have row17:=grow_row (i:=17) (ho rfl) rfl | have row17:t.n+0=t.n:=rfl
      first | have row18:=grow_row (i:=18) (ho rfl) rfl | have row18:t.n+0=t.n:=rfl
      first | have row19:=grow_row (i:=19) (ho rfl) rfl | have row19:t.n+0=t.n:=rfl
      have hdl:70 < t.n:=by rw [hn];show 70 < 78;decide
      clear hn
      refine .inl ?_
      simp only [zE,zL,zN,hdl,aStepM,optable,Nat.reduceEqDiff,reduceIte,implies_true,forall_const,reduceCtorEq,V.ofValue,V.ofScalar,V.un,V.gd,aExec,aop,g66,g67,row0,row1,row2,row3,row4,row5,row6,row7,row8,row9,row10,row11,row12,row13,row14,row15,row16,row17,row18,row19,List.mem_cons,List.not_mem_nil,or_false,forall_eq_or_imp,forall_eq,aIndexAddr,row_mk,Blk.row,Go.Vm.V.cells,List.forall_mem_map,List.length_map,Int.toNat_natCast,Int.reduceToNat,TypeDesc.slice.injEq,Nat.reduceAdd,Nat.reduceLeDiff,Nat.reduceLT,Nat.reduceMul,Tryz.underlying33,Ty.c33,Ty.a33,Tryz.underlying99,Ty.c99,Ty.a99,hk3,getD_map hk1,hsI1,getD_map hgI,hlI,hsI2]
      repeat (refine And.intro (by first | omega | (exact set_all (fun x hx=>by obtain ⟨t,_,rfl⟩:=List.mem_map.1 hx;rfl) rfl) | (intros;omega) | (intros;simp_all;done)) ?_)
      exact k'
     simp only [set_some]
     refine zdFieldAddr q28 true 10 71 ?_;refine zoStore 11 ⟨?_⟩;refine aAny_done (by kernel_rfl) ?_;refine k28 _ ?_;refine n27 _ _ (weak_keep [5,6,8] _) ?_;refine zk ⟨?_⟩;refine yRl [6,8] (deleteFuncWant_con ws _ _ (fun w=>decide (w.1=m)) hwl (.pv _ .nil) (fun y0 y1 _=>fin1_con y0 y1 m) (fun x hx=>ctl_wne hp hx)) ⟨?_⟩;refine v_seq ?_;intro Q30 n30 e30 r30;refine yV ⟨?_⟩
     apply n30
     ·apply weak_trans (weak_keep [6,7] _)
      simp only [keep_mk,keepE_nil,keepE_cons,look_cons,look_nil,Nat.reduceEqDiff,reduceIte]
      exact weak_kf 7 _ (ins.set k (t0,t1,true,[])).length rfl (List.length_map _)
     try simp only [atSlot_cons,atSlot_nil,Nat.reduceEqDiff,reduceIte,List.set_cons_zero,List.set_cons_succ]
     refine zr ⟨?_⟩
     simp only [zE,zL,zO,zN,aStepM,optable,set_some,Nat.reduceEqDiff,reduceIte,Nat.reduceLT,implies_true,forall_const,reduceCtorEq,V.ofValue,V.ofScalar,V.un,V.gd,aLoad,row_mk,Blk.row,PartOK,Go.Vm.part,V.cells,V.noSl,V.noRef,Nat.reduceAdd,Nat.reduceLeDiff,Nat.reduceMul,Tryz.underlying32,Ty.c32,Ty.a32,Tryz.underlying33,Ty.c33,Ty.a33,Tryz.underlying34,Ty.c34,Ty.a34,Tryz.underlying36,Ty.c36,Ty.a36]
     have hfw:finW ws m=ws.filter fun x=> !decide (x.1=m):=rfl
     simp only [hB,orNil_t,hfn,hfi,hfw]
     exact ret_all rfl (by first | decide | simp [newIds,refsOf,refs2,refs1]) (by simp) rfl (by simp [newIds,refsOf,refs2,refs1]) (by simp [Blk.kindIs,fillK_fd,thK_fd]) rfl
    ·refine zsStore ⟨?_⟩
     refine zdLoadX q28 true 4 66 ?_;refine aAny_take q28 true 9 70 rfl rfl (by kernel_rfl) (by kernel_rfl) ?_
     apply Exists.intro;apply And.intro
     ·intro t hn gx ho K' k'
      have g66:=gx 66 (by decide)
      have g67:=gx 67 (by decide)
      simp only [get_mk,look_cons,look_nil,set_some,Nat.reduceEqDiff,reduceIte] at g66 g67
      first | have row0:=grow_row (i:=0) (ho rfl) rfl | have row0:t.n+0=t.n:=rfl
      first | have row1:=grow_row (i:=1) (ho rfl) rfl | have row1:t.n+0=t.n:=rfl
      first | have row2:=grow_row (i:=2) (ho rfl) rfl | have row2:t.n+0=t.n:=rfl
      first | have row3:=grow_row (i:=3) (ho rfl) rfl | have row3:t.n+0=t.n:=rfl
      first | have row4:=grow_row (i:=4) (ho rfl) rfl | have row4:t.n+0=t.n:=rfl
      first | have row5:=grow_row (i:=5) (ho rfl) rfl | have row5:t.n+0=t.n:=rfl
      first | have row6:=grow_row (i:=6) (ho rfl) rfl | have row6:t.n+0=t.n:=rfl
      first | have row7:=grow_row (i:=7) (ho rfl) rfl | have row7:t.n+0=t.n:=rfl
      first | have row8:=grow_row (i:=8) (ho rfl) rfl | have row8:t.n+0=t.n:=rfl
      first | have row9:=grow_row (i:=9) (ho rfl) rfl | have row9:t.n+0=t.n:=rfl
      first | have row10:=grow_row (i:=10) (ho rfl) rfl | have row10:t.n+0=t.n:=rfl
      first | have row11:=grow_row (i:=11) (ho rfl) rfl | have row11:t.n+0=t.n:=rfl
      first | have row12:=grow_row (i:=12) (ho rfl) rfl | have row12:t.n+0=t.n:=rfl
      first | have row13:=grow_row (i:=13) (ho rfl) rfl | have row13:t.n+0=t.n:=rfl
      first | have row14:=grow_row (i:=14) (ho rfl) rfl | have row14:t.n+0=t.n:=rfl
      first | have row15:=grow_row (i:=15) (ho rfl) rfl | have row15:t.n+0=t.n:=rfl
      first | have row16:=grow_row (i:=16) (ho rfl) rfl | have row16:t.n+0=t.n:=rfl
      first | have row17:=grow_row (i:=17) (ho rfl) rfl | have row17:t.n+0=t.n:=rfl
      first | have row18:=grow_row (i:=18) (ho rfl) rfl | have row18:t.n+0=t.n:=rfl
      first | have row19:=grow_row (i:=19) (ho rfl) rfl | have row19:t.n+0=t.n:=rfl
      have hdl:70 < t.n:=by rw [hn];show 70 < 78;decide
      clear hn
      refine .inl ?_
      simp only [zE,zL,zN,hdl,aStepM,optable,Nat.reduceEqDiff,reduceIte,implies_true,forall_const,reduceCtorEq,V.ofValue,V.ofScalar,V.un,V.gd,aExec,aop,g66,g67,row0,row1,row2,row3,row4,row5,row6,row7,row8,row9,row10,row11,row12,row13,row14,row15,row16,row17,row18,row19,List.mem_cons,List.not_mem_nil,or_false,forall_eq_or_imp,forall_eq,aIndexAddr,row_mk,Blk.row,Go.Vm.V.cells,List.forall_mem_map,List.length_map,Int.toNat_natCast,Int.reduceToNat,TypeDesc.slice.injEq,Nat.reduceAdd,Nat.reduceLeDiff,Nat.reduceLT,Nat.reduceMul,Tryz.underlying33,Ty.c33,Ty.a33,Tryz.underlying99,Ty.c99,Ty.a99,hk3,getD_map hk1,hsI1,getD_map hgI,hlI,hsI2]
      repeat (refine And.intro (by first | omega | (exact set_all (fun x hx=>by obtain ⟨t,_,rfl⟩:=List.mem_map.1 hx;rfl) rfl) | (intros;omega) | (intros;simp_all;done)) ?_)
      exact k'
     simp only [set_some]
     refine zdFieldAddr q28 true 10 71 ?_;refine zoStore 11 ⟨?_⟩;refine aAny_done (by kernel_rfl) ?_;refine k28 _ ?_;refine n27 _ _ (weak_keep [5,6,8] _) ?_;refine zk ⟨?_⟩;refine yRl [6,8] (deleteFuncWant_con ws _ _ (fun w=>decide (w.1=m)) hwl (.pv _ .nil) (fun y0 y1 _=>fin1_con y0 y1 m) (fun x hx=>ctl_wne hp hx)) ⟨?_⟩;refine v_seq ?_;intro Q33 n33 e33 r33;refine yV ⟨?_⟩
     apply n33
     ·apply weak_trans (weak_keep [6,7] _)
      simp only [keep_mk,keepE_nil,keepE_cons,look_cons,look_nil,Nat.reduceEqDiff,reduceIte]
      exact weak_kf 7 _ (ins.set k (t0,t1,true,[])).length rfl (List.length_map _)
     try simp only [atSlot_cons,atSlot_nil,Nat.reduceEqDiff,reduceIte,List.set_cons_zero,List.set_cons_succ]
     refine zr ⟨?_⟩
     simp only [zE,zL,zO,zN,aStepM,optable,set_some,Nat.reduceEqDiff,reduceIte,Nat.reduceLT,implies_true,forall_const,reduceCtorEq,V.ofValue,V.ofScalar,V.un,V.gd,aLoad,row_mk,Blk.row,PartOK,Go.Vm.part,V.cells,V.noSl,V.noRef,Nat.reduceAdd,Nat.reduceLeDiff,Nat.reduceMul,Tryz.underlying32,Ty.c32,Ty.a32,Tryz.underlying33,Ty.c33,Ty.a33,Tryz.underlying34,Ty.c34,Ty.a34,Tryz.underlying36,Ty.c36,Ty.a36]
     have hfw:finW ws m=ws.filter fun x=> !decide (x.1=m):=rfl
     simp only [hB,orNil_t,hfn,hfi,hfw]
     exact ret_all rfl (by first | decide | simp [newIds,refsOf,refs2,refs1]) (by simp) rfl (by simp [newIds,refsOf,refs2,refs1]) (by simp [Blk.kindIs,fillK_fd,thK_fd]) rfl
end Go.Proofs.YtaefoaghpehbpaaGreat
