/- What functions compute. No condition. -/
import Derived.Test.YtaefoaghpehbpaaGreatDoorUz
import Derived.Test.YtaefoaghpehbpaaGreatDoorUty
import Derived.Test.YtaefoaghpehbpaaGreatDoorUmG
import Derived.Test.YtaefoaghpehbpaaGreatDoorX13
import Derived.Test.YtaefoaghpehbpaaGreatDoorX1
import Derived.Test.YtaefoaghpehbpaaGreatDoorX2
import Derived.Test.YtaefoaghpehbpaaGreatDoorX6
set_option linter.unusedSimpArgs false
set_option linter.unusedVariables false
set_option linter.defProp false
namespace Go.Proofs.YtaefoaghpehbpaaGreatDoor
open Go Go.Vm
set_option maxHeartbeats 8000000
def szWant1 (n:Int) (t:TW):Int:=szS n t.2
theorem szWant1_le (n:Int) (t:TW) (hn:0≤n):szWant1 n t≤n:=szS_le hn
theorem szWant_lens {n:Int} {l:List TW} (hn:0≤n) (h:0≤szLst szWant1 n l):∀t∈l,(t.2.length:Int)≤n:=
  szLst_le (f:=szWant1) (g:=fun t=>(t.2.length:Int)) (fun n x h0 h1=>⟨szS_len h1,szWant1_le n x h0⟩) hn h
theorem szWant_con (x0:Int) (x1:List Int) (n:Int) (hn:0≤n∧n≤1048576) (hlx:x1.length≤9223372036854775807):Con Tryz.prog 120 [.agg [V.int .i64 x0,V.sl (x1.map (V.int .i64))],.int .i64 n] [] (.int .i64 (szWant1 n (x0,x1))) []:=by
 refine v_con [.tmp 4] [] Tryz.func120 rfl rfl rfl (by simp [Tryz.ntmps120]) ?_
 intro Q0 n0 r0
 simp only [Tryz.ntmps120,envFrom,Nat.reduceAdd]
 have T:=Tys.mk (ai Ty.t3 (ai Ty.t49 Ty.t149))
 have F:=Fc.mk True.intro
 refine yR [1,2] ⟨?_⟩;refine yRc [1] ((szIntS_con n x1 hn hlx:Con _ _ _ _ (.int .i64 (szS n x1)) _)) ⟨?_⟩;refine v_seq ?_;intros;refine yR [1,10] ⟨?_⟩;refine v_condS _ rfl ?_ ?_
 ·intro hc0
  refine yR [4] ⟨?_⟩;refine zr ⟨?_⟩
  exact ret_pure rfl (by rw [show szWant1 n (x0,x1)=-1 from szS_neg hc0]) (.inl rfl)
 ·intro hc0
  refine zn [1] ⟨?_⟩;refine yR [4] ⟨?_⟩;refine zr ⟨?_⟩
  exact ret_pure rfl rfl (.inl rfl)
theorem szWantS_con (n:Int) (ll:List TW) (hn:0≤n∧n≤1048576) (hl:ll.length≤9223372036854775807) (hls:∀t∈ll,t.2.length≤9223372036854775807):Con Tryz.prog 54 [.sl (ll.map (fun t:TW=>V.agg [V.int .i64 t.1,V.sl (t.2.map (V.int .i64))])),.int .i64 n] [] (.int .i64 (if n - ll.length < 0 then -1 else szLst szWant1 (n - ll.length) ll)) []:=by
 refine v_con [.tmp 4] [] Tryz.func54 rfl rfl rfl (by simp [Tryz.ntmps54]) ?_
 intro Q0 n0 r0
 simp only [Tryz.ntmps54,envFrom,Nat.reduceAdd]
 have T:=Tys.mk (ai Ty.t3 (ai Ty.t27 (ai Ty.t49 Ty.t149)))
 have F:=Fc.mk True.intro
 refine yR [0,1] ⟨?_⟩;refine yR [0,1] ⟨?_⟩;refine v_seq ?_;intros;refine yR [0,1,11] ⟨?_⟩;refine v_condS _ rfl ?_ ?_
 ·intro hc0
  refine yR [4] ⟨?_⟩;refine zr ⟨?_⟩
  exact ret_pure rfl (by rw [if_pos (by omega)]) (.inl rfl)
 ·intro hc0
  refine zn [0,1] ⟨?_⟩;refine v_seq ?_;intros;refine yR [0,1,5] ⟨?_⟩;refine v_block ?_;intros;refine v_loop (fun p=>⟨[(0,.sl (ll.map (fun t:TW=>V.agg [V.int .i64 t.1,V.sl (t.2.map (V.int .i64))]))),(1,.int .i64 p.2),(5,.int .i64 (Nat.cast p.1))],[],false,27,0⟩) (fun p=>p.1≤ll.length∧0≤p.2∧p.2≤1048576∧szLst szWant1 p.2 (ll.drop p.1)=szLst szWant1 (n - ll.length) ll) (fun p=>ll.length - p.1) (0,n - ll.length) ?_ ?_ ?_
  ·refine weak_of [0,1,5] ?_
   simp only [keep_mk,keepE_nil,keepE_cons,look_cons,look_nil,Nat.reduceEqDiff,reduceIte]
   rfl
  ·exact ⟨Nat.zero_le _,by omega,by omega,by simp⟩
  ·rintro ⟨i,m⟩ hok10 Q10 n10 e10 r10
   obtain ⟨hi1,hm0,hm1,hR⟩:=hok10
   simp only [] at hi1 hm0 hm1 hR⊢
   refine v_seq ?_;intros;refine yR [0,1,5,15] ⟨?_⟩;refine v_condS _ rfl ?_ ?_
   ·intro hc1
    have hlt:i < ll.length:=by omega
    obtain ⟨⟨x0,x1⟩,hx⟩:∃x:TW,ll[i]? =some x:=⟨ll[i]'(by omega),List.getElem?_eq_getElem (by omega)⟩
    have hlx:=hls _ (List.mem_of_getElem? hx)
    simp only [] at hlx
    have hstep:szLst szWant1 m (ll.drop i)=if szWant1 m (x0,x1) < 0 then -1 else szLst szWant1 (szWant1 m (x0,x1)) (ll.drop (i+1)):=by rw [getElem_drop_cons hx,szLst]
    have hzle:=szWant1_le m (x0,x1) hm0
    refine zn [0,1,5] ⟨?_⟩;refine v_seq ?_;intros;refine v_block ?_;intros
    have F:=Fc.mk (gdm hx)
    refine yRc [0,1,5] (szWant_con x0 x1 m ⟨hm0,hm1⟩ hlx) ⟨?_⟩;refine yR [0,1,5,25] ⟨?_⟩;refine v_condS _ rfl ?_ ?_
    ·intro hc2
     refine yR [4] ⟨?_⟩;refine zr ⟨?_⟩
     exact ret_pure rfl (by rw [if_neg (by omega),←hR,hstep,if_pos hc2]) (.inl rfl)
    ·intro hc2
     refine zn [0,1,5] ⟨?_⟩;refine yV ⟨?_⟩;refine n10 _ (i+1,szWant1 m (x0,x1)) ?_ ?_ ?_
     ·refine weak_of [0,1,5] ?_
      simp only [keep_mk,keepE_nil,keepE_cons,look_cons,look_nil,Nat.reduceEqDiff,reduceIte]
      rfl
     ·exact ⟨by simp only [];omega,by simp only [];omega,by simp only [];omega,by simp only [];rw [←hR,hstep,if_neg (by omega)]⟩
     ·show _ < _;simp only [];omega
   ·intro hc1
    refine zn [1] ⟨?_⟩;refine yR [4] ⟨?_⟩;refine zr ⟨?_⟩
    exact ret_pure rfl (by rw [if_neg (by omega),←hR,List.drop_of_length_le (by omega)];rfl) (.inl rfl)
theorem toWant_con (x0:Int) (x1:List Int) (hlx:x1.length≤1048576):Con Tryz.prog 128 [.agg [V.int .i64 x0,V.sl (x1.map (V.int .i64))]] [] (.agg [V.int .i64 x0,.ref 0]) [.arr (x1.map (V.int .i64)) .flat]:=by
 refine v_con [.cell 2 95] [] Tryz.func128 rfl rfl rfl (by simp [Tryz.ntmps128]) ?_
 intro Q0 n0 r0
 simp only [Tryz.ntmps128,envFrom,Nat.reduceAdd]
 have T:=Tys.mk (ai Ty.t3 (ai Ty.t49 (ai Ty.t95 Ty.t149)))
 have F:=Fc.mk True.intro
 refine yR [1,2] ⟨?_⟩;refine yR [1,2,3] ⟨?_⟩;refine yR [1,2,3] ⟨?_⟩;refine yRc [2,3] (toIntS_con x1 hlx) ⟨?_⟩;refine yR [2] ⟨?_⟩;refine zq1 ⟨?_⟩
 exact ret_gen [5] rfl rfl (by decide) rfl (by simp) (by simp [Blk.kindIs]) rfl
theorem toWantS_con (l:List TW) (hl:l.length≤1048576) (hls:∀t∈l,t.2.length≤1048576):Con Tryz.prog 62 [.sl (l.map (fun t:TW=>V.agg [V.int .i64 t.1,V.sl (t.2.map (V.int .i64))]))] [] (.ref 0) [.arr (l.map (fun t:TW=>V.agg [V.int .i64 t.1,V.sl (t.2.map (V.int .i64))])) (fillK l.length)]:=by
 refine v_con [.tmp 2] [] Tryz.func62 rfl rfl rfl (by simp [Tryz.ntmps62]) ?_
 intro Q0 n0 r0
 simp only [Tryz.ntmps62,envFrom,Nat.reduceAdd]
 have T:=Tys.mk (ai Ty.t3 (ai Ty.t27 (ai Ty.t40 (ai Ty.t49 (ai Ty.t95 Ty.t149)))))
 have F:=Fc.mk True.intro
 refine yR [0] ⟨?_⟩;refine yR [0,3] ⟨?_⟩;refine v_seq ?_;intros;refine yR [0,3,4] ⟨?_⟩;refine v_block ?_;intros;refine v_loop (fun i=>⟨[(0,.sl (l.map (fun t:TW=>V.agg [V.int .i64 t.1,V.sl (t.2.map (V.int .i64))]))),(3,.ref 0),(4,.int .i64 (Nat.cast i))],[.arr (fillTo (fun t:TW=>V.agg [V.int .i64 t.1,V.sl (t.2.map (V.int .i64))]) (V.agg [V.int .i64 0,V.sl []]) l i) (fillK i)],false,23,0⟩) (fun i=>i≤l.length) (fun i=>l.length - i) 0 ?_ ?_ ?_
 ·refine weak_bothS [0,3,4] [1] ⟨?_⟩
  rw [fill_zero];rfl
 ·exact Nat.zero_le _
 ·rintro i hok6 Q6 n6 e6 r6
  have hi1:i≤l.length:=hok6
  refine v_seq ?_;intros;refine yR [0,3,4,11] ⟨?_⟩;refine v_condS _ rfl ?_ ?_
  ·intro hc0
   have hlt:i < l.length:=by omega
   obtain ⟨⟨x0,x1⟩,hx⟩:∃x:TW,l[i]? =some x:=⟨l[i]'(by omega),List.getElem?_eq_getElem (by omega)⟩
   have hlx:=hls _ (List.mem_of_getElem? hx)
   simp only [] at hlx
   refine zn [0,3,4] ⟨?_⟩;refine v_seq ?_;intros;refine v_block ?_;intros
   have F:=Fc.mk (ai (gdm hx) (ai (fun f z=>fill_len (f:=f) (z:=z) hi1) (ai (fun f z=>fill_get (f:=f) (z:=z) hlt) (fun f z=>fill_set (f:=f) (z:=z) hx))))
   refine yQc [0,3,4] (toWant_con x0 x1 hlx) ⟨?_⟩;refine yV ⟨?_⟩;refine n6 _ (i+1) ?_ ?_ ?_
   ·refine weak_bothS [0,3,4] [0] ⟨?_⟩
    rfl
   ·exact hlt
   ·show _ < _;omega
  ·intro hc0
   refine zn [3] ⟨?_⟩;refine yR [2] ⟨?_⟩;refine zr ⟨?_⟩
   have hend:l.length=i:=by omega
   rw [←fill_end (f:=(fun t:TW=>V.agg [V.int .i64 t.1,V.sl (t.2.map (V.int .i64))])) (z:=(V.agg [V.int .i64 0,V.sl []])) (show l.length≤i by omega),hend]
   exact ret_ref rfl (fillK_or _)
theorem eqWant_con (x0:Int) (x1:List Int) (y0:Int) (y1:List Int) (hlx:x1.length≤1048576):Con Tryz.prog 144 [.agg [V.int .i64 x0,V.sl (x1.map (V.int .i64))],.agg [V.int .i64 y0,V.sl (y1.map (V.int .i64))]] [] (.bool (decide ((x0,x1)=(y0,y1)))) []:=by
 refine v_con [.tmp 4] [] Tryz.func144 rfl rfl rfl (by simp [Tryz.ntmps144]) ?_
 intro Q0 n0 r0
 simp only [Tryz.ntmps144,envFrom,Nat.reduceAdd]
 have T:=Tys.mk (ai Ty.t3 (ai Ty.t4 (ai Ty.t49 Ty.t95)))
 have F:=Fc.mk True.intro
 refine yR [2,3] ⟨?_⟩;refine v_seq ?_;intros;refine yR [2,3,9] ⟨?_⟩;refine v_condS _ rfl ?_ ?_
 ·intro hc0
  refine yR [4] ⟨?_⟩;refine zr ⟨?_⟩
  exact ret_pure rfl (by rw [decide_eq_false (by intro h;simp only [Prod.mk.injEq] at h;exact hc0 h.1)]) (.inl rfl)
 ·intro hc0
  refine zn [2,3] ⟨?_⟩;refine v_seq ?_;intros;refine yRc [15] (eqIntS_con x1 y1 hlx) ⟨?_⟩;refine v_condS _ rfl ?_ ?_
  ·intro hc1
   refine yR [4] ⟨?_⟩;refine zr ⟨?_⟩
   exact ret_pure rfl (by rw [decide_eq_false (by intro h;simp only [Prod.mk.injEq] at h;(try simp at hc1);exact hc1 h.2)]) (.inl rfl)
  ·intro hc1
   refine zn [] ⟨?_⟩;refine yR [4] ⟨?_⟩;refine zr ⟨?_⟩
   exact ret_pure rfl (by rw [decide_eq_true (by (try simp at hc1);rw [hc0,hc1])]) (.inl rfl)
theorem eqWantS_con (a b:List TW) (ha:a.length≤1048576) (has:∀t∈a,t.2.length≤1048576):Con Tryz.prog 73 [.sl (a.map (fun t:TW=>V.agg [V.int .i64 t.1,V.sl (t.2.map (V.int .i64))])),.sl (b.map (fun t:TW=>V.agg [V.int .i64 t.1,V.sl (t.2.map (V.int .i64))]))] [] (.bool (decide (a=b))) []:=by
 refine v_con [.tmp 4] [] Tryz.func73 rfl rfl rfl (by simp [Tryz.ntmps73]) ?_
 intro Q0 n0 r0
 simp only [Tryz.ntmps73,envFrom,Nat.reduceAdd]
 have T:=Tys.mk (ai Ty.t3 (ai Ty.t4 (ai Ty.t40 (ai Ty.t49 Ty.t95))))
 have F:=Fc.mk True.intro
 refine yR [0,1] ⟨?_⟩;refine v_seq ?_;intros;refine yR [0,1,10] ⟨?_⟩;refine v_condS _ rfl ?_ ?_
 ·intro hc0
  refine yR [4] ⟨?_⟩;refine zr ⟨?_⟩
  exact ret_pure rfl (by rw [decide_eq_false (fun h=>by subst h;simp at hc0)]) (.inl rfl)
 ·intro hc0
  have hab:a.length=b.length:=by omega
  refine zn [0,1] ⟨?_⟩;refine v_seq ?_;intros;refine yR [0,1,5] ⟨?_⟩;refine v_block ?_;intros;refine v_loop (fun i=>⟨[(0,.sl (a.map (fun t:TW=>V.agg [V.int .i64 t.1,V.sl (t.2.map (V.int .i64))]))),(1,.sl (b.map (fun t:TW=>V.agg [V.int .i64 t.1,V.sl (t.2.map (V.int .i64))]))),(5,.int .i64 (Nat.cast i))],[],false,27,0⟩) (fun i=>i≤a.length∧((a=b)↔(a.drop i=b.drop i))) (fun i=>a.length - i) 0 ?_ ?_ ?_
  ·refine weak_of [0,1,5] ?_
   simp only [keep_mk,keepE_nil,keepE_cons,look_cons,look_nil,Nat.reduceEqDiff,reduceIte]
   rfl
  ·exact ⟨Nat.zero_le _,by simp⟩
  ·rintro i hok9 Q9 n9 e9 r9
   obtain ⟨hi1,hR⟩:=hok9
   refine v_seq ?_;intros;refine yR [0,1,5,14] ⟨?_⟩;refine v_condS _ rfl ?_ ?_
   ·intro hc1
    have hlt:i < a.length:=by omega
    obtain ⟨⟨x0,x1⟩,hx⟩:∃x:TW,a[i]? =some x:=⟨a[i]'(by omega),List.getElem?_eq_getElem (by omega)⟩
    obtain ⟨⟨y0,y1⟩,hy⟩:∃x:TW,b[i]? =some x:=⟨b[i]'(by omega),List.getElem?_eq_getElem (by omega)⟩
    have hstep:=eq_drop hab hx hy
    have hlx:=has _ (List.mem_of_getElem? hx)
    simp only [] at hlx
    refine zn [0,1,5] ⟨?_⟩;refine v_seq ?_;intros;refine v_block ?_;intros;refine v_seq ?_;intro Q15 n15 e15 r15;refine v_draw (by kernel_rfl) ?_;intro K16 q16 k16
    show aAny _ _ _ _ 10 (Array.replicate 10 false) _
    have F:=Fc.mk (ai (gdm hx) (gdm hy))
    refine zdMove q16 true 0 17 ?_;refine zdMove q16 true 1 18 ?_;refine zdIndexAddr q16 true 2 19 ?_;refine zdLoad q16 true 3 20 ?_;refine zdMove q16 true 4 21 ?_;refine zdMove q16 true 5 22 ?_;refine zdIndexAddr q16 true 6 23 ?_;refine zdLoad q16 true 7 24 ?_;refine zoc 8 (eqWant_con x0 x1 y0 y1 hlx) ⟨?_⟩;refine zdUnOp q16 true 9 26 ?_;refine aAny_done (by kernel_rfl) ?_;refine k16 _ ?_;refine n15 _ _ (weak_keep [0,1,5,26] _) ?_;refine zk ⟨?_⟩;refine v_condS _ rfl ?_ ?_
    ·intro hc2
     refine yR [4] ⟨?_⟩;refine zr ⟨?_⟩
     exact ret_pure rfl (by rw [decide_eq_false (fun h=>hc2 (hstep.1 (hR.1 h)).1)]) (.inl rfl)
    ·intro hc2
     refine zn [0,1,5] ⟨?_⟩;refine yV ⟨?_⟩;refine n9 _ (i+1) ?_ ?_ ?_
     ·refine weak_of [0,1,5] ?_
      simp only [keep_mk,keepE_nil,keepE_cons,look_cons,look_nil,Nat.reduceEqDiff,reduceIte]
      rfl
     ·exact ⟨by omega,hR.trans (hstep.trans ⟨fun h=>h.2,fun h=>⟨hc2,h⟩⟩)⟩
     ·show _ < _;omega
   ·intro hc1
    refine zn [] ⟨?_⟩;refine yR [4] ⟨?_⟩;refine zr ⟨?_⟩
    exact ret_pure rfl (by rw [decide_eq_true (hR.2 (by rw [List.drop_of_length_le (by omega),List.drop_of_length_le (by omega)]))]) (.inl rfl)
theorem indexFuncIncident_con (l:List TI) (g:Nat) (caps:List V) (p:TI→Bool) (hl:l.length≤1048576) (hc:Caps caps) (hg:∀x0 x1 x2 x3,(x0,x1,x2,x3)∈l→Con Tryz.prog g (V.agg [V.int .i64 x0,V.int .i64 x1,V.bool x2,V.sl (x3.map V.str)]::caps) [] (.bool (p (x0,x1,x2,x3))) []):Con Tryz.prog 173 [.sl (l.map (fun t:TI=>V.agg [V.int .i64 t.1,V.int .i64 t.2.1,V.bool t.2.2.1,V.sl (t.2.2.2.map V.str)])),.fn g caps] [] (.int .i64 (firstP p 0 l)) []:=by
 refine v_con [.tmp 4] [] Tryz.func173 rfl rfl rfl (by simp [Tryz.ntmps173]) ?_
 intro Q0 n0 r0
 simp only [Tryz.ntmps173,envFrom,Nat.reduceAdd]
 have T:=Tys.mk (ai Ty.t3 (ai Ty.t4 (ai Ty.t9 (ai Ty.t39 (ai Ty.t47 Ty.t78)))))
 have F:=Fc.mk True.intro
 refine yR [0,1] ⟨?_⟩;refine v_seq ?_;intros;refine yR [0,1,7,8] ⟨?_⟩;refine v_block ?_;intros;refine v_loop (fun i=>⟨[(0,.sl (l.map (fun t:TI=>V.agg [V.int .i64 t.1,V.int .i64 t.2.1,V.bool t.2.2.1,V.sl (t.2.2.2.map V.str)]))),(1,.fn g caps),(7,.int .i64 l.length),(8,.int .i64 (Nat.cast i))],[],false,19,0⟩) (fun i=>i≤l.length∧firstP p i (l.drop i)=firstP p 0 l) (fun i=>l.length - i) 0 ?_ ?_ ?_
 ·refine weak_of [0,1,7,8] ?_
  simp only [keep_mk,keepE_nil,keepE_cons,look_cons,look_nil,Nat.reduceEqDiff,reduceIte]
  rfl
 ·exact ⟨Nat.zero_le _,rfl⟩
 ·rintro i hok5 Q5 n5 e5 r5
  obtain ⟨hi1,hR⟩:=hok5
  refine yR [0,1,7,8,9] ⟨?_⟩;refine v_seq ?_;intros;refine v_condS _ rfl ?_ ?_
  ·intro hc0
   have hlt:i < l.length:=by omega
   obtain ⟨⟨x0,x1,x2,x3⟩,hx⟩:∃x:TI,l[i]? =some x:=⟨l[i]'(by omega),List.getElem?_eq_getElem (by omega)⟩
   have hst:=first_step (p:=p) hx
   refine zn [0,1,7,8] ⟨?_⟩;refine v_seq ?_;intros;refine v_block ?_;intros
   have F:=Fc.mk (gdm hx)
   refine yR [0,1,5,7,8] ⟨?_⟩;refine v_seqR [0,1,5,7,8,16] ?_;intro K12 k12;refine zq4 ⟨?_⟩;refine zMove ⟨?_⟩;refine zIndexAddr ⟨?_⟩;refine zLoad ⟨?_⟩;refine zcc (hg x0 x1 x2 x3 (List.mem_of_getElem? hx)) ⟨?_⟩;refine k12 _ ?_;refine zk ⟨?_⟩;refine v_condS _ rfl ?_ ?_
   ·intro hc1
    refine yR [4] ⟨?_⟩;refine zr ⟨?_⟩
    exact ret_pure rfl (by rw [←hR,hst,if_pos hc1]) (.inl rfl)
   ·intro hc1
    refine zn [0,1,7,8] ⟨?_⟩;refine yV ⟨?_⟩;refine n5 _ (i+1) ?_ ?_ ?_
    ·refine weak_bothC [0,1,7,8] [] ⟨?_⟩
     rfl
    ·exact ⟨by omega,by rw [←hR,hst,if_neg (by simp [hc1])]⟩
    ·show _ < _;omega
  ·intro hc0
   refine zn [] ⟨?_⟩;refine yR [4] ⟨?_⟩;refine zr ⟨?_⟩
   exact ret_pure rfl (by rw [←hR,first_end (by omega)]) (.inl rfl)
end Go.Proofs.YtaefoaghpehbpaaGreatDoor
