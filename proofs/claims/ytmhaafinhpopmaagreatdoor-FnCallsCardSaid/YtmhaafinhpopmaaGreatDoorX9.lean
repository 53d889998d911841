/- What functions compute. No condition. -/
import Derived.Test.YtmhaafinhpopmaaGreatDoorX6
import Derived.Test.YtmhaafinhpopmaaGreatDoorX1
set_option linter.unusedSimpArgs false
set_option linter.unusedVariables false
set_option linter.defProp false
namespace Go.Proofs.YtmhaafinhpopmaaGreatDoor
open Go Go.Vm
set_option maxHeartbeats 8000000
theorem weak_freezeF {m:Nat} {s:St} (t i:Nat) (cs:List V) (ht:s.get t=.ptr i 0 0) (hO:s.O[i]? =some (.box (.agg cs) .flat)):Weak m s {s with env:=(t,.pv [.agg cs] 0 0)::s.env,O:=s.O.set i .dead}:=by
  intro cx a w μ ow hmu h;have hli:i < s.O.length:=(qlt.1 hO).1;refine ⟨μ,dropOw ow i,h.dfr,h.sz,fun t2=> ?_,fun j bk e=> ?_,fun j hj=>h.dom j (by rwa [ql6] at hj),fun b hb=>h.owl b (dropOw_ne hb),fun b hb=>h.own b (dropOw_ne hb),h.frm,h.mu⟩
  · obtain ⟨bl,r1,r2⟩:=h.env t2
    show ∃bl,Rep w μ (Vm.look t2 ((t,V.pv [.agg cs] 0 0)::s.env)) _ bl∧_;rw [look_cons]
    by_cases q:t2=t
    · subst q
      rw [if_pos rfl];rw [ht] at r1;have hrow:RowOK cx w μ ow s.vw i [.agg cs] .flat:=h.blk i _ hO;obtain ⟨l,h1,h2,h3⟩:=hrow;generalize a.tmps.getD t2 undef=x at r1⊢;cases r1 with
      | ptr _ _ _ l' hl hi=>
        rw [hl] at h1;obtain rfl:=Option.some.inj h1;rcases h3 with ⟨_,h3⟩ | ⟨h3,h4,bl,h5,h6,h7⟩
        · cases h3
        · have hb0:bl=[]:=h6
          subst hb0;obtain ⟨vs,c1,c2,c3⟩:=h5.rowOf;have hcl:=h5.each _ (qle ..);have c1':RepL w M0 cs vs []:=by
            have q9:RepL w (Kd.flat.mu μ) cs vs []:=by simpa [V.cells] using c1
            exact q9
          have hpv:=Rep.pv (w:=w) (μ:=μ) [.agg cs] 0 0 l'.b l'.off l'.sz vs [] (by simp) h5.sz (by
            intro y hy;simp at hy;subst hy;exact hcl) (by simpa [V.cells] using c1') c2 c3
          refine ⟨_,hpv,fun b hb=> ?_⟩;rw [qlq] at hb;subst hb;exact ⟨.inl (dropOw_in h4),.inr (h.own _ (by rw [h4];simp))⟩
    · rw [if_neg q]
      exact ⟨bl,r1,fun b hb=>vok_drop i (r2 b hb)⟩
  · have e2:(s.O.set i .dead)[j]? =some bk:=e
    by_cases q:j=i
    · subst q
      rw [List.getElem?_set_self hli] at e2;simp only [Option.some.injEq] at e2;subst e2;trivial
    · rw [List.getElem?_set_ne (fun z=>q z.symm)] at e2
      have:=h.blk j bk e2;cases bk with
      | dead=>trivial
      | arr ys k2=>exact row_drop q this
      | box y k2=>exact row_drop q this
      | hid j n=>exact this
theorem pIn_con (l:List Int) (x:Int) (hl:l.length≤1048576):Con Tryz.prog 15 [.sl (l.map (V.int .i64)),.int .i64 x] [] (.bool (decide (x∈l))) []:=by
 refine v_con [.tmp 4] [] Tryz.func15 rfl rfl rfl (by simp [Tryz.ntmps15]) ?_;intro Q0 n0 r0;simp only [Tryz.ntmps15,envFrom,Nat.reduceAdd];have T:=Tys.mk (ai Ty.t3 Ty.t35);have F:=Fc.mk True.intro;refine yR [0,1] ⟨?_⟩;refine v_seq ?_;intros;refine yR [1,7,8,9] ⟨?_⟩;refine v_block ?_;intros;refine v_loop (fun i=>⟨[(1,.int .i64 x),(7,.sl (l.map (V.int .i64))),(8,.int .i64 l.length),(9,.int .i64 (Nat.cast i))],[],false,17,0⟩) (fun i=>i≤l.length∧(x∈l.drop i↔x∈l)) (fun i=>l.length - i) 0 ?_ ?_ ?_
 ·refine weak_of [1,7,8,9] ?_;simp only [keep_mk,keepE_nil,keepE_cons,look_cons,look_nil,Nat.reduceEqDiff,reduceIte];rfl
 ·exact ⟨qlo _,Iff.rfl⟩
 ·rintro i hok5 Q5 n5 e5 r5;obtain ⟨hi1,hR⟩:=hok5;refine yR [1,7,8,9,10] ⟨?_⟩;refine v_seq ?_;intros;refine v_condS _ rfl ?_ ?_
  ·intro hc0;have hlt:i < l.length:=by omega
   obtain ⟨y,hy⟩:∃y,l[i]? =some y:=⟨l[i],qla hlt⟩;have hst:x∈l.drop i↔(x=y∨x∈l.drop (i+1)):=by rw [getElem_drop_cons hy,ql4]
   refine zn [1,7,8,9] ⟨?_⟩;refine v_seq ?_;intros;refine v_block ?_;intros;have F:=Fc.mk (gdm hy);refine yR [1,6,7,8,9] ⟨?_⟩;refine yR [1,7,8,9,15] ⟨?_⟩;refine v_condS _ rfl ?_ ?_
   ·intro hc1;refine yR [4] ⟨?_⟩;refine zr ⟨?_⟩;exact ret_pure rfl (by rw [decide_eq_true (hR.1 (hst.2 (.inl hc1.symm)))]) (.inl rfl)
   ·intro hc1;refine zn [1,7,8,9] ⟨?_⟩;refine yV ⟨?_⟩;refine n5 _ (i+1) ?_ ?_ ?_
    ·refine weak_of [1,7,8,9] ?_;simp only [keep_mk,keepE_nil,keepE_cons,look_cons,look_nil,Nat.reduceEqDiff,reduceIte];rfl
    ·exact ⟨by omega,hR.symm.trans (hst.trans ⟨fun h=>h.elim (fun q=>absurd q.symm hc1) id,.inr⟩) |>.symm⟩
    ·show _ < _;omega
  ·intro hc0;refine zn [] ⟨?_⟩;refine yR [4] ⟨?_⟩;refine zr ⟨?_⟩;exact ret_pure rfl (by rw [decide_eq_false (fun h=>by have:=hR.2 h;rw [List.drop_of_length_le (by omega)] at this;cases this)]) (.inl rfl)
end Go.Proofs.YtmhaafinhpopmaaGreatDoor
