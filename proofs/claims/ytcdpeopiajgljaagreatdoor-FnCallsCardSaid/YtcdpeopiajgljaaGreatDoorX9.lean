/- What functions compute. No condition. -/
import Derived.Test.YtcdpeopiajgljaaGreatDoorUz
import Derived.Test.YtcdpeopiajgljaaGreatDoorUty
import Derived.Test.YtcdpeopiajgljaaGreatDoorUmG
import Derived.Test.YtcdpeopiajgljaaGreatDoorX6
set_option linter.unusedSimpArgs false
set_option linter.unusedVariables false
set_option linter.defProp false
namespace Go.Proofs.YtcdpeopiajgljaaGreatDoor
open Go Go.Vm
set_option maxHeartbeats 8000000
theorem weak_freezeF {m:Nat} {s:St} (t i:Nat) (cs:List V) (ht:s.get t=.ptr i 0 0) (hO:s.O[i]? =some (.box (.agg cs) .flat)):Weak m s {s with env:=(t,.pv [.agg cs] 0 0)::s.env,O:=s.O.set i .dead}:=by
  intro cx a w μ ow hmu h
  have hli:i < s.O.length:=(List.getElem?_eq_some_iff.1 hO).1
  refine ⟨μ,dropOw ow i,h.dfr,h.sz,fun t2=> ?_,fun j bk e=> ?_,fun j hj=>h.dom j (by rwa [List.length_set] at hj),fun b hb=>h.owl b (dropOw_ne hb),fun b hb=>h.own b (dropOw_ne hb),h.frm,h.mu⟩
  · obtain ⟨bl,r1,r2⟩:=h.env t2
    show ∃bl,Rep w μ (Vm.look t2 ((t,V.pv [.agg cs] 0 0)::s.env)) _ bl∧_
    rw [look_cons]
    by_cases q:t2=t
    · subst q
      rw [if_pos rfl]
      rw [ht] at r1
      have hrow:RowOK cx w μ ow s.vw i [.agg cs] .flat:=h.blk i _ hO
      obtain ⟨l,h1,h2,h3⟩:=hrow
      generalize a.tmps.getD t2 undef=x at r1⊢
      cases r1 with
      | ptr _ _ _ l' hl hi=>
        rw [hl] at h1
        obtain rfl:=Option.some.inj h1
        rcases h3 with ⟨_,h3⟩ | ⟨h3,h4,bl,h5,h6,h7⟩
        · cases h3
        · have hb0:bl=[]:=h6
          subst hb0
          obtain ⟨vs,c1,c2,c3⟩:=h5.rowOf
          have hcl:=h5.each _ (List.mem_cons_self ..)
          have c1':RepL w M0 cs vs []:=by
            have q9:RepL w (Kd.flat.mu μ) cs vs []:=by simpa [V.cells] using c1
            exact q9
          have hpv:=Rep.pv (w:=w) (μ:=μ) [.agg cs] 0 0 l'.b l'.off l'.sz vs [] (by simp) h5.sz (by
            intro y hy;simp at hy;subst hy;exact hcl) (by simpa [V.cells] using c1') c2 c3
          refine ⟨_,hpv,fun b hb=> ?_⟩
          rw [List.mem_singleton] at hb
          subst hb
          exact ⟨.inl (dropOw_in h4),.inr (h.own _ (by rw [h4];simp))⟩
    · rw [if_neg q]
      exact ⟨bl,r1,fun b hb=>vok_drop i (r2 b hb)⟩
  · have e2:(s.O.set i .dead)[j]? =some bk:=e
    by_cases q:j=i
    · subst q
      rw [List.getElem?_set_self hli] at e2
      simp only [Option.some.injEq] at e2
      subst e2
      trivial
    · rw [List.getElem?_set_ne (fun z=>q z.symm)] at e2
      have:=h.blk j bk e2
      cases bk with
      | dead=>trivial
      | arr ys k2=>exact row_drop q this
      | box y k2=>exact row_drop q this
end Go.Proofs.YtcdpeopiajgljaaGreatDoor
