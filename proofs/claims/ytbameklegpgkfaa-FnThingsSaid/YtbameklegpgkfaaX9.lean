/- What functions compute. No condition. -/
import Derived.Test.YtbameklegpgkfaaUty
import Derived.Test.YtbameklegpgkfaaUmG
import Derived.Test.YtbameklegpgkfaaX1
import Derived.Test.YtbameklegpgkfaaX5
set_option linter.unusedSimpArgs false
set_option linter.unusedVariables false
set_option linter.defProp false
namespace Go.Proofs.Ytbameklegpgkfaa
open Go Go.Vm

/-- AN OWNED BOX OF PLAIN CELLS IS GIVEN UP: from here on it is only read. -/
theorem weak_freeze {m : Nat} {s : St} (t i : Nat) (cs : List V) (ht : s.get t = .ptr i 0 0) (hO : s.O[i]? = some (.box (.agg cs) .flat)) : Weak m s { s with env := (t, .pv [.agg cs] 0 0) :: s.env, O := s.O.set i .dead } := by
  intro cx a w μ ow hmu h
  have hli : i < s.O.length := (List.getElem?_eq_some_iff.1 hO).1
  refine ⟨μ, dropOw ow i, h.dfr, h.sz, fun t2 => ?_, fun j bk e => ?_, fun j hj => h.dom j (by rwa [List.length_set] at hj), fun b hb => h.owl b (dropOw_ne hb), fun b hb => h.own b (dropOw_ne hb), h.frm, h.mu⟩
  · obtain ⟨bl, r1, r2⟩ := h.env t2
    show ∃ bl, Rep w μ (Vm.look t2 ((t, V.pv [.agg cs] 0 0) :: s.env)) _ bl ∧ _
    rw [look_cons]
    by_cases q : t2 = t
    · subst q
      rw [if_pos rfl]
      rw [ht] at r1
      have hrow : RowOK cx w μ ow s.vw i [.agg cs] .flat := h.blk i _ hO
      obtain ⟨l, h1, h2, h3⟩ := hrow
      generalize a.tmps.getD t2 undef = x at r1 ⊢
      cases r1 with
      | ptr _ _ _ l' hl hi =>
        rw [hl] at h1
        obtain rfl := Option.some.inj h1
        rcases h3 with ⟨_, h3⟩ | ⟨h3, h4, bl, h5, h6, h7⟩
        · cases h3
        · have hb0 : bl = [] := h6
          subst hb0
          obtain ⟨vs, c1, c2, c3⟩ := h5.rowOf
          have hcl := h5.each _ (List.mem_cons_self ..)
          have c1' : RepL w M0 cs vs [] := by
            have q9 : RepL w (Kd.flat.mu μ) cs vs [] := by simpa [V.cells] using c1
            exact q9
          have hpv := Rep.pv (w := w) (μ := μ) [.agg cs] 0 0 l'.b l'.off l'.sz vs [] (by simp) h5.sz (by
            intro y hy; simp at hy; subst hy; exact hcl) (by simpa [V.cells] using c1') c2 c3
          refine ⟨_, hpv, fun b hb => ?_⟩
          rw [List.mem_singleton] at hb
          subst hb
          exact ⟨.inl (dropOw_in h4), .inr (h.own _ (by rw [h4]; simp))⟩
    · rw [if_neg q]
      exact ⟨bl, r1, fun b hb => vok_drop i (r2 b hb)⟩
  · have e2 : (s.O.set i .dead)[j]? = some bk := e
    by_cases q : j = i
    · subst q
      rw [List.getElem?_set_self hli] at e2
      simp only [Option.some.injEq] at e2
      subst e2
      trivial
    · rw [List.getElem?_set_ne (fun z => q z.symm)] at e2
      have := h.blk j bk e2
      cases bk with
      | dead => trivial
      | arr ys k2 => exact row_drop q this
      | box y k2 => exact row_drop q this

set_option maxRecDepth 8000 in
set_option maxHeartbeats 4000000 in
theorem drawMove_con (code : List Int) (hcode : ∀ x ∈ code, 0 ≤ x ∧ x ≤ 255) (hcl : code.length ≤ 9223372036854775807) : ConX Try.prog 10 [.sl (code.map (V.int .u8))] [] (fun r O' => ∃ (fa : ByteArray) (fl : List (ByteArray × Int × Int)) (ta : ByteArray) (tl : List (ByteArray × Int × Int)) (s : ByteArray) (n : Int), ((fa.size ≤ 9 ∧ fl.length ≤ 18 ∧ ∀ x ∈ fl, x.1.size ≤ 9) ∧ (ta.size ≤ 9 ∧ tl.length ≤ 18 ∧ ∀ x ∈ tl, x.1.size ≤ 9) ∧ s.size ≤ 9) ∧ r = .tup [.agg [.str fa, .ref 0], .agg [.str ta, .ref 1], .str s, .int .i64 n] ∧ O' = [.arr (fl.map (fun t : ByteArray × Int × Int => V.agg [V.str t.1, V.int .i64 t.2.1, V.int .i64 t.2.2])) .flat, .arr (tl.map (fun t : ByteArray × Int × Int => V.agg [V.str t.1, V.int .i64 t.2.1, V.int .i64 t.2.2])) .flat]) := by
 refine v_conX [.cell 2 29, .cell 3 29, .tmp 4, .tmp 5] [(42, [0]), (44, [0]), (45, [0, 1]), (47, [0]), (46, [0]), (43, [0, 1])] Try.func10 rfl rfl rfl (by simp [Try.ntmps10]) ?_
 intro Q0 n0 r0
 simp only [Try.ntmps10, envFrom, Nat.reduceAdd]
 have T := Tys.mk (And.intro Ty.t3 (And.intro Ty.t4 (And.intro Ty.t5 (And.intro Ty.t9 (And.intro Ty.t22 (And.intro Ty.t23 (And.intro Ty.t29 (And.intro Ty.t38 (And.intro Ty.t52 (And.intro Ty.t65 (And.intro Ty.t66 (And.intro Ty.t68 Ty.t74))))))))))))
 have F := Fc.mk True.intro
 refine v_seqR [0,2,3] ?_; intro K1 k1
 refine zAlloc ⟨?_⟩
 refine zAlloc ⟨?_⟩
 refine zAssign ⟨?_⟩
 refine zAssign ⟨?_⟩
 refine k1 _ ?_
 refine zk ⟨?_⟩
 refine v_seqR [2,3,6] ?_; intro K2 k2
 refine zMove ⟨?_⟩
 refine zBuild ⟨?_⟩
 refine zBox ⟨?_⟩
 refine zAssign ⟨?_⟩
 refine k2 _ ?_
 refine zk ⟨?_⟩
 refine v_seqR [2,3,6,7,8] ?_; intro K3 k3
 refine zMove ⟨?_⟩
 refine v_op ?_; intro K k
 simp only [zE, zM, aStepM, optable, set_some, Nat.reduceEqDiff, reduceIte, Nat.reduceLT, implies_true, forall_const, reduceCtorEq, V.ofValue, V.ofScalar, V.un, V.gd, aExec, lentIds, lendOf, ‹Tys _›.h, ‹Fc _›.h]
 repeat (refine andC ?_)
 refine aCall_lentXA (load_con code 0 0 (⟨#[112, 49]⟩ : ByteArray) (by decide) hcode hcl (by omega)) ?_
 rintro _ _ ⟨b17, l17, a17, s17, h17, k17, rfl, rfl⟩
 refine ⟨_, _, rfl, by first | exact .inr (List.all_eq_true.1 rfl) | exact .inl ⟨rfl, by simp [Blk.kindIs, fillK_fd]⟩, ?_⟩
 refine k _ ?_; clear k K
 simp only [zY, zW, set_some, Nat.reduceEqDiff, reduceIte, rho_one, rho_s, rho2_s, rho2_0, rho2_1, V.ren, V.renL, List.set_cons_zero, List.set_cons_succ, rho, Nat.reduceAdd, Nat.add_zero]
 refine zMove ⟨?_⟩
 refine zMove ⟨?_⟩
 refine zBuildSlice ⟨?_⟩
 refine v_op ?_; intro K k
 simp only [zE, zM, aStepM, optable, set_some, Nat.reduceEqDiff, reduceIte, Nat.reduceLT, implies_true, forall_const, reduceCtorEq, V.ofValue, V.ofScalar, V.un, V.gd, aExec, lentIds, lendOf, ‹Tys _›.h, ‹Fc _›.h]
 repeat (refine andC ?_)
 refine aCall_lent2XA (of_con code a17 s17 [(⟨#[112, 50]⟩ : ByteArray), (⟨#[112, 50]⟩ : ByteArray), (⟨#[112, 50]⟩ : ByteArray), (⟨#[112, 49]⟩ : ByteArray)] (by simp) hcode hcl (by omega)) ?_
 rintro _ _ ⟨v21, a21, s21, h21, k21, rfl, rfl⟩
 have hz21 : v21.size ≤ 9 := by
  simp only [List.mem_cons, List.not_mem_nil, or_false] at h21
  rcases h21 with e | e | e | e <;> (rw [e]; decide)
 refine ⟨_, _, _, rfl, by first | exact .inr (List.all_eq_true.1 rfl) | exact .inl ⟨rfl, by simp [Blk.kindIs, fillK_fd]⟩, ?_⟩
 refine k _ ?_; clear k K
 simp only [zY, zW, set_some, Nat.reduceEqDiff, reduceIte, rho_one, rho_s, rho2_s, rho2_0, rho2_1, V.ren, V.renL, List.set_cons_zero, List.set_cons_succ, rho, Nat.reduceAdd, Nat.add_zero]
 refine v_op ?_; intro K k
 simp only [zE, zM, aStepM, optable, set_some, Nat.reduceEqDiff, reduceIte, Nat.reduceLT, implies_true, forall_const, reduceCtorEq, V.ofValue, V.ofScalar, V.un, V.gd, aExec, lentIds, lendOf, ‹Tys _›.h, ‹Fc _›.h]
 repeat (refine andC ?_)
 refine aCall_lentXA (load_con code a21 s21 v21 hz21 hcode hcl (by omega)) ?_
 rintro _ _ ⟨b22, l22, a22, s22, h22, k22, rfl, rfl⟩
 refine ⟨_, _, rfl, by first | exact .inr (List.all_eq_true.1 rfl) | exact .inl ⟨rfl, by simp [Blk.kindIs, fillK_fd]⟩, ?_⟩
 refine k _ ?_; clear k K
 simp only [zY, zW, set_some, Nat.reduceEqDiff, reduceIte, rho_one, rho_s, rho2_s, rho2_0, rho2_1, V.ren, V.renL, List.set_cons_zero, List.set_cons_succ, rho, Nat.reduceAdd, Nat.add_zero]
 refine zAlloc ⟨?_⟩
 refine zAlloc ⟨?_⟩
 refine zStore ⟨?_⟩
 refine zStore ⟨?_⟩
 refine k3 _ ?_
 refine zk ⟨?_⟩
 refine v_seqR [2,3,6,7,8,9,10] ?_; intro K4 k4
 refine zMove ⟨?_⟩
 refine v_op ?_; intro K k
 simp only [zE, zM, aStepM, optable, set_some, Nat.reduceEqDiff, reduceIte, Nat.reduceLT, implies_true, forall_const, reduceCtorEq, V.ofValue, V.ofScalar, V.un, V.gd, aExec, lentIds, lendOf, ‹Tys _›.h, ‹Fc _›.h]
 repeat (refine andC ?_)
 refine aCall_lentXA (thingName_con code a22 s22 hcode hcl (by omega)) ?_
 rintro _ _ ⟨v24, a24, s24, h24, k24, rfl, rfl⟩
 refine ⟨_, _, rfl, by first | exact .inr (List.all_eq_true.1 rfl) | exact .inl ⟨rfl, by simp [Blk.kindIs, fillK_fd]⟩, ?_⟩
 refine k _ ?_; clear k K
 simp only [zY, zW, set_some, Nat.reduceEqDiff, reduceIte, rho_one, rho_s, rho2_s, rho2_0, rho2_1, V.ren, V.renL, List.set_cons_zero, List.set_cons_succ, rho, Nat.reduceAdd, Nat.add_zero]
 refine zMove ⟨?_⟩
 refine zMove ⟨?_⟩
 refine zBuildSlice ⟨?_⟩
 refine v_op ?_; intro K k
 simp only [zE, zM, aStepM, optable, set_some, Nat.reduceEqDiff, reduceIte, Nat.reduceLT, implies_true, forall_const, reduceCtorEq, V.ofValue, V.ofScalar, V.un, V.gd, aExec, lentIds, lendOf, ‹Tys _›.h, ‹Fc _›.h]
 repeat (refine andC ?_)
 refine aCall_lent2XA (among_con code a24 s24 [0, 100] (by simp) hcode hcl (by omega)) ?_
 rintro _ _ ⟨v28, a28, s28, h28, k28, rfl, rfl⟩
 refine ⟨_, _, _, rfl, by first | exact .inr (List.all_eq_true.1 rfl) | exact .inl ⟨rfl, by simp [Blk.kindIs, fillK_fd]⟩, ?_⟩
 refine k _ ?_; clear k K
 simp only [zY, zW, set_some, Nat.reduceEqDiff, reduceIte, rho_one, rho_s, rho2_s, rho2_0, rho2_1, V.ren, V.renL, List.set_cons_zero, List.set_cons_succ, rho, Nat.reduceAdd, Nat.add_zero]
 simp only [List.mem_cons, List.not_mem_nil, or_false] at h28
 refine zBuildSlice ⟨?_⟩
 refine v_op ?_; intro K k
 simp only [zE, zM, aStepM, optable, set_some, Nat.reduceEqDiff, reduceIte, Nat.reduceLT, implies_true, forall_const, reduceCtorEq, V.ofValue, V.ofScalar, V.un, V.gd, aExec, lentIds, lendOf, ‹Tys _›.h, ‹Fc _›.h]
 repeat (refine andC ?_)
 refine aCall_lent2XA (among_con code a28 s28 [1, 1, 2, 3, 99, v28] (by simp) hcode hcl (by omega)) ?_
 rintro _ _ ⟨v30, a30, s30, h30, k30, rfl, rfl⟩
 refine ⟨_, _, _, rfl, by first | exact .inr (List.all_eq_true.1 rfl) | exact .inl ⟨rfl, by simp [Blk.kindIs, fillK_fd]⟩, ?_⟩
 refine k _ ?_; clear k K
 simp only [zY, zW, set_some, Nat.reduceEqDiff, reduceIte, rho_one, rho_s, rho2_s, rho2_0, rho2_1, V.ren, V.renL, List.set_cons_zero, List.set_cons_succ, rho, Nat.reduceAdd, Nat.add_zero]
 simp only [List.mem_cons, List.not_mem_nil, or_false] at h30
 refine zAssign ⟨?_⟩
 refine zAssign ⟨?_⟩
 refine k4 _ ?_
 refine zk ⟨?_⟩
 refine v_seq ?_; intro Q5 n5 e5 r5
 refine v_seqR [2,3,6,7,8,9,10,11] ?_; intro K6 k6
 refine zFieldAddr ⟨?_⟩
 refine zLoad ⟨?_⟩
 refine zLen ⟨?_⟩
 refine zAssign ⟨?_⟩
 refine k6 _ ?_
 refine zk ⟨?_⟩
 refine v_seqR [2,3,6,7,8,9,10,11,40] ?_; intro K7 k7
 refine zMove ⟨?_⟩
 refine zBinOp ⟨?_⟩
 refine zMove ⟨?_⟩
 refine zgMove ⟨?_⟩
 refine v_opG ?_; intro K k
 apply aStep_guardX (id := 4) 2 true (hc := fun hG => one_con code a30 s30 (4) hcode hcl (by omega))
 ·exact (show 38 < 62 by decide)
 ·rfl
 ·first | rfl | (simp only [zV, guardV, Nat.reduceEqDiff, reduceIte]; done)
 ·intro hG F hF; simp only [zE, zM, aStepM, optable, set_some, Nat.reduceEqDiff, reduceIte, Nat.reduceLT, implies_true, forall_const, reduceCtorEq, V.ofValue, V.ofScalar, V.un, V.gd, aExec, lentIds, lendOf, ‹Tys _›.h, ‹Fc _›.h]; first | exact hF | exact ⟨by simpa using hG, hF⟩ | (refine ⟨?_, hF⟩; simp_all; done)
 ·exact ⟨_, true, a30, s30, trivial, by omega, rfl, rfl⟩
 ·rfl
 ·rfl
 ·exact ⟨by simp [Blk.kindIs, fillK_mix], by simp⟩
 ·exact .inl rfl
 rintro _ _ ⟨v38, a38, s38, h38, k38, rfl, rfl⟩
 refine ⟨_, rfl, ⟨rfl, rfl, by simp [Blk.kindIs, fillK_mix], .inr (List.all_eq_true.1 rfl)⟩, ?_⟩
 refine k _ ?_; clear k K
 simp only [zW, set_some, Nat.reduceEqDiff, reduceIte, List.set_cons_zero, List.set_cons_succ]
 refine zgUnOp ⟨?_⟩
 refine zPick ⟨?_⟩
 refine k7 _ ?_
 refine zk ⟨?_⟩
 refine v_condS _ rfl ?_ ?_
 ·intro hc0
  have hk0 : 0 < l17.length := by first | omega | (simp at hc0; omega)
  refine v_join (A := Int × Int × ByteArray × Int × Int) (fun j => ⟨[(2, .ptr 1 0 0), (3, .ptr 3 0 0), (6, .ptr 4 0 0), (7, .ptr 7 0 0), (8, .ptr 8 0 0), (10, .int .i64 v30), (12, .pv [V.agg [V.str j.2.2.1, V.int .i64 j.2.2.2.1, V.int .i64 j.2.2.2.2]] 0 0)], [.arr [] .flat, .box (.agg [.str .empty, .ref 0]) .mix, .arr [] .flat, .box (.agg [.str .empty, .ref 2]) .mix, .box (.agg [.sl (code.map (V.int .u8)), .int .i64 j.1, .int .u64 j.2.1]) .shal, .arr (l17.map (fun t : ByteArray × Int × Int => V.agg [V.str t.1, V.int .i64 t.2.1, V.int .i64 t.2.2])) .flat, .arr (l22.map (fun t : ByteArray × Int × Int => V.agg [V.str t.1, V.int .i64 t.2.1, V.int .i64 t.2.2])) .flat, .box (.agg [.str b17, .ref 5]) .mix, .box (.agg [.str b22, .ref 6]) .mix], false, 62, 0⟩) (fun j => (j.2.2 ∈ l17) ∧ 0 ≤ j.1 ∧ j.1 ≤ 100000) ?_ ?_
  ·intro Q9 n9 e9 r9
   refine v_draw (by kernel_rfl) ?_; intro K10 q10 k10
   show aAny _ _ _ _ 9 (Array.replicate 9 false) _
   refine zdFieldAddr q10 false 0 41 ?_
   refine zdMove q10 true 2 43 ?_
   refine zdMove q10 true 3 44 ?_
   refine aAny_three 1 4 7 rfl rfl rfl (by kernel_rfl) ?_ ?_ ?_
   ·intro K k
    skip
    simp only [zE, zL, zO, zN, aStepM, optable, set_some, Nat.reduceEqDiff, reduceIte, Nat.reduceLT, implies_true, forall_const, reduceCtorEq, V.ofValue, V.ofScalar, V.un, V.gd, aExec, aop, aLoad, row_mk, Blk.row, PartOK, Go.Vm.part, V.cells, V.noSl, V.noRef, Nat.reduceAdd, Nat.reduceLeDiff, Nat.reduceMul, Try.underlying23, Ty.c23, Ty.a23, Try.underlying38, Ty.c38, Ty.a38]
    repeat (refine And.intro (by first | omega | (intros; omega) | (intros; simp_all; done) | (intros; simp_all; omega)) ?_)
    refine k _ ?_; clear k K
    refine aAny_two 4 7 rfl rfl (by kernel_rfl) ?_ ?_
    ·intro K k
     skip
     simp only [zE, zM, aStepM, optable, set_some, Nat.reduceEqDiff, reduceIte, Nat.reduceLT, implies_true, forall_const, reduceCtorEq, V.ofValue, V.ofScalar, V.un, V.gd, aExec, lentIds, lendOf, ‹Tys _›.h, ‹Fc _›.h]
     repeat (refine andC ?_)
     refine aCall_lentXA (pick_con code a38 s38 ((l17.length : Int)) hcode hcl (by omega)) ?_
     rintro _ _ ⟨v45, a45, s45, h45, k45, rfl, rfl⟩
     obtain ⟨⟨x0, x1, x2⟩, hx⟩ : ∃ x : ByteArray × Int × Int, l17[v45.toNat]? = some x := ⟨l17[v45.toNat]'(by omega), List.getElem?_eq_getElem (by omega)⟩
     refine ⟨_, _, rfl, by first | exact .inr (List.all_eq_true.1 rfl) | exact .inl ⟨rfl, by simp [Blk.kindIs, fillK_fd]⟩, ?_⟩
     refine k _ ?_; clear k K
     simp only [zY, zW, set_some, Nat.reduceEqDiff, reduceIte, rho_one, rho_s, rho2_s, rho2_0, rho2_1, V.ren, V.renL, List.set_cons_zero, List.set_cons_succ, rho, Nat.reduceAdd, Nat.add_zero]
     have F := Fc.mk (fun f => getD_map (f := f) hx)
     refine zdIndexAddr q10 true 5 46 ?_
     refine zdLoadX q10 true 6 47 ?_
     refine zoAlloc 7 ⟨?_⟩
     refine zoStore 8 ⟨?_⟩
     refine aAny_done (by kernel_rfl) ?_
     refine k10 _ ?_
     refine n9 (a45, s45, (x0, x1, x2)) _ ?_ ?_
     ·exact ⟨List.mem_of_getElem? hx, by omega⟩
     ·refine weak_trans (weak_freeze 12 14 _ rfl rfl) ?_
      simp only [List.set_cons_succ, List.set_cons_zero]
      ·refine weak_bothN [2, 3, 6, 7, 8, 10, 12] [0, 1, 2, 3, 4, 5, 7, 9, 11] ⟨?_⟩
       rfl
    ·refine zsAlloc ⟨?_⟩
     refine aAny_only 4 rfl (by kernel_rfl) ?_; intro K k
     simp only [zE, zM, aStepM, optable, set_some, Nat.reduceEqDiff, reduceIte, Nat.reduceLT, implies_true, forall_const, reduceCtorEq, V.ofValue, V.ofScalar, V.un, V.gd, aExec, lentIds, lendOf, ‹Tys _›.h, ‹Fc _›.h]
     repeat (refine andC ?_)
     refine aCall_lentXA (pick_con code a38 s38 ((l17.length : Int)) hcode hcl (by omega)) ?_
     rintro _ _ ⟨v45, a45, s45, h45, k45, rfl, rfl⟩
     obtain ⟨⟨x0, x1, x2⟩, hx⟩ : ∃ x : ByteArray × Int × Int, l17[v45.toNat]? = some x := ⟨l17[v45.toNat]'(by omega), List.getElem?_eq_getElem (by omega)⟩
     refine ⟨_, _, rfl, by first | exact .inr (List.all_eq_true.1 rfl) | exact .inl ⟨rfl, by simp [Blk.kindIs, fillK_fd]⟩, ?_⟩
     refine k _ ?_; clear k K
     simp only [zY, zW, set_some, Nat.reduceEqDiff, reduceIte, rho_one, rho_s, rho2_s, rho2_0, rho2_1, V.ren, V.renL, List.set_cons_zero, List.set_cons_succ, rho, Nat.reduceAdd, Nat.add_zero]
     have F := Fc.mk (fun f => getD_map (f := f) hx)
     refine zdIndexAddr q10 true 5 46 ?_
     refine zdLoadX q10 true 6 47 ?_
     refine zoStore 8 ⟨?_⟩
     refine aAny_done (by kernel_rfl) ?_
     refine k10 _ ?_
     refine n9 (a45, s45, (x0, x1, x2)) _ ?_ ?_
     ·exact ⟨List.mem_of_getElem? hx, by omega⟩
     ·refine weak_trans (weak_freeze 12 14 _ rfl rfl) ?_
      simp only [List.set_cons_succ, List.set_cons_zero]
      ·refine weak_bothN [2, 3, 6, 7, 8, 10, 12] [0, 1, 2, 3, 4, 5, 7, 9, 11] ⟨?_⟩
       rfl
   ·intro K k
    skip
    simp only [zE, zM, aStepM, optable, set_some, Nat.reduceEqDiff, reduceIte, Nat.reduceLT, implies_true, forall_const, reduceCtorEq, V.ofValue, V.ofScalar, V.un, V.gd, aExec, lentIds, lendOf, ‹Tys _›.h, ‹Fc _›.h]
    repeat (refine andC ?_)
    refine aCall_lentXA (pick_con code a38 s38 ((l17.length : Int)) hcode hcl (by omega)) ?_
    rintro _ _ ⟨v45, a45, s45, h45, k45, rfl, rfl⟩
    obtain ⟨⟨x0, x1, x2⟩, hx⟩ : ∃ x : ByteArray × Int × Int, l17[v45.toNat]? = some x := ⟨l17[v45.toNat]'(by omega), List.getElem?_eq_getElem (by omega)⟩
    refine ⟨_, _, rfl, by first | exact .inr (List.all_eq_true.1 rfl) | exact .inl ⟨rfl, by simp [Blk.kindIs, fillK_fd]⟩, ?_⟩
    refine k _ ?_; clear k K
    simp only [zY, zW, set_some, Nat.reduceEqDiff, reduceIte, rho_one, rho_s, rho2_s, rho2_0, rho2_1, V.ren, V.renL, List.set_cons_zero, List.set_cons_succ, rho, Nat.reduceAdd, Nat.add_zero]
    have F := Fc.mk (fun f => getD_map (f := f) hx)
    refine zdLoadX q10 true 1 42 ?_
    refine zdIndexAddr q10 true 5 46 ?_
    refine zdLoadX q10 true 6 47 ?_
    refine zoAlloc 7 ⟨?_⟩
    refine zoStore 8 ⟨?_⟩
    refine aAny_done (by kernel_rfl) ?_
    refine k10 _ ?_
    refine n9 (a45, s45, (x0, x1, x2)) _ ?_ ?_
    ·exact ⟨List.mem_of_getElem? hx, by omega⟩
    ·refine weak_trans (weak_freeze 12 14 _ rfl rfl) ?_
     simp only [List.set_cons_succ, List.set_cons_zero]
     ·refine weak_bothN [2, 3, 6, 7, 8, 10, 12] [0, 1, 2, 3, 4, 5, 7, 9, 11] ⟨?_⟩
      rfl
   ·refine zsAlloc ⟨?_⟩
    refine aAny_two 1 4 rfl rfl (by kernel_rfl) ?_ ?_
    ·intro K k
     skip
     simp only [zE, zL, zO, zN, aStepM, optable, set_some, Nat.reduceEqDiff, reduceIte, Nat.reduceLT, implies_true, forall_const, reduceCtorEq, V.ofValue, V.ofScalar, V.un, V.gd, aExec, aop, aLoad, row_mk, Blk.row, PartOK, Go.Vm.part, V.cells, V.noSl, V.noRef, Nat.reduceAdd, Nat.reduceLeDiff, Nat.reduceMul, Try.underlying23, Ty.c23, Ty.a23, Try.underlying38, Ty.c38, Ty.a38]
     repeat (refine And.intro (by first | omega | (intros; omega) | (intros; simp_all; done) | (intros; simp_all; omega)) ?_)
     refine k _ ?_; clear k K
     refine aAny_only 4 rfl (by kernel_rfl) ?_; intro K k
     simp only [zE, zM, aStepM, optable, set_some, Nat.reduceEqDiff, reduceIte, Nat.reduceLT, implies_true, forall_const, reduceCtorEq, V.ofValue, V.ofScalar, V.un, V.gd, aExec, lentIds, lendOf, ‹Tys _›.h, ‹Fc _›.h]
     repeat (refine andC ?_)
     refine aCall_lentXA (pick_con code a38 s38 ((l17.length : Int)) hcode hcl (by omega)) ?_
     rintro _ _ ⟨v45, a45, s45, h45, k45, rfl, rfl⟩
     obtain ⟨⟨x0, x1, x2⟩, hx⟩ : ∃ x : ByteArray × Int × Int, l17[v45.toNat]? = some x := ⟨l17[v45.toNat]'(by omega), List.getElem?_eq_getElem (by omega)⟩
     refine ⟨_, _, rfl, by first | exact .inr (List.all_eq_true.1 rfl) | exact .inl ⟨rfl, by simp [Blk.kindIs, fillK_fd]⟩, ?_⟩
     refine k _ ?_; clear k K
     simp only [zY, zW, set_some, Nat.reduceEqDiff, reduceIte, rho_one, rho_s, rho2_s, rho2_0, rho2_1, V.ren, V.renL, List.set_cons_zero, List.set_cons_succ, rho, Nat.reduceAdd, Nat.add_zero]
     have F := Fc.mk (fun f => getD_map (f := f) hx)
     refine zdIndexAddr q10 true 5 46 ?_
     refine zdLoadX q10 true 6 47 ?_
     refine zoStore 8 ⟨?_⟩
     refine aAny_done (by kernel_rfl) ?_
     refine k10 _ ?_
     refine n9 (a45, s45, (x0, x1, x2)) _ ?_ ?_
     ·exact ⟨List.mem_of_getElem? hx, by omega⟩
     ·refine weak_trans (weak_freeze 12 14 _ rfl rfl) ?_
      simp only [List.set_cons_succ, List.set_cons_zero]
      ·refine weak_bothN [2, 3, 6, 7, 8, 10, 12] [0, 1, 2, 3, 4, 5, 7, 9, 11] ⟨?_⟩
       rfl
    ·intro K k
     skip
     simp only [zE, zM, aStepM, optable, set_some, Nat.reduceEqDiff, reduceIte, Nat.reduceLT, implies_true, forall_const, reduceCtorEq, V.ofValue, V.ofScalar, V.un, V.gd, aExec, lentIds, lendOf, ‹Tys _›.h, ‹Fc _›.h]
     repeat (refine andC ?_)
     refine aCall_lentXA (pick_con code a38 s38 ((l17.length : Int)) hcode hcl (by omega)) ?_
     rintro _ _ ⟨v45, a45, s45, h45, k45, rfl, rfl⟩
     obtain ⟨⟨x0, x1, x2⟩, hx⟩ : ∃ x : ByteArray × Int × Int, l17[v45.toNat]? = some x := ⟨l17[v45.toNat]'(by omega), List.getElem?_eq_getElem (by omega)⟩
     refine ⟨_, _, rfl, by first | exact .inr (List.all_eq_true.1 rfl) | exact .inl ⟨rfl, by simp [Blk.kindIs, fillK_fd]⟩, ?_⟩
     refine k _ ?_; clear k K
     simp only [zY, zW, set_some, Nat.reduceEqDiff, reduceIte, rho_one, rho_s, rho2_s, rho2_0, rho2_1, V.ren, V.renL, List.set_cons_zero, List.set_cons_succ, rho, Nat.reduceAdd, Nat.add_zero]
     have F := Fc.mk (fun f => getD_map (f := f) hx)
     refine zdLoadX q10 true 1 42 ?_
     refine zdIndexAddr q10 true 5 46 ?_
     refine zdLoadX q10 true 6 47 ?_
     refine zoStore 8 ⟨?_⟩
     refine aAny_done (by kernel_rfl) ?_
     refine k10 _ ?_
     refine n9 (a45, s45, (x0, x1, x2)) _ ?_ ?_
     ·exact ⟨List.mem_of_getElem? hx, by omega⟩
     ·refine weak_trans (weak_freeze 12 14 _ rfl rfl) ?_
      simp only [List.set_cons_succ, List.set_cons_zero]
      ·refine weak_bothN [2, 3, 6, 7, 8, 10, 12] [0, 1, 2, 3, 4, 5, 7, 9, 11] ⟨?_⟩
       rfl
  ·rintro ⟨a9, s9, x0, x1, x2⟩ hok9
   obtain ⟨hxm, ha9⟩ := hok9
   simp only [] at hxm ha9 ⊢
   refine v_seq ?_; intro Q11 n11 e11 r11
   refine v_draw (by kernel_rfl) ?_; intro K12 q12 k12
   show aAny _ _ _ _ 14 (Array.replicate 14 false) _
   have F := Fc.mk True.intro
   refine zdFieldAddr q12 false 2 50 ?_
   refine zdLoadX q12 false 3 51 ?_
   refine zdMove q12 true 4 52 ?_
   refine zdFieldAddr q12 true 5 53 ?_
   refine zdLoadX q12 true 6 54 ?_
   refine zdMove q12 true 7 55 ?_
   refine aAny_three 0 1 8 rfl rfl rfl (by kernel_rfl) ?_ ?_ ?_
   ·intro K k
    skip
    simp only [zE, zL, zO, zN, aStepM, optable, set_some, Nat.reduceEqDiff, reduceIte, Nat.reduceLT, implies_true, forall_const, reduceCtorEq, V.ofValue, V.ofScalar, V.un, V.gd, aExec, aop, aLoad, row_mk, Blk.row, PartOK, Go.Vm.part, V.cells, V.noSl, V.noRef, Nat.reduceAdd, Nat.reduceLeDiff, Nat.reduceMul, Try.underlying9, Ty.c9, Ty.a9, Try.underlying23, Ty.c23, Ty.a23, Try.underlying29, Ty.c29, Ty.a29]
    repeat (refine And.intro (by first | omega | (intros; omega) | (intros; simp_all; done) | (intros; simp_all; omega)) ?_)
    refine k _ ?_; clear k K
    refine aAny_two 1 8 rfl rfl (by kernel_rfl) ?_ ?_
    ·intro K k
     skip
     simp only [zE, zL, zO, zN, aStepM, optable, set_some, Nat.reduceEqDiff, reduceIte, Nat.reduceLT, implies_true, forall_const, reduceCtorEq, V.ofValue, V.ofScalar, V.un, V.gd, aExec, aop, aLoad, row_mk, Blk.row, PartOK, Go.Vm.part, V.cells, V.noSl, V.noRef, Nat.reduceAdd, Nat.reduceLeDiff, Nat.reduceMul, Try.underlying9, Ty.c9, Ty.a9, Try.underlying23, Ty.c23, Ty.a23, Try.underlying29, Ty.c29, Ty.a29]
     repeat (refine And.intro (by first | omega | (intros; omega) | (intros; simp_all; done) | (intros; simp_all; omega)) ?_)
     refine k _ ?_; clear k K
     refine zoBuildSlice 8 ⟨?_⟩
     refine aAny_only 9 rfl (by kernel_rfl) ?_; intro K k
     simp only [zE, zM, aStepM, optable, set_some, Nat.reduceEqDiff, reduceIte, Nat.reduceLT, implies_true, forall_const, reduceCtorEq, V.ofValue, V.ofScalar, V.un, V.gd, aExec, lentIds, lendOf, ‹Tys _›.h, ‹Fc _›.h]
     repeat (refine andC ?_)
     refine aCall_lent2XA (among_con code a9 s9 [1, x1, v30] (by simp) hcode hcl (by omega)) ?_
     rintro _ _ ⟨v57, a57, s57, h57, k57, rfl, rfl⟩
     refine ⟨_, _, _, rfl, by first | exact .inr (List.all_eq_true.1 rfl) | exact .inl ⟨rfl, by simp [Blk.kindIs, fillK_fd]⟩, ?_⟩
     refine k _ ?_; clear k K
     simp only [zY, zW, set_some, Nat.reduceEqDiff, reduceIte, rho_one, rho_s, rho2_s, rho2_0, rho2_1, V.ren, V.renL, List.set_cons_zero, List.set_cons_succ, rho, Nat.reduceAdd, Nat.add_zero]
     simp only [List.mem_cons, List.not_mem_nil, or_false] at h57
     refine zoStore 10 ⟨?_⟩
     refine zoStore 11 ⟨?_⟩
     refine zoAssign 12 ⟨?_⟩
     refine zoAssign 13 ⟨?_⟩
     refine aAny_done (by kernel_rfl) ?_
     refine k12 _ ?_
     refine n11 _ _ (weak_keep [2, 3, 4, 5] _) ?_
     refine zk ⟨?_⟩
     refine v_ret ?_
     refine r5 _ ?_
     refine r0 _ ?_
     refine zf ⟨?_⟩
     simp only [zE, zL, zO, zN, aStepM, optable, set_some, Nat.reduceEqDiff, reduceIte, Nat.reduceLT, implies_true, forall_const, reduceCtorEq, V.ofValue, V.ofScalar, V.un, V.gd, aLoad, row_mk, Blk.row, PartOK, Go.Vm.part, V.cells, V.noSl, V.noRef, Nat.reduceAdd, Nat.reduceLeDiff, Nat.reduceMul, Try.underlying9, Ty.c9, Ty.a9, Try.underlying23, Ty.c23, Ty.a23, Try.underlying29, Ty.c29, Ty.a29]
     try simp only [zE, zL, zO, zN, aStepM, optable, set_some, Nat.reduceEqDiff, reduceIte, Nat.reduceLT, implies_true, forall_const, reduceCtorEq, V.ofValue, V.ofScalar, V.un, V.gd, aLoad, row_mk, Blk.row, PartOK, Go.Vm.part, V.cells, V.noSl, V.noRef, Nat.reduceAdd, Nat.reduceLeDiff, Nat.reduceMul, Try.underlying9, Ty.c9, Ty.a9, Try.underlying23, Ty.c23, Ty.a23, Try.underlying29, Ty.c29, Ty.a29]
     refine ret_viewX ?_
     first
     |exact ⟨b17, l17, b22, l22, x0, v57, ⟨h17, h22, h17.2.2 _ hxm⟩, rfl, rfl⟩
     |exact ⟨b17, l17, b22, l22, v24, v30, ⟨h17, h22, h24⟩, rfl, rfl⟩
    ·refine zsBuildSlice ⟨?_⟩
     refine aAny_two 1 9 rfl rfl (by kernel_rfl) ?_ ?_
     ·intro K k
      skip
      simp only [zE, zL, zO, zN, aStepM, optable, set_some, Nat.reduceEqDiff, reduceIte, Nat.reduceLT, implies_true, forall_const, reduceCtorEq, V.ofValue, V.ofScalar, V.un, V.gd, aExec, aop, aLoad, row_mk, Blk.row, PartOK, Go.Vm.part, V.cells, V.noSl, V.noRef, Nat.reduceAdd, Nat.reduceLeDiff, Nat.reduceMul, Try.underlying9, Ty.c9, Ty.a9, Try.underlying23, Ty.c23, Ty.a23, Try.underlying29, Ty.c29, Ty.a29]
      repeat (refine And.intro (by first | omega | (intros; omega) | (intros; simp_all; done) | (intros; simp_all; omega)) ?_)
      refine k _ ?_; clear k K
      refine aAny_only 9 rfl (by kernel_rfl) ?_; intro K k
      simp only [zE, zM, aStepM, optable, set_some, Nat.reduceEqDiff, reduceIte, Nat.reduceLT, implies_true, forall_const, reduceCtorEq, V.ofValue, V.ofScalar, V.un, V.gd, aExec, lentIds, lendOf, ‹Tys _›.h, ‹Fc _›.h]
      repeat (refine andC ?_)
      refine aCall_lent2XA (among_con code a9 s9 [1, x1, v30] (by simp) hcode hcl (by omega)) ?_
      rintro _ _ ⟨v57, a57, s57, h57, k57, rfl, rfl⟩
      refine ⟨_, _, _, rfl, by first | exact .inr (List.all_eq_true.1 rfl) | exact .inl ⟨rfl, by simp [Blk.kindIs, fillK_fd]⟩, ?_⟩
      refine k _ ?_; clear k K
      simp only [zY, zW, set_some, Nat.reduceEqDiff, reduceIte, rho_one, rho_s, rho2_s, rho2_0, rho2_1, V.ren, V.renL, List.set_cons_zero, List.set_cons_succ, rho, Nat.reduceAdd, Nat.add_zero]
      simp only [List.mem_cons, List.not_mem_nil, or_false] at h57
      refine zoStore 10 ⟨?_⟩
      refine zoStore 11 ⟨?_⟩
      refine zoAssign 12 ⟨?_⟩
      refine zoAssign 13 ⟨?_⟩
      refine aAny_done (by kernel_rfl) ?_
      refine k12 _ ?_
      refine n11 _ _ (weak_keep [2, 3, 4, 5] _) ?_
      refine zk ⟨?_⟩
      refine v_ret ?_
      refine r5 _ ?_
      refine r0 _ ?_
      refine zf ⟨?_⟩
      simp only [zE, zL, zO, zN, aStepM, optable, set_some, Nat.reduceEqDiff, reduceIte, Nat.reduceLT, implies_true, forall_const, reduceCtorEq, V.ofValue, V.ofScalar, V.un, V.gd, aLoad, row_mk, Blk.row, PartOK, Go.Vm.part, V.cells, V.noSl, V.noRef, Nat.reduceAdd, Nat.reduceLeDiff, Nat.reduceMul, Try.underlying9, Ty.c9, Ty.a9, Try.underlying23, Ty.c23, Ty.a23, Try.underlying29, Ty.c29, Ty.a29]
      try simp only [zE, zL, zO, zN, aStepM, optable, set_some, Nat.reduceEqDiff, reduceIte, Nat.reduceLT, implies_true, forall_const, reduceCtorEq, V.ofValue, V.ofScalar, V.un, V.gd, aLoad, row_mk, Blk.row, PartOK, Go.Vm.part, V.cells, V.noSl, V.noRef, Nat.reduceAdd, Nat.reduceLeDiff, Nat.reduceMul, Try.underlying9, Ty.c9, Ty.a9, Try.underlying23, Ty.c23, Ty.a23, Try.underlying29, Ty.c29, Ty.a29]
      refine ret_viewX ?_
      first
      |exact ⟨b17, l17, b22, l22, x0, v57, ⟨h17, h22, h17.2.2 _ hxm⟩, rfl, rfl⟩
      |exact ⟨b17, l17, b22, l22, v24, v30, ⟨h17, h22, h24⟩, rfl, rfl⟩
     ·intro K k
      skip
      simp only [zE, zM, aStepM, optable, set_some, Nat.reduceEqDiff, reduceIte, Nat.reduceLT, implies_true, forall_const, reduceCtorEq, V.ofValue, V.ofScalar, V.un, V.gd, aExec, lentIds, lendOf, ‹Tys _›.h, ‹Fc _›.h]
      repeat (refine andC ?_)
      refine aCall_lent2XA (among_con code a9 s9 [1, x1, v30] (by simp) hcode hcl (by omega)) ?_
      rintro _ _ ⟨v57, a57, s57, h57, k57, rfl, rfl⟩
      refine ⟨_, _, _, rfl, by first | exact .inr (List.all_eq_true.1 rfl) | exact .inl ⟨rfl, by simp [Blk.kindIs, fillK_fd]⟩, ?_⟩
      refine k _ ?_; clear k K
      simp only [zY, zW, set_some, Nat.reduceEqDiff, reduceIte, rho_one, rho_s, rho2_s, rho2_0, rho2_1, V.ren, V.renL, List.set_cons_zero, List.set_cons_succ, rho, Nat.reduceAdd, Nat.add_zero]
      simp only [List.mem_cons, List.not_mem_nil, or_false] at h57
      refine aAny_two 1 10 rfl rfl (by kernel_rfl) ?_ ?_
      ·intro K k
       skip
       simp only [zE, zL, zO, zN, aStepM, optable, set_some, Nat.reduceEqDiff, reduceIte, Nat.reduceLT, implies_true, forall_const, reduceCtorEq, V.ofValue, V.ofScalar, V.un, V.gd, aExec, aop, aLoad, row_mk, Blk.row, PartOK, Go.Vm.part, V.cells, V.noSl, V.noRef, Nat.reduceAdd, Nat.reduceLeDiff, Nat.reduceMul, Try.underlying9, Ty.c9, Ty.a9, Try.underlying23, Ty.c23, Ty.a23, Try.underlying29, Ty.c29, Ty.a29]
       repeat (refine And.intro (by first | omega | (intros; omega) | (intros; simp_all; done) | (intros; simp_all; omega)) ?_)
       refine k _ ?_; clear k K
       refine zoStore 10 ⟨?_⟩
       refine zoStore 11 ⟨?_⟩
       refine zoAssign 12 ⟨?_⟩
       refine zoAssign 13 ⟨?_⟩
       refine aAny_done (by kernel_rfl) ?_
       refine k12 _ ?_
       refine n11 _ _ (weak_keep [2, 3, 4, 5] _) ?_
       refine zk ⟨?_⟩
       refine v_ret ?_
       refine r5 _ ?_
       refine r0 _ ?_
       refine zf ⟨?_⟩
       simp only [zE, zL, zO, zN, aStepM, optable, set_some, Nat.reduceEqDiff, reduceIte, Nat.reduceLT, implies_true, forall_const, reduceCtorEq, V.ofValue, V.ofScalar, V.un, V.gd, aLoad, row_mk, Blk.row, PartOK, Go.Vm.part, V.cells, V.noSl, V.noRef, Nat.reduceAdd, Nat.reduceLeDiff, Nat.reduceMul, Try.underlying9, Ty.c9, Ty.a9, Try.underlying23, Ty.c23, Ty.a23, Try.underlying29, Ty.c29, Ty.a29]
       try simp only [zE, zL, zO, zN, aStepM, optable, set_some, Nat.reduceEqDiff, reduceIte, Nat.reduceLT, implies_true, forall_const, reduceCtorEq, V.ofValue, V.ofScalar, V.un, V.gd, aLoad, row_mk, Blk.row, PartOK, Go.Vm.part, V.cells, V.noSl, V.noRef, Nat.reduceAdd, Nat.reduceLeDiff, Nat.reduceMul, Try.underlying9, Ty.c9, Ty.a9, Try.underlying23, Ty.c23, Ty.a23, Try.underlying29, Ty.c29, Ty.a29]
       refine ret_viewX ?_
       first
       |exact ⟨b17, l17, b22, l22, x0, v57, ⟨h17, h22, h17.2.2 _ hxm⟩, rfl, rfl⟩
       |exact ⟨b17, l17, b22, l22, v24, v30, ⟨h17, h22, h24⟩, rfl, rfl⟩
      ·refine zsStore ⟨?_⟩
       refine zdLoadX q12 true 1 49 ?_
       refine zoStore 11 ⟨?_⟩
       refine zoAssign 12 ⟨?_⟩
       refine zoAssign 13 ⟨?_⟩
       refine aAny_done (by kernel_rfl) ?_
       refine k12 _ ?_
       refine n11 _ _ (weak_keep [2, 3, 4, 5] _) ?_
       refine zk ⟨?_⟩
       refine v_ret ?_
       refine r5 _ ?_
       refine r0 _ ?_
       refine zf ⟨?_⟩
       simp only [zE, zL, zO, zN, aStepM, optable, set_some, Nat.reduceEqDiff, reduceIte, Nat.reduceLT, implies_true, forall_const, reduceCtorEq, V.ofValue, V.ofScalar, V.un, V.gd, aLoad, row_mk, Blk.row, PartOK, Go.Vm.part, V.cells, V.noSl, V.noRef, Nat.reduceAdd, Nat.reduceLeDiff, Nat.reduceMul, Try.underlying9, Ty.c9, Ty.a9, Try.underlying23, Ty.c23, Ty.a23, Try.underlying29, Ty.c29, Ty.a29]
       try simp only [zE, zL, zO, zN, aStepM, optable, set_some, Nat.reduceEqDiff, reduceIte, Nat.reduceLT, implies_true, forall_const, reduceCtorEq, V.ofValue, V.ofScalar, V.un, V.gd, aLoad, row_mk, Blk.row, PartOK, Go.Vm.part, V.cells, V.noSl, V.noRef, Nat.reduceAdd, Nat.reduceLeDiff, Nat.reduceMul, Try.underlying9, Ty.c9, Ty.a9, Try.underlying23, Ty.c23, Ty.a23, Try.underlying29, Ty.c29, Ty.a29]
       refine ret_viewX ?_
       first
       |exact ⟨b17, l17, b22, l22, x0, v57, ⟨h17, h22, h17.2.2 _ hxm⟩, rfl, rfl⟩
       |exact ⟨b17, l17, b22, l22, v24, v30, ⟨h17, h22, h24⟩, rfl, rfl⟩
   ·intro K k
    skip
    simp only [zE, zL, zO, zN, aStepM, optable, set_some, Nat.reduceEqDiff, reduceIte, Nat.reduceLT, implies_true, forall_const, reduceCtorEq, V.ofValue, V.ofScalar, V.un, V.gd, aExec, aop, aLoad, row_mk, Blk.row, PartOK, Go.Vm.part, V.cells, V.noSl, V.noRef, Nat.reduceAdd, Nat.reduceLeDiff, Nat.reduceMul, Try.underlying9, Ty.c9, Ty.a9, Try.underlying23, Ty.c23, Ty.a23, Try.underlying29, Ty.c29, Ty.a29]
    repeat (refine And.intro (by first | omega | (intros; omega) | (intros; simp_all; done) | (intros; simp_all; omega)) ?_)
    refine k _ ?_; clear k K
    refine aAny_two 0 8 rfl rfl (by kernel_rfl) ?_ ?_
    ·intro K k
     skip
     simp only [zE, zL, zO, zN, aStepM, optable, set_some, Nat.reduceEqDiff, reduceIte, Nat.reduceLT, implies_true, forall_const, reduceCtorEq, V.ofValue, V.ofScalar, V.un, V.gd, aExec, aop, aLoad, row_mk, Blk.row, PartOK, Go.Vm.part, V.cells, V.noSl, V.noRef, Nat.reduceAdd, Nat.reduceLeDiff, Nat.reduceMul, Try.underlying9, Ty.c9, Ty.a9, Try.underlying23, Ty.c23, Ty.a23, Try.underlying29, Ty.c29, Ty.a29]
     repeat (refine And.intro (by first | omega | (intros; omega) | (intros; simp_all; done) | (intros; simp_all; omega)) ?_)
     refine k _ ?_; clear k K
     refine zoBuildSlice 8 ⟨?_⟩
     refine aAny_only 9 rfl (by kernel_rfl) ?_; intro K k
     simp only [zE, zM, aStepM, optable, set_some, Nat.reduceEqDiff, reduceIte, Nat.reduceLT, implies_true, forall_const, reduceCtorEq, V.ofValue, V.ofScalar, V.un, V.gd, aExec, lentIds, lendOf, ‹Tys _›.h, ‹Fc _›.h]
     repeat (refine andC ?_)
     refine aCall_lent2XA (among_con code a9 s9 [1, x1, v30] (by simp) hcode hcl (by omega)) ?_
     rintro _ _ ⟨v57, a57, s57, h57, k57, rfl, rfl⟩
     refine ⟨_, _, _, rfl, by first | exact .inr (List.all_eq_true.1 rfl) | exact .inl ⟨rfl, by simp [Blk.kindIs, fillK_fd]⟩, ?_⟩
     refine k _ ?_; clear k K
     simp only [zY, zW, set_some, Nat.reduceEqDiff, reduceIte, rho_one, rho_s, rho2_s, rho2_0, rho2_1, V.ren, V.renL, List.set_cons_zero, List.set_cons_succ, rho, Nat.reduceAdd, Nat.add_zero]
     simp only [List.mem_cons, List.not_mem_nil, or_false] at h57
     refine zoStore 10 ⟨?_⟩
     refine zoStore 11 ⟨?_⟩
     refine zoAssign 12 ⟨?_⟩
     refine zoAssign 13 ⟨?_⟩
     refine aAny_done (by kernel_rfl) ?_
     refine k12 _ ?_
     refine n11 _ _ (weak_keep [2, 3, 4, 5] _) ?_
     refine zk ⟨?_⟩
     refine v_ret ?_
     refine r5 _ ?_
     refine r0 _ ?_
     refine zf ⟨?_⟩
     simp only [zE, zL, zO, zN, aStepM, optable, set_some, Nat.reduceEqDiff, reduceIte, Nat.reduceLT, implies_true, forall_const, reduceCtorEq, V.ofValue, V.ofScalar, V.un, V.gd, aLoad, row_mk, Blk.row, PartOK, Go.Vm.part, V.cells, V.noSl, V.noRef, Nat.reduceAdd, Nat.reduceLeDiff, Nat.reduceMul, Try.underlying9, Ty.c9, Ty.a9, Try.underlying23, Ty.c23, Ty.a23, Try.underlying29, Ty.c29, Ty.a29]
     try simp only [zE, zL, zO, zN, aStepM, optable, set_some, Nat.reduceEqDiff, reduceIte, Nat.reduceLT, implies_true, forall_const, reduceCtorEq, V.ofValue, V.ofScalar, V.un, V.gd, aLoad, row_mk, Blk.row, PartOK, Go.Vm.part, V.cells, V.noSl, V.noRef, Nat.reduceAdd, Nat.reduceLeDiff, Nat.reduceMul, Try.underlying9, Ty.c9, Ty.a9, Try.underlying23, Ty.c23, Ty.a23, Try.underlying29, Ty.c29, Ty.a29]
     refine ret_viewX ?_
     first
     |exact ⟨b17, l17, b22, l22, x0, v57, ⟨h17, h22, h17.2.2 _ hxm⟩, rfl, rfl⟩
     |exact ⟨b17, l17, b22, l22, v24, v30, ⟨h17, h22, h24⟩, rfl, rfl⟩
    ·refine zsBuildSlice ⟨?_⟩
     refine aAny_two 0 9 rfl rfl (by kernel_rfl) ?_ ?_
     ·intro K k
      skip
      simp only [zE, zL, zO, zN, aStepM, optable, set_some, Nat.reduceEqDiff, reduceIte, Nat.reduceLT, implies_true, forall_const, reduceCtorEq, V.ofValue, V.ofScalar, V.un, V.gd, aExec, aop, aLoad, row_mk, Blk.row, PartOK, Go.Vm.part, V.cells, V.noSl, V.noRef, Nat.reduceAdd, Nat.reduceLeDiff, Nat.reduceMul, Try.underlying9, Ty.c9, Ty.a9, Try.underlying23, Ty.c23, Ty.a23, Try.underlying29, Ty.c29, Ty.a29]
      repeat (refine And.intro (by first | omega | (intros; omega) | (intros; simp_all; done) | (intros; simp_all; omega)) ?_)
      refine k _ ?_; clear k K
      refine aAny_only 9 rfl (by kernel_rfl) ?_; intro K k
      simp only [zE, zM, aStepM, optable, set_some, Nat.reduceEqDiff, reduceIte, Nat.reduceLT, implies_true, forall_const, reduceCtorEq, V.ofValue, V.ofScalar, V.un, V.gd, aExec, lentIds, lendOf, ‹Tys _›.h, ‹Fc _›.h]
      repeat (refine andC ?_)
      refine aCall_lent2XA (among_con code a9 s9 [1, x1, v30] (by simp) hcode hcl (by omega)) ?_
      rintro _ _ ⟨v57, a57, s57, h57, k57, rfl, rfl⟩
      refine ⟨_, _, _, rfl, by first | exact .inr (List.all_eq_true.1 rfl) | exact .inl ⟨rfl, by simp [Blk.kindIs, fillK_fd]⟩, ?_⟩
      refine k _ ?_; clear k K
      simp only [zY, zW, set_some, Nat.reduceEqDiff, reduceIte, rho_one, rho_s, rho2_s, rho2_0, rho2_1, V.ren, V.renL, List.set_cons_zero, List.set_cons_succ, rho, Nat.reduceAdd, Nat.add_zero]
      simp only [List.mem_cons, List.not_mem_nil, or_false] at h57
      refine zoStore 10 ⟨?_⟩
      refine zoStore 11 ⟨?_⟩
      refine zoAssign 12 ⟨?_⟩
      refine zoAssign 13 ⟨?_⟩
      refine aAny_done (by kernel_rfl) ?_
      refine k12 _ ?_
      refine n11 _ _ (weak_keep [2, 3, 4, 5] _) ?_
      refine zk ⟨?_⟩
      refine v_ret ?_
      refine r5 _ ?_
      refine r0 _ ?_
      refine zf ⟨?_⟩
      simp only [zE, zL, zO, zN, aStepM, optable, set_some, Nat.reduceEqDiff, reduceIte, Nat.reduceLT, implies_true, forall_const, reduceCtorEq, V.ofValue, V.ofScalar, V.un, V.gd, aLoad, row_mk, Blk.row, PartOK, Go.Vm.part, V.cells, V.noSl, V.noRef, Nat.reduceAdd, Nat.reduceLeDiff, Nat.reduceMul, Try.underlying9, Ty.c9, Ty.a9, Try.underlying23, Ty.c23, Ty.a23, Try.underlying29, Ty.c29, Ty.a29]
      try simp only [zE, zL, zO, zN, aStepM, optable, set_some, Nat.reduceEqDiff, reduceIte, Nat.reduceLT, implies_true, forall_const, reduceCtorEq, V.ofValue, V.ofScalar, V.un, V.gd, aLoad, row_mk, Blk.row, PartOK, Go.Vm.part, V.cells, V.noSl, V.noRef, Nat.reduceAdd, Nat.reduceLeDiff, Nat.reduceMul, Try.underlying9, Ty.c9, Ty.a9, Try.underlying23, Ty.c23, Ty.a23, Try.underlying29, Ty.c29, Ty.a29]
      refine ret_viewX ?_
      first
      |exact ⟨b17, l17, b22, l22, x0, v57, ⟨h17, h22, h17.2.2 _ hxm⟩, rfl, rfl⟩
      |exact ⟨b17, l17, b22, l22, v24, v30, ⟨h17, h22, h24⟩, rfl, rfl⟩
     ·intro K k
      skip
      simp only [zE, zM, aStepM, optable, set_some, Nat.reduceEqDiff, reduceIte, Nat.reduceLT, implies_true, forall_const, reduceCtorEq, V.ofValue, V.ofScalar, V.un, V.gd, aExec, lentIds, lendOf, ‹Tys _›.h, ‹Fc _›.h]
      repeat (refine andC ?_)
      refine aCall_lent2XA (among_con code a9 s9 [1, x1, v30] (by simp) hcode hcl (by omega)) ?_
      rintro _ _ ⟨v57, a57, s57, h57, k57, rfl, rfl⟩
      refine ⟨_, _, _, rfl, by first | exact .inr (List.all_eq_true.1 rfl) | exact .inl ⟨rfl, by simp [Blk.kindIs, fillK_fd]⟩, ?_⟩
      refine k _ ?_; clear k K
      simp only [zY, zW, set_some, Nat.reduceEqDiff, reduceIte, rho_one, rho_s, rho2_s, rho2_0, rho2_1, V.ren, V.renL, List.set_cons_zero, List.set_cons_succ, rho, Nat.reduceAdd, Nat.add_zero]
      simp only [List.mem_cons, List.not_mem_nil, or_false] at h57
      refine zdLoadX q12 true 0 48 ?_
      refine zoStore 10 ⟨?_⟩
      refine zoStore 11 ⟨?_⟩
      refine zoAssign 12 ⟨?_⟩
      refine zoAssign 13 ⟨?_⟩
      refine aAny_done (by kernel_rfl) ?_
      refine k12 _ ?_
      refine n11 _ _ (weak_keep [2, 3, 4, 5] _) ?_
      refine zk ⟨?_⟩
      refine v_ret ?_
      refine r5 _ ?_
      refine r0 _ ?_
      refine zf ⟨?_⟩
      simp only [zE, zL, zO, zN, aStepM, optable, set_some, Nat.reduceEqDiff, reduceIte, Nat.reduceLT, implies_true, forall_const, reduceCtorEq, V.ofValue, V.ofScalar, V.un, V.gd, aLoad, row_mk, Blk.row, PartOK, Go.Vm.part, V.cells, V.noSl, V.noRef, Nat.reduceAdd, Nat.reduceLeDiff, Nat.reduceMul, Try.underlying9, Ty.c9, Ty.a9, Try.underlying23, Ty.c23, Ty.a23, Try.underlying29, Ty.c29, Ty.a29]
      try simp only [zE, zL, zO, zN, aStepM, optable, set_some, Nat.reduceEqDiff, reduceIte, Nat.reduceLT, implies_true, forall_const, reduceCtorEq, V.ofValue, V.ofScalar, V.un, V.gd, aLoad, row_mk, Blk.row, PartOK, Go.Vm.part, V.cells, V.noSl, V.noRef, Nat.reduceAdd, Nat.reduceLeDiff, Nat.reduceMul, Try.underlying9, Ty.c9, Ty.a9, Try.underlying23, Ty.c23, Ty.a23, Try.underlying29, Ty.c29, Ty.a29]
      refine ret_viewX ?_
      first
      |exact ⟨b17, l17, b22, l22, x0, v57, ⟨h17, h22, h17.2.2 _ hxm⟩, rfl, rfl⟩
      |exact ⟨b17, l17, b22, l22, v24, v30, ⟨h17, h22, h24⟩, rfl, rfl⟩
   ·refine zsBuildSlice ⟨?_⟩
    refine aAny_three 0 1 9 rfl rfl rfl (by kernel_rfl) ?_ ?_ ?_
    ·intro K k
     skip
     simp only [zE, zL, zO, zN, aStepM, optable, set_some, Nat.reduceEqDiff, reduceIte, Nat.reduceLT, implies_true, forall_const, reduceCtorEq, V.ofValue, V.ofScalar, V.un, V.gd, aExec, aop, aLoad, row_mk, Blk.row, PartOK, Go.Vm.part, V.cells, V.noSl, V.noRef, Nat.reduceAdd, Nat.reduceLeDiff, Nat.reduceMul, Try.underlying9, Ty.c9, Ty.a9, Try.underlying23, Ty.c23, Ty.a23, Try.underlying29, Ty.c29, Ty.a29]
     repeat (refine And.intro (by first | omega | (intros; omega) | (intros; simp_all; done) | (intros; simp_all; omega)) ?_)
     refine k _ ?_; clear k K
     refine aAny_two 1 9 rfl rfl (by kernel_rfl) ?_ ?_
     ·intro K k
      skip
      simp only [zE, zL, zO, zN, aStepM, optable, set_some, Nat.reduceEqDiff, reduceIte, Nat.reduceLT, implies_true, forall_const, reduceCtorEq, V.ofValue, V.ofScalar, V.un, V.gd, aExec, aop, aLoad, row_mk, Blk.row, PartOK, Go.Vm.part, V.cells, V.noSl, V.noRef, Nat.reduceAdd, Nat.reduceLeDiff, Nat.reduceMul, Try.underlying9, Ty.c9, Ty.a9, Try.underlying23, Ty.c23, Ty.a23, Try.underlying29, Ty.c29, Ty.a29]
      repeat (refine And.intro (by first | omega | (intros; omega) | (intros; simp_all; done) | (intros; simp_all; omega)) ?_)
      refine k _ ?_; clear k K
      refine aAny_only 9 rfl (by kernel_rfl) ?_; intro K k
      simp only [zE, zM, aStepM, optable, set_some, Nat.reduceEqDiff, reduceIte, Nat.reduceLT, implies_true, forall_const, reduceCtorEq, V.ofValue, V.ofScalar, V.un, V.gd, aExec, lentIds, lendOf, ‹Tys _›.h, ‹Fc _›.h]
      repeat (refine andC ?_)
      refine aCall_lent2XA (among_con code a9 s9 [1, x1, v30] (by simp) hcode hcl (by omega)) ?_
      rintro _ _ ⟨v57, a57, s57, h57, k57, rfl, rfl⟩
      refine ⟨_, _, _, rfl, by first | exact .inr (List.all_eq_true.1 rfl) | exact .inl ⟨rfl, by simp [Blk.kindIs, fillK_fd]⟩, ?_⟩
      refine k _ ?_; clear k K
      simp only [zY, zW, set_some, Nat.reduceEqDiff, reduceIte, rho_one, rho_s, rho2_s, rho2_0, rho2_1, V.ren, V.renL, List.set_cons_zero, List.set_cons_succ, rho, Nat.reduceAdd, Nat.add_zero]
      simp only [List.mem_cons, List.not_mem_nil, or_false] at h57
      refine zoStore 10 ⟨?_⟩
      refine zoStore 11 ⟨?_⟩
      refine zoAssign 12 ⟨?_⟩
      refine zoAssign 13 ⟨?_⟩
      refine aAny_done (by kernel_rfl) ?_
      refine k12 _ ?_
      refine n11 _ _ (weak_keep [2, 3, 4, 5] _) ?_
      refine zk ⟨?_⟩
      refine v_ret ?_
      refine r5 _ ?_
      refine r0 _ ?_
      refine zf ⟨?_⟩
      simp only [zE, zL, zO, zN, aStepM, optable, set_some, Nat.reduceEqDiff, reduceIte, Nat.reduceLT, implies_true, forall_const, reduceCtorEq, V.ofValue, V.ofScalar, V.un, V.gd, aLoad, row_mk, Blk.row, PartOK, Go.Vm.part, V.cells, V.noSl, V.noRef, Nat.reduceAdd, Nat.reduceLeDiff, Nat.reduceMul, Try.underlying9, Ty.c9, Ty.a9, Try.underlying23, Ty.c23, Ty.a23, Try.underlying29, Ty.c29, Ty.a29]
      try simp only [zE, zL, zO, zN, aStepM, optable, set_some, Nat.reduceEqDiff, reduceIte, Nat.reduceLT, implies_true, forall_const, reduceCtorEq, V.ofValue, V.ofScalar, V.un, V.gd, aLoad, row_mk, Blk.row, PartOK, Go.Vm.part, V.cells, V.noSl, V.noRef, Nat.reduceAdd, Nat.reduceLeDiff, Nat.reduceMul, Try.underlying9, Ty.c9, Ty.a9, Try.underlying23, Ty.c23, Ty.a23, Try.underlying29, Ty.c29, Ty.a29]
      refine ret_viewX ?_
      first
      |exact ⟨b17, l17, b22, l22, x0, v57, ⟨h17, h22, h17.2.2 _ hxm⟩, rfl, rfl⟩
      |exact ⟨b17, l17, b22, l22, v24, v30, ⟨h17, h22, h24⟩, rfl, rfl⟩
     ·intro K k
      skip
      simp only [zE, zM, aStepM, optable, set_some, Nat.reduceEqDiff, reduceIte, Nat.reduceLT, implies_true, forall_const, reduceCtorEq, V.ofValue, V.ofScalar, V.un, V.gd, aExec, lentIds, lendOf, ‹Tys _›.h, ‹Fc _›.h]
      repeat (refine andC ?_)
      refine aCall_lent2XA (among_con code a9 s9 [1, x1, v30] (by simp) hcode hcl (by omega)) ?_
      rintro _ _ ⟨v57, a57, s57, h57, k57, rfl, rfl⟩
      refine ⟨_, _, _, rfl, by first | exact .inr (List.all_eq_true.1 rfl) | exact .inl ⟨rfl, by simp [Blk.kindIs, fillK_fd]⟩, ?_⟩
      refine k _ ?_; clear k K
      simp only [zY, zW, set_some, Nat.reduceEqDiff, reduceIte, rho_one, rho_s, rho2_s, rho2_0, rho2_1, V.ren, V.renL, List.set_cons_zero, List.set_cons_succ, rho, Nat.reduceAdd, Nat.add_zero]
      simp only [List.mem_cons, List.not_mem_nil, or_false] at h57
      refine aAny_two 1 10 rfl rfl (by kernel_rfl) ?_ ?_
      ·intro K k
       skip
       simp only [zE, zL, zO, zN, aStepM, optable, set_some, Nat.reduceEqDiff, reduceIte, Nat.reduceLT, implies_true, forall_const, reduceCtorEq, V.ofValue, V.ofScalar, V.un, V.gd, aExec, aop, aLoad, row_mk, Blk.row, PartOK, Go.Vm.part, V.cells, V.noSl, V.noRef, Nat.reduceAdd, Nat.reduceLeDiff, Nat.reduceMul, Try.underlying9, Ty.c9, Ty.a9, Try.underlying23, Ty.c23, Ty.a23, Try.underlying29, Ty.c29, Ty.a29]
       repeat (refine And.intro (by first | omega | (intros; omega) | (intros; simp_all; done) | (intros; simp_all; omega)) ?_)
       refine k _ ?_; clear k K
       refine zoStore 10 ⟨?_⟩
       refine zoStore 11 ⟨?_⟩
       refine zoAssign 12 ⟨?_⟩
       refine zoAssign 13 ⟨?_⟩
       refine aAny_done (by kernel_rfl) ?_
       refine k12 _ ?_
       refine n11 _ _ (weak_keep [2, 3, 4, 5] _) ?_
       refine zk ⟨?_⟩
       refine v_ret ?_
       refine r5 _ ?_
       refine r0 _ ?_
       refine zf ⟨?_⟩
       simp only [zE, zL, zO, zN, aStepM, optable, set_some, Nat.reduceEqDiff, reduceIte, Nat.reduceLT, implies_true, forall_const, reduceCtorEq, V.ofValue, V.ofScalar, V.un, V.gd, aLoad, row_mk, Blk.row, PartOK, Go.Vm.part, V.cells, V.noSl, V.noRef, Nat.reduceAdd, Nat.reduceLeDiff, Nat.reduceMul, Try.underlying9, Ty.c9, Ty.a9, Try.underlying23, Ty.c23, Ty.a23, Try.underlying29, Ty.c29, Ty.a29]
       try simp only [zE, zL, zO, zN, aStepM, optable, set_some, Nat.reduceEqDiff, reduceIte, Nat.reduceLT, implies_true, forall_const, reduceCtorEq, V.ofValue, V.ofScalar, V.un, V.gd, aLoad, row_mk, Blk.row, PartOK, Go.Vm.part, V.cells, V.noSl, V.noRef, Nat.reduceAdd, Nat.reduceLeDiff, Nat.reduceMul, Try.underlying9, Ty.c9, Ty.a9, Try.underlying23, Ty.c23, Ty.a23, Try.underlying29, Ty.c29, Ty.a29]
       refine ret_viewX ?_
       first
       |exact ⟨b17, l17, b22, l22, x0, v57, ⟨h17, h22, h17.2.2 _ hxm⟩, rfl, rfl⟩
       |exact ⟨b17, l17, b22, l22, v24, v30, ⟨h17, h22, h24⟩, rfl, rfl⟩
      ·refine zsStore ⟨?_⟩
       refine zdLoadX q12 true 1 49 ?_
       refine zoStore 11 ⟨?_⟩
       refine zoAssign 12 ⟨?_⟩
       refine zoAssign 13 ⟨?_⟩
       refine aAny_done (by kernel_rfl) ?_
       refine k12 _ ?_
       refine n11 _ _ (weak_keep [2, 3, 4, 5] _) ?_
       refine zk ⟨?_⟩
       refine v_ret ?_
       refine r5 _ ?_
       refine r0 _ ?_
       refine zf ⟨?_⟩
       simp only [zE, zL, zO, zN, aStepM, optable, set_some, Nat.reduceEqDiff, reduceIte, Nat.reduceLT, implies_true, forall_const, reduceCtorEq, V.ofValue, V.ofScalar, V.un, V.gd, aLoad, row_mk, Blk.row, PartOK, Go.Vm.part, V.cells, V.noSl, V.noRef, Nat.reduceAdd, Nat.reduceLeDiff, Nat.reduceMul, Try.underlying9, Ty.c9, Ty.a9, Try.underlying23, Ty.c23, Ty.a23, Try.underlying29, Ty.c29, Ty.a29]
       try simp only [zE, zL, zO, zN, aStepM, optable, set_some, Nat.reduceEqDiff, reduceIte, Nat.reduceLT, implies_true, forall_const, reduceCtorEq, V.ofValue, V.ofScalar, V.un, V.gd, aLoad, row_mk, Blk.row, PartOK, Go.Vm.part, V.cells, V.noSl, V.noRef, Nat.reduceAdd, Nat.reduceLeDiff, Nat.reduceMul, Try.underlying9, Ty.c9, Ty.a9, Try.underlying23, Ty.c23, Ty.a23, Try.underlying29, Ty.c29, Ty.a29]
       refine ret_viewX ?_
       first
       |exact ⟨b17, l17, b22, l22, x0, v57, ⟨h17, h22, h17.2.2 _ hxm⟩, rfl, rfl⟩
       |exact ⟨b17, l17, b22, l22, v24, v30, ⟨h17, h22, h24⟩, rfl, rfl⟩
    ·intro K k
     skip
     simp only [zE, zL, zO, zN, aStepM, optable, set_some, Nat.reduceEqDiff, reduceIte, Nat.reduceLT, implies_true, forall_const, reduceCtorEq, V.ofValue, V.ofScalar, V.un, V.gd, aExec, aop, aLoad, row_mk, Blk.row, PartOK, Go.Vm.part, V.cells, V.noSl, V.noRef, Nat.reduceAdd, Nat.reduceLeDiff, Nat.reduceMul, Try.underlying9, Ty.c9, Ty.a9, Try.underlying23, Ty.c23, Ty.a23, Try.underlying29, Ty.c29, Ty.a29]
     repeat (refine And.intro (by first | omega | (intros; omega) | (intros; simp_all; done) | (intros; simp_all; omega)) ?_)
     refine k _ ?_; clear k K
     refine aAny_two 0 9 rfl rfl (by kernel_rfl) ?_ ?_
     ·intro K k
      skip
      simp only [zE, zL, zO, zN, aStepM, optable, set_some, Nat.reduceEqDiff, reduceIte, Nat.reduceLT, implies_true, forall_const, reduceCtorEq, V.ofValue, V.ofScalar, V.un, V.gd, aExec, aop, aLoad, row_mk, Blk.row, PartOK, Go.Vm.part, V.cells, V.noSl, V.noRef, Nat.reduceAdd, Nat.reduceLeDiff, Nat.reduceMul, Try.underlying9, Ty.c9, Ty.a9, Try.underlying23, Ty.c23, Ty.a23, Try.underlying29, Ty.c29, Ty.a29]
      repeat (refine And.intro (by first | omega | (intros; omega) | (intros; simp_all; done) | (intros; simp_all; omega)) ?_)
      refine k _ ?_; clear k K
      refine aAny_only 9 rfl (by kernel_rfl) ?_; intro K k
      simp only [zE, zM, aStepM, optable, set_some, Nat.reduceEqDiff, reduceIte, Nat.reduceLT, implies_true, forall_const, reduceCtorEq, V.ofValue, V.ofScalar, V.un, V.gd, aExec, lentIds, lendOf, ‹Tys _›.h, ‹Fc _›.h]
      repeat (refine andC ?_)
      refine aCall_lent2XA (among_con code a9 s9 [1, x1, v30] (by simp) hcode hcl (by omega)) ?_
      rintro _ _ ⟨v57, a57, s57, h57, k57, rfl, rfl⟩
      refine ⟨_, _, _, rfl, by first | exact .inr (List.all_eq_true.1 rfl) | exact .inl ⟨rfl, by simp [Blk.kindIs, fillK_fd]⟩, ?_⟩
      refine k _ ?_; clear k K
      simp only [zY, zW, set_some, Nat.reduceEqDiff, reduceIte, rho_one, rho_s, rho2_s, rho2_0, rho2_1, V.ren, V.renL, List.set_cons_zero, List.set_cons_succ, rho, Nat.reduceAdd, Nat.add_zero]
      simp only [List.mem_cons, List.not_mem_nil, or_false] at h57
      refine zoStore 10 ⟨?_⟩
      refine zoStore 11 ⟨?_⟩
      refine zoAssign 12 ⟨?_⟩
      refine zoAssign 13 ⟨?_⟩
      refine aAny_done (by kernel_rfl) ?_
      refine k12 _ ?_
      refine n11 _ _ (weak_keep [2, 3, 4, 5] _) ?_
      refine zk ⟨?_⟩
      refine v_ret ?_
      refine r5 _ ?_
      refine r0 _ ?_
      refine zf ⟨?_⟩
      simp only [zE, zL, zO, zN, aStepM, optable, set_some, Nat.reduceEqDiff, reduceIte, Nat.reduceLT, implies_true, forall_const, reduceCtorEq, V.ofValue, V.ofScalar, V.un, V.gd, aLoad, row_mk, Blk.row, PartOK, Go.Vm.part, V.cells, V.noSl, V.noRef, Nat.reduceAdd, Nat.reduceLeDiff, Nat.reduceMul, Try.underlying9, Ty.c9, Ty.a9, Try.underlying23, Ty.c23, Ty.a23, Try.underlying29, Ty.c29, Ty.a29]
      try simp only [zE, zL, zO, zN, aStepM, optable, set_some, Nat.reduceEqDiff, reduceIte, Nat.reduceLT, implies_true, forall_const, reduceCtorEq, V.ofValue, V.ofScalar, V.un, V.gd, aLoad, row_mk, Blk.row, PartOK, Go.Vm.part, V.cells, V.noSl, V.noRef, Nat.reduceAdd, Nat.reduceLeDiff, Nat.reduceMul, Try.underlying9, Ty.c9, Ty.a9, Try.underlying23, Ty.c23, Ty.a23, Try.underlying29, Ty.c29, Ty.a29]
      refine ret_viewX ?_
      first
      |exact ⟨b17, l17, b22, l22, x0, v57, ⟨h17, h22, h17.2.2 _ hxm⟩, rfl, rfl⟩
      |exact ⟨b17, l17, b22, l22, v24, v30, ⟨h17, h22, h24⟩, rfl, rfl⟩
     ·intro K k
      skip
      simp only [zE, zM, aStepM, optable, set_some, Nat.reduceEqDiff, reduceIte, Nat.reduceLT, implies_true, forall_const, reduceCtorEq, V.ofValue, V.ofScalar, V.un, V.gd, aExec, lentIds, lendOf, ‹Tys _›.h, ‹Fc _›.h]
      repeat (refine andC ?_)
      refine aCall_lent2XA (among_con code a9 s9 [1, x1, v30] (by simp) hcode hcl (by omega)) ?_
      rintro _ _ ⟨v57, a57, s57, h57, k57, rfl, rfl⟩
      refine ⟨_, _, _, rfl, by first | exact .inr (List.all_eq_true.1 rfl) | exact .inl ⟨rfl, by simp [Blk.kindIs, fillK_fd]⟩, ?_⟩
      refine k _ ?_; clear k K
      simp only [zY, zW, set_some, Nat.reduceEqDiff, reduceIte, rho_one, rho_s, rho2_s, rho2_0, rho2_1, V.ren, V.renL, List.set_cons_zero, List.set_cons_succ, rho, Nat.reduceAdd, Nat.add_zero]
      simp only [List.mem_cons, List.not_mem_nil, or_false] at h57
      refine zdLoadX q12 true 0 48 ?_
      refine zoStore 10 ⟨?_⟩
      refine zoStore 11 ⟨?_⟩
      refine zoAssign 12 ⟨?_⟩
      refine zoAssign 13 ⟨?_⟩
      refine aAny_done (by kernel_rfl) ?_
      refine k12 _ ?_
      refine n11 _ _ (weak_keep [2, 3, 4, 5] _) ?_
      refine zk ⟨?_⟩
      refine v_ret ?_
      refine r5 _ ?_
      refine r0 _ ?_
      refine zf ⟨?_⟩
      simp only [zE, zL, zO, zN, aStepM, optable, set_some, Nat.reduceEqDiff, reduceIte, Nat.reduceLT, implies_true, forall_const, reduceCtorEq, V.ofValue, V.ofScalar, V.un, V.gd, aLoad, row_mk, Blk.row, PartOK, Go.Vm.part, V.cells, V.noSl, V.noRef, Nat.reduceAdd, Nat.reduceLeDiff, Nat.reduceMul, Try.underlying9, Ty.c9, Ty.a9, Try.underlying23, Ty.c23, Ty.a23, Try.underlying29, Ty.c29, Ty.a29]
      try simp only [zE, zL, zO, zN, aStepM, optable, set_some, Nat.reduceEqDiff, reduceIte, Nat.reduceLT, implies_true, forall_const, reduceCtorEq, V.ofValue, V.ofScalar, V.un, V.gd, aLoad, row_mk, Blk.row, PartOK, Go.Vm.part, V.cells, V.noSl, V.noRef, Nat.reduceAdd, Nat.reduceLeDiff, Nat.reduceMul, Try.underlying9, Ty.c9, Ty.a9, Try.underlying23, Ty.c23, Ty.a23, Try.underlying29, Ty.c29, Ty.a29]
      refine ret_viewX ?_
      first
      |exact ⟨b17, l17, b22, l22, x0, v57, ⟨h17, h22, h17.2.2 _ hxm⟩, rfl, rfl⟩
      |exact ⟨b17, l17, b22, l22, v24, v30, ⟨h17, h22, h24⟩, rfl, rfl⟩
    ·intro K k
     skip
     simp only [zE, zM, aStepM, optable, set_some, Nat.reduceEqDiff, reduceIte, Nat.reduceLT, implies_true, forall_const, reduceCtorEq, V.ofValue, V.ofScalar, V.un, V.gd, aExec, lentIds, lendOf, ‹Tys _›.h, ‹Fc _›.h]
     repeat (refine andC ?_)
     refine aCall_lent2XA (among_con code a9 s9 [1, x1, v30] (by simp) hcode hcl (by omega)) ?_
     rintro _ _ ⟨v57, a57, s57, h57, k57, rfl, rfl⟩
     refine ⟨_, _, _, rfl, by first | exact .inr (List.all_eq_true.1 rfl) | exact .inl ⟨rfl, by simp [Blk.kindIs, fillK_fd]⟩, ?_⟩
     refine k _ ?_; clear k K
     simp only [zY, zW, set_some, Nat.reduceEqDiff, reduceIte, rho_one, rho_s, rho2_s, rho2_0, rho2_1, V.ren, V.renL, List.set_cons_zero, List.set_cons_succ, rho, Nat.reduceAdd, Nat.add_zero]
     simp only [List.mem_cons, List.not_mem_nil, or_false] at h57
     refine zdLoadX q12 true 0 48 ?_
     refine aAny_two 1 10 rfl rfl (by kernel_rfl) ?_ ?_
     ·intro K k
      skip
      simp only [zE, zL, zO, zN, aStepM, optable, set_some, Nat.reduceEqDiff, reduceIte, Nat.reduceLT, implies_true, forall_const, reduceCtorEq, V.ofValue, V.ofScalar, V.un, V.gd, aExec, aop, aLoad, row_mk, Blk.row, PartOK, Go.Vm.part, V.cells, V.noSl, V.noRef, Nat.reduceAdd, Nat.reduceLeDiff, Nat.reduceMul, Try.underlying9, Ty.c9, Ty.a9, Try.underlying23, Ty.c23, Ty.a23, Try.underlying29, Ty.c29, Ty.a29]
      repeat (refine And.intro (by first | omega | (intros; omega) | (intros; simp_all; done) | (intros; simp_all; omega)) ?_)
      refine k _ ?_; clear k K
      refine zoStore 10 ⟨?_⟩
      refine zoStore 11 ⟨?_⟩
      refine zoAssign 12 ⟨?_⟩
      refine zoAssign 13 ⟨?_⟩
      refine aAny_done (by kernel_rfl) ?_
      refine k12 _ ?_
      refine n11 _ _ (weak_keep [2, 3, 4, 5] _) ?_
      refine zk ⟨?_⟩
      refine v_ret ?_
      refine r5 _ ?_
      refine r0 _ ?_
      refine zf ⟨?_⟩
      simp only [zE, zL, zO, zN, aStepM, optable, set_some, Nat.reduceEqDiff, reduceIte, Nat.reduceLT, implies_true, forall_const, reduceCtorEq, V.ofValue, V.ofScalar, V.un, V.gd, aLoad, row_mk, Blk.row, PartOK, Go.Vm.part, V.cells, V.noSl, V.noRef, Nat.reduceAdd, Nat.reduceLeDiff, Nat.reduceMul, Try.underlying9, Ty.c9, Ty.a9, Try.underlying23, Ty.c23, Ty.a23, Try.underlying29, Ty.c29, Ty.a29]
      try simp only [zE, zL, zO, zN, aStepM, optable, set_some, Nat.reduceEqDiff, reduceIte, Nat.reduceLT, implies_true, forall_const, reduceCtorEq, V.ofValue, V.ofScalar, V.un, V.gd, aLoad, row_mk, Blk.row, PartOK, Go.Vm.part, V.cells, V.noSl, V.noRef, Nat.reduceAdd, Nat.reduceLeDiff, Nat.reduceMul, Try.underlying9, Ty.c9, Ty.a9, Try.underlying23, Ty.c23, Ty.a23, Try.underlying29, Ty.c29, Ty.a29]
      refine ret_viewX ?_
      first
      |exact ⟨b17, l17, b22, l22, x0, v57, ⟨h17, h22, h17.2.2 _ hxm⟩, rfl, rfl⟩
      |exact ⟨b17, l17, b22, l22, v24, v30, ⟨h17, h22, h24⟩, rfl, rfl⟩
     ·refine zsStore ⟨?_⟩
      refine zdLoadX q12 true 1 49 ?_
      refine zoStore 11 ⟨?_⟩
      refine zoAssign 12 ⟨?_⟩
      refine zoAssign 13 ⟨?_⟩
      refine aAny_done (by kernel_rfl) ?_
      refine k12 _ ?_
      refine n11 _ _ (weak_keep [2, 3, 4, 5] _) ?_
      refine zk ⟨?_⟩
      refine v_ret ?_
      refine r5 _ ?_
      refine r0 _ ?_
      refine zf ⟨?_⟩
      simp only [zE, zL, zO, zN, aStepM, optable, set_some, Nat.reduceEqDiff, reduceIte, Nat.reduceLT, implies_true, forall_const, reduceCtorEq, V.ofValue, V.ofScalar, V.un, V.gd, aLoad, row_mk, Blk.row, PartOK, Go.Vm.part, V.cells, V.noSl, V.noRef, Nat.reduceAdd, Nat.reduceLeDiff, Nat.reduceMul, Try.underlying9, Ty.c9, Ty.a9, Try.underlying23, Ty.c23, Ty.a23, Try.underlying29, Ty.c29, Ty.a29]
      try simp only [zE, zL, zO, zN, aStepM, optable, set_some, Nat.reduceEqDiff, reduceIte, Nat.reduceLT, implies_true, forall_const, reduceCtorEq, V.ofValue, V.ofScalar, V.un, V.gd, aLoad, row_mk, Blk.row, PartOK, Go.Vm.part, V.cells, V.noSl, V.noRef, Nat.reduceAdd, Nat.reduceLeDiff, Nat.reduceMul, Try.underlying9, Ty.c9, Ty.a9, Try.underlying23, Ty.c23, Ty.a23, Try.underlying29, Ty.c29, Ty.a29]
      refine ret_viewX ?_
      first
      |exact ⟨b17, l17, b22, l22, x0, v57, ⟨h17, h22, h17.2.2 _ hxm⟩, rfl, rfl⟩
      |exact ⟨b17, l17, b22, l22, v24, v30, ⟨h17, h22, h24⟩, rfl, rfl⟩
 ·intro hc0
  refine v_skip ?_
  refine n5 _ _ (weak_keep [2, 3, 7, 8, 9, 10] _) ?_
  refine zk ⟨?_⟩
  refine v_seq ?_; intro Q13 n13 e13 r13
  refine v_draw (by kernel_rfl) ?_; intro K14 q14 k14
  show aAny _ _ _ _ 8 (Array.replicate 8 false) _
  refine zdLoadX q14 true 0 58 ?_
  refine zdMove q14 false 2 60 ?_
  refine zdMove q14 false 3 61 ?_
  refine aAny_two 1 4 rfl rfl (by kernel_rfl) ?_ ?_
  ·intro K k
   skip
   simp only [zE, zL, zO, zN, aStepM, optable, set_some, Nat.reduceEqDiff, reduceIte, Nat.reduceLT, implies_true, forall_const, reduceCtorEq, V.ofValue, V.ofScalar, V.un, V.gd, aExec, aop, aLoad, row_mk, Blk.row, PartOK, Go.Vm.part, V.cells, V.noSl, V.noRef, Nat.reduceAdd, Nat.reduceLeDiff, Nat.reduceMul, Try.underlying9, Ty.c9, Ty.a9, Try.underlying23, Ty.c23, Ty.a23, Try.underlying29, Ty.c29, Ty.a29]
   repeat (refine And.intro (by first | omega | (intros; omega) | (intros; simp_all; done) | (intros; simp_all; omega)) ?_)
   refine k _ ?_; clear k K
   refine zoStore 4 ⟨?_⟩
   refine zoStore 5 ⟨?_⟩
   refine zoAssign 6 ⟨?_⟩
   refine zoAssign 7 ⟨?_⟩
   refine aAny_done (by kernel_rfl) ?_
   refine k14 _ ?_
   refine n13 _ _ (weak_keep [2, 3, 4, 5] _) ?_
   refine zk ⟨?_⟩
   refine v_ret ?_
   refine r0 _ ?_
   refine zf ⟨?_⟩
   simp only [zE, zL, zO, zN, aStepM, optable, set_some, Nat.reduceEqDiff, reduceIte, Nat.reduceLT, implies_true, forall_const, reduceCtorEq, V.ofValue, V.ofScalar, V.un, V.gd, aLoad, row_mk, Blk.row, PartOK, Go.Vm.part, V.cells, V.noSl, V.noRef, Nat.reduceAdd, Nat.reduceLeDiff, Nat.reduceMul, Try.underlying9, Ty.c9, Ty.a9, Try.underlying23, Ty.c23, Ty.a23, Try.underlying29, Ty.c29, Ty.a29]
   try simp only [zE, zL, zO, zN, aStepM, optable, set_some, Nat.reduceEqDiff, reduceIte, Nat.reduceLT, implies_true, forall_const, reduceCtorEq, V.ofValue, V.ofScalar, V.un, V.gd, aLoad, row_mk, Blk.row, PartOK, Go.Vm.part, V.cells, V.noSl, V.noRef, Nat.reduceAdd, Nat.reduceLeDiff, Nat.reduceMul, Try.underlying9, Ty.c9, Ty.a9, Try.underlying23, Ty.c23, Ty.a23, Try.underlying29, Ty.c29, Ty.a29]
   refine ret_viewX ?_
   first
   |exact ⟨b17, l17, b22, l22, x0, v57, ⟨h17, h22, h17.2.2 _ hxm⟩, rfl, rfl⟩
   |exact ⟨b17, l17, b22, l22, v24, v30, ⟨h17, h22, h24⟩, rfl, rfl⟩
  ·refine zsStore ⟨?_⟩
   refine zdLoadX q14 true 1 59 ?_
   refine zoStore 5 ⟨?_⟩
   refine zoAssign 6 ⟨?_⟩
   refine zoAssign 7 ⟨?_⟩
   refine aAny_done (by kernel_rfl) ?_
   refine k14 _ ?_
   refine n13 _ _ (weak_keep [2, 3, 4, 5] _) ?_
   refine zk ⟨?_⟩
   refine v_ret ?_
   refine r0 _ ?_
   refine zf ⟨?_⟩
   simp only [zE, zL, zO, zN, aStepM, optable, set_some, Nat.reduceEqDiff, reduceIte, Nat.reduceLT, implies_true, forall_const, reduceCtorEq, V.ofValue, V.ofScalar, V.un, V.gd, aLoad, row_mk, Blk.row, PartOK, Go.Vm.part, V.cells, V.noSl, V.noRef, Nat.reduceAdd, Nat.reduceLeDiff, Nat.reduceMul, Try.underlying9, Ty.c9, Ty.a9, Try.underlying23, Ty.c23, Ty.a23, Try.underlying29, Ty.c29, Ty.a29]
   try simp only [zE, zL, zO, zN, aStepM, optable, set_some, Nat.reduceEqDiff, reduceIte, Nat.reduceLT, implies_true, forall_const, reduceCtorEq, V.ofValue, V.ofScalar, V.un, V.gd, aLoad, row_mk, Blk.row, PartOK, Go.Vm.part, V.cells, V.noSl, V.noRef, Nat.reduceAdd, Nat.reduceLeDiff, Nat.reduceMul, Try.underlying9, Ty.c9, Ty.a9, Try.underlying23, Ty.c23, Ty.a23, Try.underlying29, Ty.c29, Ty.a29]
   refine ret_viewX ?_
   first
   |exact ⟨b17, l17, b22, l22, x0, v57, ⟨h17, h22, h17.2.2 _ hxm⟩, rfl, rfl⟩
   |exact ⟨b17, l17, b22, l22, v24, v30, ⟨h17, h22, h24⟩, rfl, rfl⟩
end Go.Proofs.Ytbameklegpgkfaa
