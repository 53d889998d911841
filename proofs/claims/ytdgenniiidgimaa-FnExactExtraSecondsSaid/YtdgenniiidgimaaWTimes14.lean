/- What functions compute (Times14). No condition. -/
import Derived.Test.YtdgenniiidgimaaTy
import Derived.Test.YtdgenniiidgimaaVmG
import Derived.Test.YtdgenniiidgimaaWLem
import Derived.Test.YtdgenniiidgimaaWTown
import Derived.Test.YtdgenniiidgimaaWRepeat
set_option linter.unusedSimpArgs false
set_option linter.unusedVariables false
set_option linter.defProp false
namespace Go.Proofs.Ytdgenniiidgimaa
open Go Go.Vm

def tmL (n : Int) (ss : List (Int × Int × Int)) (node : Int) : List Int := Tm.times n.toNat ss node.toNat
theorem strOK_facts {n : Int} {x : (Int × Int × Int)} (h1 : 1 ≤ n ∧ n ≤ 14) (h : strOK n x = true) : 0 ≤ x.1 ∧ x.1 < n ∧ 0 ≤ x.2.1 ∧ x.2.1 < n ∧ x.1 < x.2.1 ∧ 1 ≤ x.2.2 ∧ x.2.2 ≤ 3600 := by
  simp only [strOK, hasB, Bool.and_eq_true, decide_eq_true_eq, wrap64 (show -9223372036854775808 ≤ n - 1 by omega) (show n - 1 ≤ 9223372036854775807 by omega)] at h
  omega
theorem edges_good {m : Nat} {ss : List (Int × Int × Int)} (hm : 1 ≤ m ∧ m ≤ 14) (h : ∀ s ∈ ss, strOK (m : Int) s = true) : ∀ e ∈ Tm.edges ss, Tm.Good m e ∧ e.2.2 ≤ 3600 := by
  intro e he
  obtain ⟨s, hs, he⟩ := Tm.edges_mem he
  have := strOK_facts (by omega) (h s hs)
  rcases he with rfl | rfl <;> (unfold Tm.Good; simp only []; refine ⟨⟨?_, ?_, ?_, ?_⟩, ?_⟩ <;> omega)
def fillI (m i : Nat) : List Int := List.replicate i (-1) ++ List.replicate (m - i) 0
theorem fillI_zero (m : Nat) : (fillI m 0).map (V.int .i64) = List.replicate m (V.int .i64 0) := by simp [fillI]
theorem fillI_len {m i : Nat} (h : i ≤ m) : (fillI m i).length = m := by simp [fillI]; omega
theorem fillI_set {m i : Nat} (h : i < m) : (fillI m i).set i (-1) = fillI m (i + 1) := by
  rw [fillI, List.set_append_right _ _ (by simp), List.length_replicate, Nat.sub_self, show m - i = (m - (i + 1)) + 1 by omega, List.replicate_succ, List.set_cons_zero, fillI, List.replicate_succ', List.append_assoc]; rfl
theorem fillI_end {m i : Nat} (h : i = m) : fillI m i = List.replicate m (-1) := by subst h; simp [fillI]
theorem times_len (n : Int) (ss : List (Int × Int × Int)) (node : Int) : (tmL n ss node).length = n.toNat := Tm.iter_len (Tm.start_len ..) _
theorem within_times {m u : Nat} {ss : List (Int × Int × Int)} : Tm.within m u (Tm.edges ss) m 0 = Tm.times m ss u := rfl
theorem tm_facts {n node : Int} {ss : List (Int × Int × Int)} (hn : 1 ≤ n ∧ n ≤ 14) (hu : 0 ≤ node ∧ node < n) (hss : ∀ s ∈ ss, strOK n s = true) (hsl : ss.length ≤ 40) : ∀ v, -1 ≤ Tm.at_ (tmL n ss node) v ∧ Tm.at_ (tmL n ss node) v ≤ 4608000 := by
  obtain ⟨m, rfl⟩ := Int.eq_ofNat_of_zero_le (show 0 ≤ n by omega)
  obtain ⟨u, rfl⟩ := Int.eq_ofNat_of_zero_le hu.1
  have h := Tm.within_facts (n := m) (node := u) (es := Tm.edges ss) (by omega) (edges_good (by omega) hss) (by rw [Tm.edges_len]; omega) m 0 (by omega)
  exact h.2

set_option maxRecDepth 8000 in
set_option maxHeartbeats 1000000 in
theorem tTimes_con (n : Int) (ss : List (Int × Int × Int)) (node : Int) (hn : 1 ≤ n ∧ n ≤ 14) (hu : 0 ≤ node ∧ node < n) (hss : ∀ s ∈ ss, strOK n s = true) (hsl : ss.length ≤ 40) : Con Try.prog 128 [.pv [.agg [.int .i64 n, .sl (ss.map (fun t : Int × Int × Int => V.agg [V.int .i64 t.1, V.int .i64 t.2.1, V.int .i64 t.2.2]))]] 0 0, .int .i64 node] [] (.ref 0) [.arr ((tmL n ss node).map (V.int .i64)) .flat] := by
 obtain ⟨m, rfl⟩ := Int.eq_ofNat_of_zero_le (show 0 ≤ n by omega)
 obtain ⟨u, rfl⟩ := Int.eq_ofNat_of_zero_le hu.1
 have hum : u < m := by omega
 have hm1 : 1 ≤ m ∧ m ≤ 14 := by omega
 have hg := edges_good hm1 hss
 have hg1 : ∀ e ∈ Tm.edges ss, Tm.Good m e := fun e he => (hg e he).1
 have hel := Tm.edges_len ss
 have hel2 : (Tm.edges ss).length ≤ 80 := by omega
 rw [show tmL (m : Int) ss (u : Int) = Tm.times m ss u from rfl]
 have hru : (List.replicate m (-1 : Int))[u]? = some (-1) := by rw [List.getElem?_replicate, if_pos hum]
 refine v_con [.tmp 4] [] Try.func128 rfl rfl rfl (by simp [Try.ntmps128]) ?_
 intro Q0 n0 r0
 simp only [Try.ntmps128, envFrom, Nat.reduceAdd]
 have T := Tys.mk (And.intro Ty.t3 (And.intro Ty.t26 (And.intro Ty.t70 (And.intro Ty.t72 (And.intro Ty.t182 (And.intro Ty.t200 Ty.t201))))))
 have F := Fc.mk True.intro
 refine v_seq ?_; intro Q1 n1 e1 r1
 refine v_region ?_; intro K2 k2
 have F := Fc.mk (And.intro (fun f => getD_map (f := f) hru) @set_map)
 refine zAssign ⟨?_⟩
 refine k2 _ ?_
 refine n1 _ _ (weak_keep [0, 1] _) ?_
 refine zk ⟨?_⟩
 refine v_seq ?_; intro Q3 n3 e3 r3
 refine v_region ?_; intro K4 k4
 refine zBuildSlice ⟨?_⟩
 refine zMove ⟨?_⟩
 refine zNilCheck ⟨?_⟩
 refine zFieldAddr ⟨?_⟩
 refine zLoad ⟨?_⟩
 refine zc (repeat_con (-1) m hm1.1 (by omega)) ⟨?_⟩
 refine zAssign ⟨?_⟩
 refine k4 _ ?_
 refine n3 _ _ (weak_keep [0, 1, 5] _) ?_
 refine zk ⟨?_⟩
 refine v_seq ?_; intro Q5 n5 e5 r5
 refine v_region ?_; intro K6 k6
 refine zMove ⟨?_⟩
 refine zMove ⟨?_⟩
 refine zIndexAddr ⟨?_⟩
 refine zStore ⟨?_⟩
 refine k6 _ ?_
 refine n5 _ _ (weak_keep [0, 5] _) ?_
 refine zk ⟨?_⟩
 refine v_seq ?_; intro Q7 n7 e7 r7
 refine v_seq ?_; intro Q8 n8 e8 r8
 refine v_region ?_; intro K9 k9
 refine zAssign ⟨?_⟩
 refine k9 _ ?_
 refine n8 _ _ (weak_keep [0, 5, 6] _) ?_
 refine zk ⟨?_⟩
 refine v_block ?_; intro Q10 n10 x10 e10 r10
 refine v_loop (fun p => ⟨[(0, .pv [.agg [.int .i64 (Nat.cast m), .sl (ss.map (fun t : Int × Int × Int => V.agg [V.int .i64 t.1, V.int .i64 t.2.1, V.int .i64 t.2.2]))]] 0 0), (5, .ref 0), (6, .bool p.2)], [.arr ((Tm.within m u (Tm.edges ss) p.1 0).map (V.int .i64)) .flat], false, 83, 0⟩) (fun p => p.1 ≤ m + 1 ∧ (p.2 = true → p.1 ≤ m) ∧ (p.2 = false → Tm.iter (Tm.edges ss) p.1 (Tm.start m u) = Tm.times m ss u)) (fun p => m + 1 - p.1) ((0, true) : Nat × Bool) ?_ ?_ ?_
 ·refine weak_bothS [0, 5, 6] [2] ⟨?_⟩
  rfl
 ·exact ⟨Nat.zero_le _, fun _ => Nat.zero_le _, fun h => by cases h⟩
 ·rintro ⟨k, c⟩ hok11 Q11 n11 e11 r11
  obtain ⟨hk1, hck, hcf⟩ := hok11
  simp only [] at hk1 hck hcf ⊢
  refine v_seq ?_; intro Q12 n12 e12 r12
  refine v_seq ?_; intro Q13 n13 e13 r13
  refine v_region ?_; intro K14 k14
  refine zMove ⟨?_⟩
  refine k14 _ ?_
  refine n13 _ _ (weak_keep [0, 5, 22] _) ?_
  refine zk ⟨?_⟩
  refine v_condS _ rfl ?_ ?_
  ·intro hc0
   have hk := hck hc0
   refine v_skip ?_
   refine n12 _ _ (weak_keep [0, 5] _) ?_
   refine zk ⟨?_⟩
   refine v_block ?_; intro Q16 n16 x16 e16 r16
   refine v_seq ?_; intro Q17 n17 e17 r17
   refine v_region ?_; intro K18 k18
   refine zAssign ⟨?_⟩
   refine k18 _ ?_
   refine n17 _ _ (weak_keep [0, 5, 6] _) ?_
   refine zk ⟨?_⟩
   refine v_seq ?_; intro Q19 n19 e19 r19
   refine v_region ?_; intro K20 k20
   refine zMove ⟨?_⟩
   refine zNilCheck ⟨?_⟩
   refine zFieldAddr ⟨?_⟩
   refine zLoad ⟨?_⟩
   refine zLen ⟨?_⟩
   refine zMove ⟨?_⟩
   refine k20 _ ?_
   refine n19 _ _ (weak_keep [0, 5, 6, 26, 27, 28] _) ?_
   refine zk ⟨?_⟩
   refine v_block ?_; intro Q21 n21 x21 e21 r21
   refine v_loop (fun i => ⟨[(0, .pv [.agg [.int .i64 (Nat.cast m), .sl (ss.map (fun t : Int × Int × Int => V.agg [V.int .i64 t.1, V.int .i64 t.2.1, V.int .i64 t.2.2]))]] 0 0), (5, .ref 0), (6, .bool (Tm.chg m u (Tm.edges ss) k (2 * i))), (26, .sl (ss.map (fun t : Int × Int × Int => V.agg [V.int .i64 t.1, V.int .i64 t.2.1, V.int .i64 t.2.2]))), (27, .int .i64 ss.length), (28, .int .i64 (Nat.cast i))], [.arr ((Tm.within m u (Tm.edges ss) k (2 * i)).map (V.int .i64)) .flat], false, 83, 0⟩) (fun i => i ≤ ss.length) (fun i => ss.length - i) 0 ?_ ?_ ?_
   ·refine weak_bothS [0, 5, 6, 26, 27, 28] [0] ⟨?_⟩
    rfl
   ·exact Nat.zero_le _
   ·rintro i hok22 Q22 n22 e22 r22
    have hi1 : i ≤ ss.length := hok22
    refine v_seq ?_; intro Q23 n23 e23 r23
    refine v_region ?_; intro K24 k24
    refine zBinOp ⟨?_⟩
    refine k24 _ ?_
    refine n23 _ _ (weak_keep [0, 5, 6, 26, 27, 28, 29] _) ?_
    refine zk ⟨?_⟩
    refine v_seq ?_; intro Q25 n25 e25 r25
    refine v_condS _ rfl ?_ ?_
    ·intro hc1
     have hlt : i < ss.length := by omega
     obtain ⟨⟨x0, x1, x2⟩, hx⟩ : ∃ x : Int × Int × Int, ss[i]? = some x := ⟨ss[i]'(by omega), List.getElem?_eq_getElem (by omega)⟩
     have hso := strOK_facts (by omega) (hss _ (List.mem_of_getElem? hx))
     simp only [] at hso
     obtain ⟨a, rfl⟩ := Int.eq_ofNat_of_zero_le hso.1
     obtain ⟨b, rfl⟩ := Int.eq_ofNat_of_zero_le hso.2.2.1
     have hes := Tm.edges_at hx
     simp only [Int.toNat_natCast] at hes
     refine v_skip ?_
     refine n25 _ _ (weak_keep [0, 5, 6, 26, 27, 28] _) ?_
     refine zk ⟨?_⟩
     refine v_seq ?_; intro Q27 n27 e27 r27
     refine v_block ?_; intro Q28 n28 x28 e28 r28
     refine v_seq ?_; intro Q29 n29 e29 r29
     refine v_region ?_; intro K30 k30
     have F := Fc.mk (And.intro (fun f => getD_map (f := f) hru) (And.intro @set_map (fun f => getD_map (f := f) hx)))
     refine zIndexAddr ⟨?_⟩
     refine zLoad ⟨?_⟩
     refine zAlloc ⟨?_⟩
     refine zStore ⟨?_⟩
     refine k30 _ ?_
     refine n29 _ _ (weak_keep [0, 5, 6, 8, 26, 27, 28] _) ?_
     refine zk ⟨?_⟩
     refine v_seq ?_; intro Q31 n31 e31 r31
     refine v_region ?_; intro K32 k32
     refine zFieldAddr ⟨?_⟩
     refine zLoad ⟨?_⟩
     refine zFieldAddr ⟨?_⟩
     refine zLoad ⟨?_⟩
     refine zBuild ⟨?_⟩
     refine zFieldAddr ⟨?_⟩
     refine zLoad ⟨?_⟩
     refine zFieldAddr ⟨?_⟩
     refine zLoad ⟨?_⟩
     refine zBuild ⟨?_⟩
     refine zBuildSlice ⟨?_⟩
     refine zLen ⟨?_⟩
     refine zMove ⟨?_⟩
     refine k32 _ ?_
     refine n31 _ _ (weak_keep [0, 5, 6, 8, 26, 27, 28, 42, 43, 44] _) ?_
     refine zk ⟨?_⟩
     refine v_block ?_; intro Q33 n33 x33 e33 r33
     refine v_loop (fun j => ⟨[(0, .pv [.agg [.int .i64 (Nat.cast m), .sl (ss.map (fun t : Int × Int × Int => V.agg [V.int .i64 t.1, V.int .i64 t.2.1, V.int .i64 t.2.2]))]] 0 0), (5, .ref 0), (6, .bool (Tm.chg m u (Tm.edges ss) k (2 * i + j))), (8, .ptr 1 0 0), (26, .sl (ss.map (fun t : Int × Int × Int => V.agg [V.int .i64 t.1, V.int .i64 t.2.1, V.int .i64 t.2.2]))), (27, .int .i64 ss.length), (28, .int .i64 (Nat.cast i)), (42, .ref 2), (43, .int .i64 2), (44, .int .i64 (Nat.cast j))], [.arr ((Tm.within m u (Tm.edges ss) k (2 * i + j)).map (V.int .i64)) .flat, .box (.agg [V.int .i64 (Nat.cast a), V.int .i64 (Nat.cast b), V.int .i64 x2]) .flat, .arr [V.agg [V.int .i64 (Nat.cast a), V.int .i64 (Nat.cast b)], V.agg [V.int .i64 (Nat.cast b), V.int .i64 (Nat.cast a)]] .flat], false, 83, 0⟩) (fun j => j ≤ 2) (fun j => 2 - j) 0 ?_ ?_ ?_
     ·refine weak_bothS [0, 5, 6, 8, 26, 27, 28, 42, 43, 44] [0, 1, 2] ⟨?_⟩
      rfl
     ·exact Nat.zero_le _
     ·rintro j hok34 Q34 n34 e34 r34
      have hj1 : j ≤ 2 := hok34
      refine v_seq ?_; intro Q35 n35 e35 r35
      refine v_region ?_; intro K36 k36
      refine zBinOp ⟨?_⟩
      refine k36 _ ?_
      refine n35 _ _ (weak_keep [0, 5, 6, 8, 26, 27, 28, 42, 43, 44, 45] _) ?_
      refine zk ⟨?_⟩
      refine v_seq ?_; intro Q37 n37 e37 r37
      refine v_condS _ rfl ?_ ?_
      ·intro hc2
       have hj : j = 0 ∨ j = 1 := by omega
       rcases hj with rfl | rfl
       ·skip
        have hwf := Tm.within_facts hum hg hel2 k (2 * i) (by omega)
        have hwl := hwf.1
        obtain ⟨p, hp⟩ : ∃ p, (Tm.within m u (Tm.edges ss) k (2 * i))[a]? = some p := ⟨_, List.getElem?_eq_getElem (by rw [hwl]; omega)⟩
        obtain ⟨q, hq⟩ : ∃ q, (Tm.within m u (Tm.edges ss) k (2 * i))[b]? = some q := ⟨_, List.getElem?_eq_getElem (by rw [hwl]; omega)⟩
        have hpb := hwf.2 a
        rw [Tm.at_get hp] at hpb
        have hqb := hwf.2 b
        rw [Tm.at_get hq] at hqb
        have he : (Tm.edges ss)[2 * i]? = some (a, b, x2) := hes.1
        have hst : (Tm.within m u (Tm.edges ss) k (2 * i + 1)) = Tm.relax (Tm.within m u (Tm.edges ss) k (2 * i)) (a, b, x2) := Tm.within_step he
        have hry := fun h => Tm.relax_yes hp hq (w := x2) h
        have hrn := fun h => Tm.relax_no hp hq (w := x2) h
        have hcn : (Tm.chg m u (Tm.edges ss) k (2 * i + 1)) = ((Tm.chg m u (Tm.edges ss) k (2 * i)) || Tm.trig (Tm.within m u (Tm.edges ss) k (2 * i)) (a, b, x2)) := Tm.chg_next he
        refine v_skip ?_
        refine n37 _ _ (weak_keep [0, 5, 6, 8, 26, 27, 28, 42, 43, 44] _) ?_
        refine zk ⟨?_⟩
        refine v_seq ?_; intro Q39 n39 e39 r39
        refine v_block ?_; intro Q40 n40 x40 e40 r40
        refine v_seq ?_; intro Q41 n41 e41 r41
        refine v_region ?_; intro K42 k42
        have F := Fc.mk (And.intro (fun f => getD_map (f := f) hru) (And.intro @set_map (And.intro (fun f => getD_map (f := f) hx) (And.intro hwl (And.intro (fun f => getD_map (f := f) hp) (And.intro (fun f => getD_map (f := f) hq) @set_map))))))
        refine zIndexAddr ⟨?_⟩
        refine zLoad ⟨?_⟩
        refine zAlloc ⟨?_⟩
        refine zStore ⟨?_⟩
        refine k42 _ ?_
        refine n41 _ _ (weak_keep [0, 5, 6, 8, 10, 26, 27, 28, 42, 43, 44] _) ?_
        refine zk ⟨?_⟩
        refine v_seq ?_; intro Q43 n43 e43 r43
        refine v_draw (by kernel_rfl) ?_; intro K44 q44 k44
        show aAny _ _ _ _ 12 (Array.replicate 12 false) _
        refine zdMove q44 true 0 48 ?_
        refine zdIndexAddr q44 true 1 49 ?_
        refine zdLoad q44 true 2 50 ?_
        refine zdIndexAddr q44 true 3 51 ?_
        refine zdLoad q44 true 4 52 ?_
        refine zdMove q44 true 5 53 ?_
        refine zdIndexAddr q44 true 6 54 ?_
        refine zdLoad q44 true 7 55 ?_
        refine zdIndexAddr q44 true 8 56 ?_
        refine zdLoad q44 true 9 57 ?_
        refine zoAssign 10 ⟨?_⟩
        refine zoAssign 11 ⟨?_⟩
        refine aAny_done (by kernel_rfl) ?_
        refine k44 _ ?_
        refine n43 _ _ (weak_keep [0, 5, 6, 8, 10, 11, 12, 26, 27, 28, 42, 43, 44] _) ?_
        refine zk ⟨?_⟩
        refine v_seq ?_; intro Q45 n45 e45 r45
        refine v_region ?_; intro K46 k46
        refine zMove ⟨?_⟩
        refine zBinOp ⟨?_⟩
        refine zMove ⟨?_⟩
        refine zgMove ⟨?_⟩
        refine zgBinOp ⟨?_⟩
        refine zgMove ⟨?_⟩
        refine zgMove ⟨?_⟩
        refine zgFieldAddr ⟨?_⟩
        refine zgLoad ⟨?_⟩
        refine zgBinOpW ⟨?_⟩
        refine zgMove ⟨?_⟩
        refine zgBinOp ⟨?_⟩
        refine zgPick ⟨?_⟩
        refine zPick ⟨?_⟩
        refine k46 _ ?_
        refine n45 _ _ (weak_keep [0, 5, 6, 8, 10, 11, 26, 27, 28, 42, 43, 44, 71] _) ?_
        refine zk ⟨?_⟩
        refine v_condS _ rfl ?_ ?_
        ·intro hc3
         obtain ⟨hty, hre⟩ := hry (by omega)
         rw [hre] at hst
         rw [hty, Bool.or_true] at hcn
         refine v_seq ?_; intro Q48 n48 e48 r48
         refine v_region ?_; intro K49 k49
         refine zMove ⟨?_⟩
         refine zIndexAddr ⟨?_⟩
         refine zLoad ⟨?_⟩
         refine zMove ⟨?_⟩
         refine zFieldAddr ⟨?_⟩
         refine zLoad ⟨?_⟩
         refine zBinOpW ⟨?_⟩
         refine zIndexAddr ⟨?_⟩
         refine zStore ⟨?_⟩
         refine k49 _ ?_
         refine n48 _ _ (weak_keep [0, 5, 8, 26, 27, 28, 42, 43, 44] _) ?_
         refine zk ⟨?_⟩
         refine v_region ?_; intro K50 k50
         refine zAssign ⟨?_⟩
         refine k50 _ ?_
         refine n40 _ ?_
         refine n39 _ _ (weak_keep [0, 5, 6, 8, 26, 27, 28, 42, 43, 44] _) ?_
         refine zk ⟨?_⟩
         refine v_region ?_; intro K51 k51
         refine zBinOpW ⟨?_⟩
         refine zMove ⟨?_⟩
         refine k51 _ ?_
         refine n34 _ 1 ?_ ?_ ?_
         ·refine weak_bothS [0, 5, 6, 8, 26, 27, 28, 42, 43, 44] [0, 1, 2] ⟨?_⟩
          rw [hcn, hst]; rfl
         ·omega
         ·show _ < _; omega
        ·intro hc3
         obtain ⟨htn, hre⟩ := hrn (by omega)
         rw [hre] at hst
         rw [htn, Bool.or_false] at hcn
         refine v_skip ?_
         refine n40 _ ?_
         refine n39 _ _ (weak_keep [0, 5, 6, 8, 26, 27, 28, 42, 43, 44] _) ?_
         refine zk ⟨?_⟩
         refine v_region ?_; intro K52 k52
         refine zBinOpW ⟨?_⟩
         refine zMove ⟨?_⟩
         refine k52 _ ?_
         refine n34 _ 1 ?_ ?_ ?_
         ·refine weak_bothS [0, 5, 6, 8, 26, 27, 28, 42, 43, 44] [0, 1, 2] ⟨?_⟩
          rw [hcn, hst]; rfl
         ·omega
         ·show _ < _; omega
       ·skip
        have hwf := Tm.within_facts hum hg hel2 k (2 * i + 1) (by omega)
        have hwl := hwf.1
        obtain ⟨p, hp⟩ : ∃ p, (Tm.within m u (Tm.edges ss) k (2 * i + 1))[b]? = some p := ⟨_, List.getElem?_eq_getElem (by rw [hwl]; omega)⟩
        obtain ⟨q, hq⟩ : ∃ q, (Tm.within m u (Tm.edges ss) k (2 * i + 1))[a]? = some q := ⟨_, List.getElem?_eq_getElem (by rw [hwl]; omega)⟩
        have hpb := hwf.2 b
        rw [Tm.at_get hp] at hpb
        have hqb := hwf.2 a
        rw [Tm.at_get hq] at hqb
        have he : (Tm.edges ss)[2 * i + 1]? = some (b, a, x2) := hes.2
        have hst : (Tm.within m u (Tm.edges ss) k (2 * i + 2)) = Tm.relax (Tm.within m u (Tm.edges ss) k (2 * i + 1)) (b, a, x2) := Tm.within_step he
        have hry := fun h => Tm.relax_yes hp hq (w := x2) h
        have hrn := fun h => Tm.relax_no hp hq (w := x2) h
        have hcn : (Tm.chg m u (Tm.edges ss) k (2 * i + 2)) = ((Tm.chg m u (Tm.edges ss) k (2 * i + 1)) || Tm.trig (Tm.within m u (Tm.edges ss) k (2 * i + 1)) (b, a, x2)) := Tm.chg_next he
        refine v_skip ?_
        refine n37 _ _ (weak_keep [0, 5, 6, 8, 26, 27, 28, 42, 43, 44] _) ?_
        refine zk ⟨?_⟩
        refine v_seq ?_; intro Q53 n53 e53 r53
        refine v_block ?_; intro Q54 n54 x54 e54 r54
        refine v_seq ?_; intro Q55 n55 e55 r55
        refine v_region ?_; intro K56 k56
        have F := Fc.mk (And.intro (fun f => getD_map (f := f) hru) (And.intro @set_map (And.intro (fun f => getD_map (f := f) hx) (And.intro hwl (And.intro (fun f => getD_map (f := f) hp) (And.intro (fun f => getD_map (f := f) hq) @set_map))))))
        refine zIndexAddr ⟨?_⟩
        refine zLoad ⟨?_⟩
        refine zAlloc ⟨?_⟩
        refine zStore ⟨?_⟩
        refine k56 _ ?_
        refine n55 _ _ (weak_keep [0, 5, 6, 8, 10, 26, 27, 28, 42, 43, 44] _) ?_
        refine zk ⟨?_⟩
        refine v_seq ?_; intro Q57 n57 e57 r57
        refine v_draw (by kernel_rfl) ?_; intro K58 q58 k58
        show aAny _ _ _ _ 12 (Array.replicate 12 false) _
        refine zdMove q58 true 0 48 ?_
        refine zdIndexAddr q58 true 1 49 ?_
        refine zdLoad q58 true 2 50 ?_
        refine zdIndexAddr q58 true 3 51 ?_
        refine zdLoad q58 true 4 52 ?_
        refine zdMove q58 true 5 53 ?_
        refine zdIndexAddr q58 true 6 54 ?_
        refine zdLoad q58 true 7 55 ?_
        refine zdIndexAddr q58 true 8 56 ?_
        refine zdLoad q58 true 9 57 ?_
        refine zoAssign 10 ⟨?_⟩
        refine zoAssign 11 ⟨?_⟩
        refine aAny_done (by kernel_rfl) ?_
        refine k58 _ ?_
        refine n57 _ _ (weak_keep [0, 5, 6, 8, 10, 11, 12, 26, 27, 28, 42, 43, 44] _) ?_
        refine zk ⟨?_⟩
        refine v_seq ?_; intro Q59 n59 e59 r59
        refine v_region ?_; intro K60 k60
        refine zMove ⟨?_⟩
        refine zBinOp ⟨?_⟩
        refine zMove ⟨?_⟩
        refine zgMove ⟨?_⟩
        refine zgBinOp ⟨?_⟩
        refine zgMove ⟨?_⟩
        refine zgMove ⟨?_⟩
        refine zgFieldAddr ⟨?_⟩
        refine zgLoad ⟨?_⟩
        refine zgBinOpW ⟨?_⟩
        refine zgMove ⟨?_⟩
        refine zgBinOp ⟨?_⟩
        refine zgPick ⟨?_⟩
        refine zPick ⟨?_⟩
        refine k60 _ ?_
        refine n59 _ _ (weak_keep [0, 5, 6, 8, 10, 11, 26, 27, 28, 42, 43, 44, 71] _) ?_
        refine zk ⟨?_⟩
        refine v_condS _ rfl ?_ ?_
        ·intro hc3
         obtain ⟨hty, hre⟩ := hry (by omega)
         rw [hre] at hst
         rw [hty, Bool.or_true] at hcn
         refine v_seq ?_; intro Q62 n62 e62 r62
         refine v_region ?_; intro K63 k63
         refine zMove ⟨?_⟩
         refine zIndexAddr ⟨?_⟩
         refine zLoad ⟨?_⟩
         refine zMove ⟨?_⟩
         refine zFieldAddr ⟨?_⟩
         refine zLoad ⟨?_⟩
         refine zBinOpW ⟨?_⟩
         refine zIndexAddr ⟨?_⟩
         refine zStore ⟨?_⟩
         refine k63 _ ?_
         refine n62 _ _ (weak_keep [0, 5, 8, 26, 27, 28, 42, 43, 44] _) ?_
         refine zk ⟨?_⟩
         refine v_region ?_; intro K64 k64
         refine zAssign ⟨?_⟩
         refine k64 _ ?_
         refine n54 _ ?_
         refine n53 _ _ (weak_keep [0, 5, 6, 8, 26, 27, 28, 42, 43, 44] _) ?_
         refine zk ⟨?_⟩
         refine v_region ?_; intro K65 k65
         refine zBinOpW ⟨?_⟩
         refine zMove ⟨?_⟩
         refine k65 _ ?_
         refine n34 _ 2 ?_ ?_ ?_
         ·refine weak_bothS [0, 5, 6, 8, 26, 27, 28, 42, 43, 44] [0, 1, 2] ⟨?_⟩
          rw [hcn, hst]; rfl
         ·omega
         ·show _ < _; omega
        ·intro hc3
         obtain ⟨htn, hre⟩ := hrn (by omega)
         rw [hre] at hst
         rw [htn, Bool.or_false] at hcn
         refine v_skip ?_
         refine n54 _ ?_
         refine n53 _ _ (weak_keep [0, 5, 6, 8, 26, 27, 28, 42, 43, 44] _) ?_
         refine zk ⟨?_⟩
         refine v_region ?_; intro K66 k66
         refine zBinOpW ⟨?_⟩
         refine zMove ⟨?_⟩
         refine k66 _ ?_
         refine n34 _ 2 ?_ ?_ ?_
         ·refine weak_bothS [0, 5, 6, 8, 26, 27, 28, 42, 43, 44] [0, 1, 2] ⟨?_⟩
          rw [hcn, hst]; rfl
         ·omega
         ·show _ < _; omega
      ·intro hc2
       refine v_exit ?_
       refine e37 _ _ ?_
       refine e34 _ _ ?_
       refine x33 _ ?_
       refine n28 _ ?_
       refine n27 _ _ (weak_keep [0, 5, 6, 26, 27, 28] _) ?_
       refine zk ⟨?_⟩
       refine v_region ?_; intro K67 k67
       refine zBinOpW ⟨?_⟩
       refine zMove ⟨?_⟩
       refine k67 _ ?_
       refine n22 _ (i + 1) ?_ ?_ ?_
       ·refine weak_bothS [0, 5, 6, 26, 27, 28] [0] ⟨?_⟩
        rw [show 2 * i + j = 2 * (i + 1) by omega]; rfl
       ·exact hlt
       ·show _ < _; omega
    ·intro hc1
     refine v_exit ?_
     refine e25 _ _ ?_
     refine e22 _ _ ?_
     refine x21 _ ?_
     refine n16 _ ?_
     refine n11 _ (k + 1, (Tm.chg m u (Tm.edges ss) k (Tm.edges ss).length)) ?_ ?_ ?_
     ·refine weak_bothS [0, 5, 6] [0] ⟨?_⟩
      rw [show (Tm.within m u (Tm.edges ss) k (2 * i)) = (Tm.within m u (Tm.edges ss) (k + 1) 0) from Tm.within_end (by omega), show 2 * i = (Tm.edges ss).length by omega]
     ·exact ⟨by show k + 1 ≤ m + 1; omega, (Tm.end_of hum hg1 hk).1, (Tm.end_of hum hg1 hk).2⟩
     ·show _ < _; show m + 1 - (k + 1) < m + 1 - k; omega
  ·intro hc0
   refine v_exit ?_
   refine e12 _ _ ?_
   refine e11 _ _ ?_
   refine x10 _ ?_
   refine n7 _ _ (weak_keep [5] _) ?_
   refine zk ⟨?_⟩
   refine v_seq ?_; intro Q68 n68 e68 r68
   refine v_region ?_; intro K69 k69
   refine zMove ⟨?_⟩
   refine zAssign ⟨?_⟩
   refine k69 _ ?_
   refine n68 _ _ (weak_keep [4] _) ?_
   refine zk ⟨?_⟩
   refine v_ret ?_
   refine r0 _ ?_
   refine zf ⟨?_⟩
   rw [show (Tm.within m u (Tm.edges ss) k 0) = Tm.times m ss u from hcf hc0]
   exact ret_ref rfl (.inl rfl)
set_option maxRecDepth 8000 in
set_option maxHeartbeats 1000000 in
theorem toTimes_con (n : Int) (ss : List (Int × Int × Int)) (node : Int) (hn : 1 ≤ n ∧ n ≤ 14) (hu : 0 ≤ node ∧ node < n) (hss : ∀ s ∈ ss, strOK n s = true) (hsl : ss.length ≤ 40) : Con Try.prog 156 [.agg [.int .i64 n, .sl (ss.map (fun t : Int × Int × Int => V.agg [V.int .i64 t.1, V.int .i64 t.2.1, V.int .i64 t.2.2]))], .int .i64 node] [] (.ref 0) [.arr ((tmL n ss node).map (V.int .i64)) .flat] := by
 obtain ⟨m, rfl⟩ := Int.eq_ofNat_of_zero_le (show 0 ≤ n by omega)
 obtain ⟨u, rfl⟩ := Int.eq_ofNat_of_zero_le hu.1
 have hum : u < m := by omega
 have hm1 : 1 ≤ m ∧ m ≤ 14 := by omega
 have hg := edges_good hm1 hss
 have hg1 : ∀ e ∈ Tm.edges ss, Tm.Good m e := fun e he => (hg e he).1
 have hel := Tm.edges_len ss
 have hel2 : (Tm.edges ss).length ≤ 80 := by omega
 rw [show tmL (m : Int) ss (u : Int) = Tm.times m ss u from rfl]
 have hru : (List.replicate m (-1 : Int))[u]? = some (-1) := by rw [List.getElem?_replicate, if_pos hum]
 have hfz := fillI_zero m
 refine v_con [.tmp 4] [] Try.func156 rfl rfl rfl (by simp [Try.ntmps156]) ?_
 intro Q0 n0 r0
 simp only [Try.ntmps156, envFrom, Nat.reduceAdd]
 have T := Tys.mk (And.intro Ty.t3 (And.intro Ty.t26 (And.intro Ty.t70 (And.intro Ty.t72 (And.intro Ty.t182 Ty.t216)))))
 have F := Fc.mk True.intro
 refine v_seq ?_; intro Q1 n1 e1 r1
 refine v_region ?_; intro K2 k2
 have F := Fc.mk (And.intro (fun f => getD_map (f := f) hru) @set_map)
 refine zBox ⟨?_⟩
 refine zAssign ⟨?_⟩
 refine k2 _ ?_
 refine n1 _ _ (weak_keep [1, 2] _) ?_
 refine zk ⟨?_⟩
 refine v_seq ?_; intro Q3 n3 e3 r3
 refine v_region ?_; intro K4 k4
 refine zFieldAddr ⟨?_⟩
 refine zLoad ⟨?_⟩
 refine zMakeSlice ⟨?_⟩
 refine zAssign ⟨?_⟩
 refine k4 _ ?_
 refine n3 _ _ (weak_keep [1, 2, 5] _) ?_
 refine zk ⟨?_⟩
 refine v_seq ?_; intro Q5 n5 e5 r5
 refine v_seq ?_; intro Q6 n6 e6 r6
 refine v_region ?_; intro K7 k7
 refine zMove ⟨?_⟩
 refine zLen ⟨?_⟩
 refine zMove ⟨?_⟩
 refine k7 _ ?_
 refine n6 _ _ (weak_keep [1, 2, 5, 18, 19] _) ?_
 refine zk ⟨?_⟩
 refine v_block ?_; intro Q8 n8 x8 e8 r8
 refine v_loop (fun i => ⟨[(1, .int .i64 (Nat.cast u)), (2, .ptr 0 0 0), (5, .ref 1), (18, .int .i64 (Nat.cast m)), (19, .int .i64 (Nat.cast i))], [.box (.agg [.int .i64 (Nat.cast m), .sl (ss.map (fun t : Int × Int × Int => V.agg [V.int .i64 t.1, V.int .i64 t.2.1, V.int .i64 t.2.2]))]) .shal, .arr ((fillI m i).map (V.int .i64)) .flat], false, 97, 0⟩) (fun i => i ≤ m) (fun i => m - i) 0 ?_ ?_ ?_
 ·refine weak_bothS [1, 2, 5, 18, 19] [0, 2] ⟨?_⟩
  first | (rw [hfz]; rfl) | (simp [hfz]; done) | trace_state
 ·exact Nat.zero_le _
 ·rintro i hok9 Q9 n9 e9 r9
  have hi1 : i ≤ m := hok9
  refine v_seq ?_; intro Q10 n10 e10 r10
  refine v_region ?_; intro K11 k11
  refine zBinOp ⟨?_⟩
  refine k11 _ ?_
  refine n10 _ _ (weak_keep [1, 2, 5, 18, 19, 20] _) ?_
  refine zk ⟨?_⟩
  refine v_seq ?_; intro Q12 n12 e12 r12
  refine v_condS _ rfl ?_ ?_
  ·intro hc0
   have hfl := fillI_len hi1
   have hlt : i < m := by omega
   have hfs := fillI_set hlt
   obtain ⟨w, hw⟩ : ∃ w, (fillI m i)[i]? = some w := ⟨_, List.getElem?_eq_getElem (by rw [hfl]; omega)⟩
   refine v_skip ?_
   refine n12 _ _ (weak_keep [1, 2, 5, 18, 19] _) ?_
   refine zk ⟨?_⟩
   refine v_seq ?_; intro Q14 n14 e14 r14
   refine v_block ?_; intro Q15 n15 x15 e15 r15
   refine v_seq ?_; intro Q16 n16 e16 r16
   refine v_region ?_; intro K17 k17
   have F := Fc.mk (And.intro (fun f => getD_map (f := f) hru) (And.intro @set_map (And.intro hfl (And.intro (fun f => getD_map (f := f) hw) hfs))))
   refine zMove ⟨?_⟩
   refine zAssign ⟨?_⟩
   refine k17 _ ?_
   refine n16 _ _ (weak_keep [1, 2, 5, 6, 18, 19] _) ?_
   refine zk ⟨?_⟩
   refine v_region ?_; intro K18 k18
   refine zMove ⟨?_⟩
   refine zMove ⟨?_⟩
   refine zIndexAddr ⟨?_⟩
   refine zStore ⟨?_⟩
   refine k18 _ ?_
   refine n15 _ ?_
   refine n14 _ _ (weak_keep [1, 2, 5, 18, 19] _) ?_
   refine zk ⟨?_⟩
   refine v_region ?_; intro K19 k19
   refine zBinOpW ⟨?_⟩
   refine zMove ⟨?_⟩
   refine k19 _ ?_
   refine n9 _ (i + 1) ?_ ?_ ?_
   ·refine weak_bothS [1, 2, 5, 18, 19] [0, 1] ⟨?_⟩
    rfl
   ·exact hlt
   ·show _ < _; omega
  ·intro hc0
   have hend := fillI_end (show i = m by omega)
   refine v_exit ?_
   refine e12 _ _ ?_
   refine e9 _ _ ?_
   refine x8 _ ?_
   refine n5 _ _ (weak_keep [1, 2, 5] _) ?_
   refine zk ⟨?_⟩
   refine v_seq ?_; intro Q20 n20 e20 r20
   refine v_region ?_; intro K21 k21
   have F := Fc.mk (And.intro (fun f => getD_map (f := f) hru) (And.intro @set_map hend))
   refine zMove ⟨?_⟩
   refine zMove ⟨?_⟩
   refine zIndexAddr ⟨?_⟩
   refine zStore ⟨?_⟩
   refine k21 _ ?_
   refine n20 _ _ (weak_keep [2, 5] _) ?_
   refine zk ⟨?_⟩
   refine v_seq ?_; intro Q22 n22 e22 r22
   refine v_seq ?_; intro Q23 n23 e23 r23
   refine v_region ?_; intro K24 k24
   refine zAssign ⟨?_⟩
   refine k24 _ ?_
   refine n23 _ _ (weak_keep [2, 5, 7] _) ?_
   refine zk ⟨?_⟩
   refine v_block ?_; intro Q25 n25 x25 e25 r25
   refine v_loop (fun k => ⟨[(2, .ptr 0 0 0), (5, .ref 1), (7, .int .i64 (Nat.cast k))], [.box (.agg [.int .i64 (Nat.cast m), .sl (ss.map (fun t : Int × Int × Int => V.agg [V.int .i64 t.1, V.int .i64 t.2.1, V.int .i64 t.2.2]))]) .shal, .arr ((Tm.within m u (Tm.edges ss) k 0).map (V.int .i64)) .flat], false, 97, 0⟩) (fun k => k ≤ m) (fun k => m - k) 0 ?_ ?_ ?_
   ·refine weak_bothS [2, 5, 7] [0, 1] ⟨?_⟩
    rfl
   ·exact Nat.zero_le _
   ·rintro k hok26 Q26 n26 e26 r26
    have hk1 : k ≤ m := hok26
    refine v_seq ?_; intro Q27 n27 e27 r27
    refine v_seq ?_; intro Q28 n28 e28 r28
    refine v_region ?_; intro K29 k29
    refine zMove ⟨?_⟩
    refine zFieldAddr ⟨?_⟩
    refine zLoad ⟨?_⟩
    refine zBinOp ⟨?_⟩
    refine k29 _ ?_
    refine n28 _ _ (weak_keep [2, 5, 7, 32] _) ?_
    refine zk ⟨?_⟩
    refine v_condS _ rfl ?_ ?_
    ·intro hc1
     have hk : k < m := by omega
     refine v_skip ?_
     refine n27 _ _ (weak_keep [2, 5, 7] _) ?_
     refine zk ⟨?_⟩
     refine v_seq ?_; intro Q31 n31 e31 r31
     refine v_block ?_; intro Q32 n32 x32 e32 r32
     refine v_seq ?_; intro Q33 n33 e33 r33
     refine v_region ?_; intro K34 k34
     refine zFieldAddr ⟨?_⟩
     refine zLoad ⟨?_⟩
     refine zLen ⟨?_⟩
     refine zMove ⟨?_⟩
     refine k34 _ ?_
     refine n33 _ _ (weak_keep [2, 5, 7, 36, 37, 38] _) ?_
     refine zk ⟨?_⟩
     refine v_block ?_; intro Q35 n35 x35 e35 r35
     refine v_loop (fun i => ⟨[(2, .ptr 0 0 0), (5, .ref 1), (7, .int .i64 (Nat.cast k)), (36, .sl (ss.map (fun t : Int × Int × Int => V.agg [V.int .i64 t.1, V.int .i64 t.2.1, V.int .i64 t.2.2]))), (37, .int .i64 ss.length), (38, .int .i64 (Nat.cast i))], [.box (.agg [.int .i64 (Nat.cast m), .sl (ss.map (fun t : Int × Int × Int => V.agg [V.int .i64 t.1, V.int .i64 t.2.1, V.int .i64 t.2.2]))]) .shal, .arr ((Tm.within m u (Tm.edges ss) k (2 * i)).map (V.int .i64)) .flat], false, 97, 0⟩) (fun i => i ≤ ss.length) (fun i => ss.length - i) 0 ?_ ?_ ?_
     ·refine weak_bothS [2, 5, 7, 36, 37, 38] [0, 1] ⟨?_⟩
      rfl
     ·exact Nat.zero_le _
     ·rintro i hok36 Q36 n36 e36 r36
      have hi1 : i ≤ ss.length := hok36
      refine v_seq ?_; intro Q37 n37 e37 r37
      refine v_region ?_; intro K38 k38
      refine zBinOp ⟨?_⟩
      refine k38 _ ?_
      refine n37 _ _ (weak_keep [2, 5, 7, 36, 37, 38, 39] _) ?_
      refine zk ⟨?_⟩
      refine v_seq ?_; intro Q39 n39 e39 r39
      refine v_condS _ rfl ?_ ?_
      ·intro hc2
       have hlt : i < ss.length := by omega
       obtain ⟨⟨x0, x1, x2⟩, hx⟩ : ∃ x : Int × Int × Int, ss[i]? = some x := ⟨ss[i]'(by omega), List.getElem?_eq_getElem (by omega)⟩
       have hso := strOK_facts (by omega) (hss _ (List.mem_of_getElem? hx))
       simp only [] at hso
       obtain ⟨a, rfl⟩ := Int.eq_ofNat_of_zero_le hso.1
       obtain ⟨b, rfl⟩ := Int.eq_ofNat_of_zero_le hso.2.2.1
       have hes := Tm.edges_at hx
       simp only [Int.toNat_natCast] at hes
       refine v_skip ?_
       refine n39 _ _ (weak_keep [2, 5, 7, 36, 37, 38] _) ?_
       refine zk ⟨?_⟩
       refine v_seq ?_; intro Q41 n41 e41 r41
       refine v_block ?_; intro Q42 n42 x42 e42 r42
       refine v_seq ?_; intro Q43 n43 e43 r43
       refine v_region ?_; intro K44 k44
       have F := Fc.mk (And.intro (fun f => getD_map (f := f) hru) (And.intro @set_map (And.intro hend (fun f => getD_map (f := f) hx))))
       refine zIndexAddr ⟨?_⟩
       refine zLoad ⟨?_⟩
       refine zAlloc ⟨?_⟩
       refine zStore ⟨?_⟩
       refine k44 _ ?_
       refine n43 _ _ (weak_keep [2, 5, 7, 9, 36, 37, 38] _) ?_
       refine zk ⟨?_⟩
       refine v_seq ?_; intro Q45 n45 e45 r45
       refine v_region ?_; intro K46 k46
       refine zFieldAddr ⟨?_⟩
       refine zLoad ⟨?_⟩
       refine zFieldAddr ⟨?_⟩
       refine zLoad ⟨?_⟩
       refine zBuildSlice ⟨?_⟩
       refine zFieldAddr ⟨?_⟩
       refine zLoad ⟨?_⟩
       refine zFieldAddr ⟨?_⟩
       refine zLoad ⟨?_⟩
       refine zBuildSlice ⟨?_⟩
       refine zBuildSlice ⟨?_⟩
       refine zLen ⟨?_⟩
       refine zMove ⟨?_⟩
       refine k46 _ ?_
       refine n45 _ _ (weak_keep [2, 5, 7, 9, 36, 37, 38, 52, 53, 54] _) ?_
       refine zk ⟨?_⟩
       refine v_block ?_; intro Q47 n47 x47 e47 r47
       refine v_loop (fun j => ⟨[(2, .ptr 0 0 0), (5, .ref 1), (7, .int .i64 (Nat.cast k)), (9, .ptr 2 0 0), (36, .sl (ss.map (fun t : Int × Int × Int => V.agg [V.int .i64 t.1, V.int .i64 t.2.1, V.int .i64 t.2.2]))), (37, .int .i64 ss.length), (38, .int .i64 (Nat.cast i)), (52, .ref 5), (53, .int .i64 2), (54, .int .i64 (Nat.cast j))], [.box (.agg [.int .i64 (Nat.cast m), .sl (ss.map (fun t : Int × Int × Int => V.agg [V.int .i64 t.1, V.int .i64 t.2.1, V.int .i64 t.2.2]))]) .shal, .arr ((Tm.within m u (Tm.edges ss) k (2 * i + j)).map (V.int .i64)) .flat, .box (.agg [V.int .i64 (Nat.cast a), V.int .i64 (Nat.cast b), V.int .i64 x2]) .flat, .arr [V.int .i64 (Nat.cast a), V.int .i64 (Nat.cast b)] .flat, .arr [V.int .i64 (Nat.cast b), V.int .i64 (Nat.cast a)] .flat, .arr [V.ref 3, V.ref 4] .mix], false, 97, 0⟩) (fun j => j ≤ 2) (fun j => 2 - j) 0 ?_ ?_ ?_
       ·refine weak_of [2, 5, 7, 9, 36, 37, 38, 52, 53, 54] ?_
        simp only [keep_mk, keepE_nil, keepE_cons, look_cons, look_nil, Nat.reduceEqDiff, reduceIte]
        rfl
       ·exact Nat.zero_le _
       ·rintro j hok48 Q48 n48 e48 r48
        have hj1 : j ≤ 2 := hok48
        refine v_seq ?_; intro Q49 n49 e49 r49
        refine v_region ?_; intro K50 k50
        refine zBinOp ⟨?_⟩
        refine k50 _ ?_
        refine n49 _ _ (weak_keep [2, 5, 7, 9, 36, 37, 38, 52, 53, 54, 55] _) ?_
        refine zk ⟨?_⟩
        refine v_seq ?_; intro Q51 n51 e51 r51
        refine v_condS _ rfl ?_ ?_
        ·intro hc3
         have hj : j = 0 ∨ j = 1 := by omega
         rcases hj with rfl | rfl
         ·skip
          have hwf := Tm.within_facts hum hg hel2 k (2 * i) (by omega)
          have hwl := hwf.1
          obtain ⟨p, hp⟩ : ∃ p, (Tm.within m u (Tm.edges ss) k (2 * i))[a]? = some p := ⟨_, List.getElem?_eq_getElem (by rw [hwl]; omega)⟩
          obtain ⟨q, hq⟩ : ∃ q, (Tm.within m u (Tm.edges ss) k (2 * i))[b]? = some q := ⟨_, List.getElem?_eq_getElem (by rw [hwl]; omega)⟩
          have hpb := hwf.2 a
          rw [Tm.at_get hp] at hpb
          have hqb := hwf.2 b
          rw [Tm.at_get hq] at hqb
          have he : (Tm.edges ss)[2 * i]? = some (a, b, x2) := hes.1
          have hst : (Tm.within m u (Tm.edges ss) k (2 * i + 1)) = Tm.relax (Tm.within m u (Tm.edges ss) k (2 * i)) (a, b, x2) := Tm.within_step he
          have hry := fun h => Tm.relax_yes hp hq (w := x2) h
          have hrn := fun h => Tm.relax_no hp hq (w := x2) h
          refine v_skip ?_
          refine n51 _ _ (weak_keep [2, 5, 7, 9, 36, 37, 38, 52, 53, 54] _) ?_
          refine zk ⟨?_⟩
          refine v_seq ?_; intro Q53 n53 e53 r53
          refine v_block ?_; intro Q54 n54 x54 e54 r54
          refine v_seq ?_; intro Q55 n55 e55 r55
          refine v_region ?_; intro K56 k56
          have F := Fc.mk (And.intro (fun f => getD_map (f := f) hru) (And.intro @set_map (And.intro hend (And.intro (fun f => getD_map (f := f) hx) (And.intro hwl (And.intro (fun f => getD_map (f := f) hp) (And.intro (fun f => getD_map (f := f) hq) @set_map)))))))
          refine zIndexAddr ⟨?_⟩
          refine zLoad ⟨?_⟩
          refine zAssign ⟨?_⟩
          refine k56 _ ?_
          refine n55 _ _ (weak_keep [2, 5, 7, 9, 11, 36, 37, 38, 52, 53, 54] _) ?_
          refine zk ⟨?_⟩
          refine v_seq ?_; intro Q57 n57 e57 r57
          refine v_draw (by kernel_rfl) ?_; intro K58 q58 k58
          show aAny _ _ _ _ 11 (Array.replicate 11 false) _
          refine zdMove q58 true 0 58 ?_
          refine zdMove q58 true 1 59 ?_
          refine zdIndexAddr q58 true 2 60 ?_
          refine zdLoad q58 true 3 61 ?_
          refine zdIndexAddr q58 true 4 62 ?_
          refine zdLoad q58 true 5 63 ?_
          refine zdMove q58 true 6 64 ?_
          refine zdIndexAddr q58 true 7 65 ?_
          refine zdLoad q58 true 8 66 ?_
          refine zoAssign 9 ⟨?_⟩
          refine zoAssign 10 ⟨?_⟩
          refine aAny_done (by kernel_rfl) ?_
          refine k58 _ ?_
          refine n57 _ _ (weak_keep [2, 5, 7, 9, 12, 13, 36, 37, 38, 52, 53, 54] _) ?_
          refine zk ⟨?_⟩
          refine v_seq ?_; intro Q59 n59 e59 r59
          refine v_draw (by kernel_rfl) ?_; intro K60 q60 k60
          show aAny _ _ _ _ 20 (Array.replicate 20 false) _
          refine zdMove q60 true 0 67 ?_
          refine zdBinOp q60 true 1 68 ?_
          refine zdMove q60 true 2 69 ?_
          refine zdgMove q60 true 3 70 ?_
          refine zdgMove q60 true 4 71 ?_
          refine zdgIndexAddr q60 true 5 72 ?_
          refine zdgLoad q60 true 6 73 ?_
          refine zdgBinOp q60 true 7 74 ?_
          refine zdgMove q60 true 8 75 ?_
          refine zdgMove q60 true 9 76 ?_
          refine zdgFieldAddr q60 true 10 77 ?_
          refine zdgLoad q60 true 11 78 ?_
          refine zdgBinOpW q60 true 12 79 ?_
          refine zdgMove q60 true 13 80 ?_
          refine zdgMove q60 true 14 81 ?_
          refine zdgIndexAddr q60 true 15 82 ?_
          refine zdgLoad q60 true 16 83 ?_
          refine zdgBinOp q60 true 17 84 ?_
          refine zdgPick q60 true 18 85 ?_
          refine zdPick q60 true 19 86 ?_
          refine aAny_done (by kernel_rfl) ?_
          refine k60 _ ?_
          refine n59 _ _ (weak_keep [2, 5, 7, 9, 12, 13, 36, 37, 38, 52, 53, 54, 86] _) ?_
          refine zk ⟨?_⟩
          refine v_condS _ rfl ?_ ?_
          ·intro hc4
           obtain ⟨hty, hre⟩ := hry (by omega)
           rw [hre] at hst
           refine v_region ?_; intro K62 k62
           refine zMove ⟨?_⟩
           refine zMove ⟨?_⟩
           refine zMove ⟨?_⟩
           refine zFieldAddr ⟨?_⟩
           refine zLoad ⟨?_⟩
           refine zBinOpW ⟨?_⟩
           refine zIndexAddr ⟨?_⟩
           refine zStore ⟨?_⟩
           refine k62 _ ?_
           refine n54 _ ?_
           refine n53 _ _ (weak_keep [2, 5, 7, 9, 36, 37, 38, 52, 53, 54] _) ?_
           refine zk ⟨?_⟩
           refine v_region ?_; intro K63 k63
           refine zBinOpW ⟨?_⟩
           refine zMove ⟨?_⟩
           refine k63 _ ?_
           refine n48 _ 1 ?_ ?_ ?_
           ·refine weak_of [2, 5, 7, 9, 36, 37, 38, 52, 53, 54] ?_
            simp only [keep_mk, keepE_nil, keepE_cons, look_cons, look_nil, Nat.reduceEqDiff, reduceIte]
            rw [hst]; rfl
           ·omega
           ·show _ < _; omega
          ·intro hc4
           obtain ⟨htn, hre⟩ := hrn (by omega)
           rw [hre] at hst
           refine v_skip ?_
           refine n54 _ ?_
           refine n53 _ _ (weak_keep [2, 5, 7, 9, 36, 37, 38, 52, 53, 54] _) ?_
           refine zk ⟨?_⟩
           refine v_region ?_; intro K64 k64
           refine zBinOpW ⟨?_⟩
           refine zMove ⟨?_⟩
           refine k64 _ ?_
           refine n48 _ 1 ?_ ?_ ?_
           ·refine weak_of [2, 5, 7, 9, 36, 37, 38, 52, 53, 54] ?_
            simp only [keep_mk, keepE_nil, keepE_cons, look_cons, look_nil, Nat.reduceEqDiff, reduceIte]
            rw [hst]; rfl
           ·omega
           ·show _ < _; omega
         ·skip
          have hwf := Tm.within_facts hum hg hel2 k (2 * i + 1) (by omega)
          have hwl := hwf.1
          obtain ⟨p, hp⟩ : ∃ p, (Tm.within m u (Tm.edges ss) k (2 * i + 1))[b]? = some p := ⟨_, List.getElem?_eq_getElem (by rw [hwl]; omega)⟩
          obtain ⟨q, hq⟩ : ∃ q, (Tm.within m u (Tm.edges ss) k (2 * i + 1))[a]? = some q := ⟨_, List.getElem?_eq_getElem (by rw [hwl]; omega)⟩
          have hpb := hwf.2 b
          rw [Tm.at_get hp] at hpb
          have hqb := hwf.2 a
          rw [Tm.at_get hq] at hqb
          have he : (Tm.edges ss)[2 * i + 1]? = some (b, a, x2) := hes.2
          have hst : (Tm.within m u (Tm.edges ss) k (2 * i + 2)) = Tm.relax (Tm.within m u (Tm.edges ss) k (2 * i + 1)) (b, a, x2) := Tm.within_step he
          have hry := fun h => Tm.relax_yes hp hq (w := x2) h
          have hrn := fun h => Tm.relax_no hp hq (w := x2) h
          refine v_skip ?_
          refine n51 _ _ (weak_keep [2, 5, 7, 9, 36, 37, 38, 52, 53, 54] _) ?_
          refine zk ⟨?_⟩
          refine v_seq ?_; intro Q65 n65 e65 r65
          refine v_block ?_; intro Q66 n66 x66 e66 r66
          refine v_seq ?_; intro Q67 n67 e67 r67
          refine v_region ?_; intro K68 k68
          have F := Fc.mk (And.intro (fun f => getD_map (f := f) hru) (And.intro @set_map (And.intro hend (And.intro (fun f => getD_map (f := f) hx) (And.intro hwl (And.intro (fun f => getD_map (f := f) hp) (And.intro (fun f => getD_map (f := f) hq) @set_map)))))))
          refine zIndexAddr ⟨?_⟩
          refine zLoad ⟨?_⟩
          refine zAssign ⟨?_⟩
          refine k68 _ ?_
          refine n67 _ _ (weak_keep [2, 5, 7, 9, 11, 36, 37, 38, 52, 53, 54] _) ?_
          refine zk ⟨?_⟩
          refine v_seq ?_; intro Q69 n69 e69 r69
          refine v_draw (by kernel_rfl) ?_; intro K70 q70 k70
          show aAny _ _ _ _ 11 (Array.replicate 11 false) _
          refine zdMove q70 true 0 58 ?_
          refine zdMove q70 true 1 59 ?_
          refine zdIndexAddr q70 true 2 60 ?_
          refine zdLoad q70 true 3 61 ?_
          refine zdIndexAddr q70 true 4 62 ?_
          refine zdLoad q70 true 5 63 ?_
          refine zdMove q70 true 6 64 ?_
          refine zdIndexAddr q70 true 7 65 ?_
          refine zdLoad q70 true 8 66 ?_
          refine zoAssign 9 ⟨?_⟩
          refine zoAssign 10 ⟨?_⟩
          refine aAny_done (by kernel_rfl) ?_
          refine k70 _ ?_
          refine n69 _ _ (weak_keep [2, 5, 7, 9, 12, 13, 36, 37, 38, 52, 53, 54] _) ?_
          refine zk ⟨?_⟩
          refine v_seq ?_; intro Q71 n71 e71 r71
          refine v_draw (by kernel_rfl) ?_; intro K72 q72 k72
          show aAny _ _ _ _ 20 (Array.replicate 20 false) _
          refine zdMove q72 true 0 67 ?_
          refine zdBinOp q72 true 1 68 ?_
          refine zdMove q72 true 2 69 ?_
          refine zdgMove q72 true 3 70 ?_
          refine zdgMove q72 true 4 71 ?_
          refine zdgIndexAddr q72 true 5 72 ?_
          refine zdgLoad q72 true 6 73 ?_
          refine zdgBinOp q72 true 7 74 ?_
          refine zdgMove q72 true 8 75 ?_
          refine zdgMove q72 true 9 76 ?_
          refine zdgFieldAddr q72 true 10 77 ?_
          refine zdgLoad q72 true 11 78 ?_
          refine zdgBinOpW q72 true 12 79 ?_
          refine zdgMove q72 true 13 80 ?_
          refine zdgMove q72 true 14 81 ?_
          refine zdgIndexAddr q72 true 15 82 ?_
          refine zdgLoad q72 true 16 83 ?_
          refine zdgBinOp q72 true 17 84 ?_
          refine zdgPick q72 true 18 85 ?_
          refine zdPick q72 true 19 86 ?_
          refine aAny_done (by kernel_rfl) ?_
          refine k72 _ ?_
          refine n71 _ _ (weak_keep [2, 5, 7, 9, 12, 13, 36, 37, 38, 52, 53, 54, 86] _) ?_
          refine zk ⟨?_⟩
          refine v_condS _ rfl ?_ ?_
          ·intro hc4
           obtain ⟨hty, hre⟩ := hry (by omega)
           rw [hre] at hst
           refine v_region ?_; intro K74 k74
           refine zMove ⟨?_⟩
           refine zMove ⟨?_⟩
           refine zMove ⟨?_⟩
           refine zFieldAddr ⟨?_⟩
           refine zLoad ⟨?_⟩
           refine zBinOpW ⟨?_⟩
           refine zIndexAddr ⟨?_⟩
           refine zStore ⟨?_⟩
           refine k74 _ ?_
           refine n66 _ ?_
           refine n65 _ _ (weak_keep [2, 5, 7, 9, 36, 37, 38, 52, 53, 54] _) ?_
           refine zk ⟨?_⟩
           refine v_region ?_; intro K75 k75
           refine zBinOpW ⟨?_⟩
           refine zMove ⟨?_⟩
           refine k75 _ ?_
           refine n48 _ 2 ?_ ?_ ?_
           ·refine weak_of [2, 5, 7, 9, 36, 37, 38, 52, 53, 54] ?_
            simp only [keep_mk, keepE_nil, keepE_cons, look_cons, look_nil, Nat.reduceEqDiff, reduceIte]
            rw [hst]; rfl
           ·omega
           ·show _ < _; omega
          ·intro hc4
           obtain ⟨htn, hre⟩ := hrn (by omega)
           rw [hre] at hst
           refine v_skip ?_
           refine n66 _ ?_
           refine n65 _ _ (weak_keep [2, 5, 7, 9, 36, 37, 38, 52, 53, 54] _) ?_
           refine zk ⟨?_⟩
           refine v_region ?_; intro K76 k76
           refine zBinOpW ⟨?_⟩
           refine zMove ⟨?_⟩
           refine k76 _ ?_
           refine n48 _ 2 ?_ ?_ ?_
           ·refine weak_of [2, 5, 7, 9, 36, 37, 38, 52, 53, 54] ?_
            simp only [keep_mk, keepE_nil, keepE_cons, look_cons, look_nil, Nat.reduceEqDiff, reduceIte]
            rw [hst]; rfl
           ·omega
           ·show _ < _; omega
        ·intro hc3
         refine v_exit ?_
         refine e51 _ _ ?_
         refine e48 _ _ ?_
         refine x47 _ ?_
         refine n42 _ ?_
         refine n41 _ _ (weak_keep [2, 5, 7, 36, 37, 38] _) ?_
         refine zk ⟨?_⟩
         refine v_region ?_; intro K77 k77
         refine zBinOpW ⟨?_⟩
         refine zMove ⟨?_⟩
         refine k77 _ ?_
         refine n36 _ (i + 1) ?_ ?_ ?_
         ·refine weak_bothS [2, 5, 7, 36, 37, 38] [0, 1] ⟨?_⟩
          rw [show 2 * i + j = 2 * (i + 1) by omega]; rfl
         ·exact hlt
         ·show _ < _; omega
      ·intro hc2
       refine v_exit ?_
       refine e39 _ _ ?_
       refine e36 _ _ ?_
       refine x35 _ ?_
       refine n32 _ ?_
       refine n31 _ _ (weak_keep [2, 5, 7] _) ?_
       refine zk ⟨?_⟩
       refine v_region ?_; intro K78 k78
       refine zMove ⟨?_⟩
       refine zBinOpW ⟨?_⟩
       refine zAssign ⟨?_⟩
       refine k78 _ ?_
       refine n26 _ (k + 1) ?_ ?_ ?_
       ·refine weak_bothS [2, 5, 7] [0, 1] ⟨?_⟩
        rw [show (Tm.within m u (Tm.edges ss) k (2 * i)) = (Tm.within m u (Tm.edges ss) (k + 1) 0) from Tm.within_end (by omega)]; rfl
       ·exact hk
       ·show _ < _; omega
    ·intro hc1
     refine v_exit ?_
     refine e27 _ _ ?_
     refine e26 _ _ ?_
     refine x25 _ ?_
     refine n22 _ _ (weak_keep [5] _) ?_
     refine zk ⟨?_⟩
     refine v_seq ?_; intro Q79 n79 e79 r79
     refine v_region ?_; intro K80 k80
     refine zMove ⟨?_⟩
     refine zAssign ⟨?_⟩
     refine k80 _ ?_
     refine n79 _ _ (weak_keep [4] _) ?_
     refine zk ⟨?_⟩
     refine v_ret ?_
     refine r0 _ ?_
     refine zf ⟨?_⟩
     have hend2 : k = m := by omega
     subst hend2
     exact ret_ref rfl (.inl rfl)
end Go.Proofs.Ytdgenniiidgimaa
