/- What functions compute (Live). No condition. -/
import Derived.Test.YtdgenniiidgimaaTy
import Derived.Test.YtdgenniiidgimaaVmG
import Derived.Test.YtdgenniiidgimaaWAlarm
set_option linter.unusedSimpArgs false
set_option linter.unusedVariables false
set_option linter.defProp false
namespace Go.Proofs.Ytdgenniiidgimaa
open Go Go.Vm

theorem snoc_sig {l : List (Int × Int)} {a b : Int} : l.map (fun t : Int × Int => V.agg [V.int .i64 t.1, V.int .i64 t.2]) ++ [V.agg [V.int .i64 a, V.int .i64 b]] = (l ++ [(a, b)]).map (fun t : Int × Int => V.agg [V.int .i64 t.1, V.int .i64 t.2]) := by rw [List.map_append]; rfl
theorem live_step {l : List (Int × Int × Int × Bool)} {s : List (Int × Int)} {i : Nat} {x : (Int × Int)} (h : s[i]? = some x) : (s.take (i + 1)).filter (liveB l) = (s.take i).filter (liveB l) ++ (if liveB l x = true then [x] else []) := by
  rw [List.take_add_one, h, Option.toList_some, List.filter_append]
  congr 1
  by_cases q : liveB l x = true
  · simp [q]
  · simp [q]

set_option maxHeartbeats 1000000 in
theorem alLive_con (l : List (Int × Int × Int × Bool)) (s : List (Int × Int)) (hl : l.length ≤ 1048576) (hs : s.length ≤ 1048576) : Con Try.prog 91 [.sl (l.map (fun t : Int × Int × Int × Bool => V.agg [V.int .i64 t.1, V.int .i64 t.2.1, V.int .i64 t.2.2.1, V.bool t.2.2.2])), .sl (s.map (fun t : Int × Int => V.agg [V.int .i64 t.1, V.int .i64 t.2]))] [] (.ref 0) [.arr ((s.filter (liveB l)).map (fun t : Int × Int => V.agg [V.int .i64 t.1, V.int .i64 t.2])) .flat] := by
 refine v_con [.tmp 4] [] Try.func91 rfl rfl rfl (by simp [Try.ntmps91]) ?_
 intro Q0 n0 r0
 simp only [Try.ntmps91, envFrom, Nat.reduceAdd]
 have T := Tys.mk (And.intro Ty.t3 (And.intro Ty.t4 (And.intro Ty.t29 (And.intro Ty.t31 (And.intro Ty.t57 Ty.t59)))))
 have F := Fc.mk True.intro
 refine v_seq ?_; intro Q1 n1 e1 r1
 refine v_region ?_; intro K2 k2
 refine zAssign ⟨?_⟩
 refine k2 _ ?_
 refine n1 _ _ (weak_keep [0, 1] _) ?_
 refine zk ⟨?_⟩
 refine v_seq ?_; intro Q3 n3 e3 r3
 refine v_region ?_; intro K4 k4
 refine zAssign ⟨?_⟩
 refine k4 _ ?_
 refine n3 _ _ (weak_keep [0, 1, 5] _) ?_
 refine zk ⟨?_⟩
 refine v_seq ?_; intro Q5 n5 e5 r5
 refine v_seq ?_; intro Q6 n6 e6 r6
 refine v_region ?_; intro K7 k7
 refine zMove ⟨?_⟩
 refine zLen ⟨?_⟩
 refine zMove ⟨?_⟩
 refine k7 _ ?_
 refine n6 _ _ (weak_keep [0, 5, 9, 10, 11] _) ?_
 refine zk ⟨?_⟩
 refine v_block ?_; intro Q8 n8 x8 e8 r8
 refine v_loop (fun p => ⟨[(0, .sl (l.map (fun t : Int × Int × Int × Bool => V.agg [V.int .i64 t.1, V.int .i64 t.2.1, V.int .i64 t.2.2.1, V.bool t.2.2.2]))), (5, .ref 0), (9, .sl (s.map (fun t : Int × Int => V.agg [V.int .i64 t.1, V.int .i64 t.2]))), (10, .int .i64 s.length), (11, .int .i64 (Nat.cast p.1))], [.arr (p.2.map (fun t : Int × Int => V.agg [V.int .i64 t.1, V.int .i64 t.2])) .flat], false, 35, 0⟩) (fun p => p.1 ≤ s.length ∧ p.2.length ≤ p.1 ∧ p.2 = (s.take p.1).filter (liveB l)) (fun p => s.length - p.1) ((0, []) : Nat × List (Int × Int)) ?_ ?_ ?_
 ·refine weak_bothS [0, 5, 9, 10, 11] [1] ⟨?_⟩
  rfl
 ·exact ⟨Nat.zero_le _, Nat.le_refl _, rfl⟩
 ·rintro ⟨i, acc⟩ hok9 Q9 n9 e9 r9
  obtain ⟨hi1, hal, hR⟩ := hok9
  simp only [] at hi1 hal hR ⊢
  refine v_seq ?_; intro Q10 n10 e10 r10
  refine v_region ?_; intro K11 k11
  refine zBinOp ⟨?_⟩
  refine k11 _ ?_
  refine n10 _ _ (weak_keep [0, 5, 9, 10, 11, 12] _) ?_
  refine zk ⟨?_⟩
  refine v_seq ?_; intro Q12 n12 e12 r12
  refine v_condS _ rfl ?_ ?_
  ·intro hc0
   have hlt : i < s.length := by omega
   obtain ⟨⟨x0, x1⟩, hx⟩ : ∃ x : Int × Int, s[i]? = some x := ⟨s[i]'(by omega), List.getElem?_eq_getElem (by omega)⟩
   have hst := live_step (l := l) hx
   rcases findD_det x1 l 0 with ⟨hf1, hf2⟩ | ⟨j, ⟨y0, y1, y2, y3⟩, hf1, hy, hf2⟩
   ·skip
    have hneg : decide ((0 : Int) ≤ findD x1 0 l) = false := by rw [hf1]; rfl
    have hlv : liveB l (x0, x1) = false := by simp only [liveB, hf2]
    refine v_skip ?_
    refine n12 _ _ (weak_keep [0, 5, 9, 10, 11] _) ?_
    refine zk ⟨?_⟩
    refine v_seq ?_; intro Q14 n14 e14 r14
    refine v_block ?_; intro Q15 n15 x15 e15 r15
    refine v_seq ?_; intro Q16 n16 e16 r16
    refine v_region ?_; intro K17 k17
    have F := Fc.mk (And.intro (fun f => getD_map (f := f) hx) (And.intro hneg (And.intro @Bool.and_false @Bool.false_and)))
    refine zIndexAddr ⟨?_⟩
    refine zLoad ⟨?_⟩
    refine zAlloc ⟨?_⟩
    refine zStore ⟨?_⟩
    refine k17 _ ?_
    refine n16 _ _ (weak_keep [0, 5, 7, 9, 10, 11] _) ?_
    refine zk ⟨?_⟩
    refine v_seq ?_; intro Q18 n18 e18 r18
    refine v_region ?_; intro K19 k19
    refine zMove ⟨?_⟩
    refine zFieldAddr ⟨?_⟩
    refine zLoad ⟨?_⟩
    refine zc (alFind_con l x1 hl) ⟨?_⟩
    refine zAssign ⟨?_⟩
    refine k19 _ ?_
    refine n18 _ _ (weak_keep [0, 5, 7, 8, 9, 10, 11] _) ?_
    refine zk ⟨?_⟩
    refine v_seq ?_; intro Q20 n20 e20 r20
    refine v_region ?_; intro K21 k21
    refine zMove ⟨?_⟩
    refine zBinOp ⟨?_⟩
    refine zMove ⟨?_⟩
    refine zgMove ⟨?_⟩
    refine zgMove ⟨?_⟩
    refine zgIndexAddr ⟨?_⟩
    refine zgFieldAddr ⟨?_⟩
    refine zgLoad ⟨?_⟩
    refine zgUnOp ⟨?_⟩
    refine zPick ⟨?_⟩
    refine k21 _ ?_
    refine n20 _ _ (weak_keep [0, 5, 7, 9, 10, 11, 28] _) ?_
    refine zk ⟨?_⟩
    refine v_cond _ rfl ?_ ?_
    ·intro hc1
     exfalso; simp at hc1
    ·intro hc1
     try simp only [zC, reduceCtorEq] at hc1
     refine v_skip ?_
     refine n15 _ ?_
     refine n14 _ _ (weak_keep [0, 5, 9, 10, 11] _) ?_
     refine zk ⟨?_⟩
     refine v_region ?_; intro K23 k23
     refine zBinOpW ⟨?_⟩
     refine zMove ⟨?_⟩
     refine k23 _ ?_
     refine n9 _ (i + 1, acc) ?_ ?_ ?_
     ·refine weak_bothS [0, 5, 9, 10, 11] [0] ⟨?_⟩
      rfl
     ·exact ⟨hlt, by show acc.length ≤ i + 1; omega, by show acc = _; rw [hst, hlv, ← hR]; simp⟩
     ·show _ < _; show s.length - (i + 1) < s.length - i; omega
   ·skip
    rw [Nat.zero_add] at hf1
    have hneg : decide ((0 : Int) ≤ findD x1 0 l) = true := by rw [hf1]; simp
    have hidx : (findD x1 0 l).toNat = j := by rw [hf1]; simp
    have hjl : j < l.length := (List.getElem?_eq_some_iff.1 hy).1
    have hlv : liveB l (x0, x1) = !y3 := by simp only [liveB, hf2]
    refine v_skip ?_
    refine n12 _ _ (weak_keep [0, 5, 9, 10, 11] _) ?_
    refine zk ⟨?_⟩
    refine v_seq ?_; intro Q24 n24 e24 r24
    refine v_block ?_; intro Q25 n25 x25 e25 r25
    refine v_seq ?_; intro Q26 n26 e26 r26
    refine v_region ?_; intro K27 k27
    have F := Fc.mk (And.intro (fun f => getD_map (f := f) hx) (And.intro hneg (And.intro hidx (And.intro (fun f => getD_map (f := f) hy) @Bool.true_and))))
    refine zIndexAddr ⟨?_⟩
    refine zLoad ⟨?_⟩
    refine zAlloc ⟨?_⟩
    refine zStore ⟨?_⟩
    refine k27 _ ?_
    refine n26 _ _ (weak_keep [0, 5, 7, 9, 10, 11] _) ?_
    refine zk ⟨?_⟩
    refine v_seq ?_; intro Q28 n28 e28 r28
    refine v_region ?_; intro K29 k29
    refine zMove ⟨?_⟩
    refine zFieldAddr ⟨?_⟩
    refine zLoad ⟨?_⟩
    refine zc (alFind_con l x1 hl) ⟨?_⟩
    refine zAssign ⟨?_⟩
    refine k29 _ ?_
    refine n28 _ _ (weak_keep [0, 5, 7, 8, 9, 10, 11] _) ?_
    refine zk ⟨?_⟩
    refine v_seq ?_; intro Q30 n30 e30 r30
    refine v_region ?_; intro K31 k31
    refine zMove ⟨?_⟩
    refine zBinOp ⟨?_⟩
    refine zMove ⟨?_⟩
    refine zgMove ⟨?_⟩
    refine zgMove ⟨?_⟩
    refine zgIndexAddr ⟨?_⟩
    refine zgFieldAddr ⟨?_⟩
    refine zgLoad ⟨?_⟩
    refine zgUnOp ⟨?_⟩
    refine zPick ⟨?_⟩
    refine k31 _ ?_
    refine n30 _ _ (weak_keep [0, 5, 7, 9, 10, 11, 28] _) ?_
    refine zk ⟨?_⟩
    refine v_condS _ rfl ?_ ?_
    ·intro hc1
     refine v_region ?_; intro K33 k33
     refine zMove ⟨?_⟩
     refine zLoad ⟨?_⟩
     refine zBuildSlice ⟨?_⟩
     refine zAppend ⟨?_⟩
     refine zAssign ⟨?_⟩
     refine k33 _ ?_
     refine n25 _ ?_
     refine n24 _ _ (weak_keep [0, 5, 9, 10, 11] _) ?_
     refine zk ⟨?_⟩
     refine v_region ?_; intro K34 k34
     refine zBinOpW ⟨?_⟩
     refine zMove ⟨?_⟩
     refine k34 _ ?_
     refine n9 _ (i + 1, acc ++ [(x0, x1)]) ?_ ?_ ?_
     ·refine weak_bothS [0, 5, 9, 10, 11] [3] ⟨?_⟩
      rw [snoc_sig]; rfl
     ·exact ⟨hlt, by show (acc ++ _).length ≤ i + 1; simp; omega, by show acc ++ _ = _; rw [hst, hlv, ← hR]; simp [hc1]⟩
     ·show _ < _; show s.length - (i + 1) < s.length - i; omega
    ·intro hc1
     refine v_skip ?_
     refine n25 _ ?_
     refine n24 _ _ (weak_keep [0, 5, 9, 10, 11] _) ?_
     refine zk ⟨?_⟩
     refine v_region ?_; intro K35 k35
     refine zBinOpW ⟨?_⟩
     refine zMove ⟨?_⟩
     refine k35 _ ?_
     refine n9 _ (i + 1, acc) ?_ ?_ ?_
     ·refine weak_bothS [0, 5, 9, 10, 11] [0] ⟨?_⟩
      rfl
     ·exact ⟨hlt, by show acc.length ≤ i + 1; omega, by show acc = _; rw [hst, hlv, ← hR]; simp [hc1]⟩
     ·show _ < _; show s.length - (i + 1) < s.length - i; omega
  ·intro hc0
   refine v_exit ?_
   refine e12 _ _ ?_
   refine e9 _ _ ?_
   refine x8 _ ?_
   refine n5 _ _ (weak_keep [5] _) ?_
   refine zk ⟨?_⟩
   refine v_seq ?_; intro Q36 n36 e36 r36
   refine v_region ?_; intro K37 k37
   refine zMove ⟨?_⟩
   refine zAssign ⟨?_⟩
   refine k37 _ ?_
   refine n36 _ _ (weak_keep [4] _) ?_
   refine zk ⟨?_⟩
   refine v_ret ?_
   refine r0 _ ?_
   refine zf ⟨?_⟩
   have hend : acc = s.filter (liveB l) := by rw [hR, List.take_of_length_le (by omega)]
   rw [← hend]
   exact ret_ref rfl (.inl rfl)
end Go.Proofs.Ytdgenniiidgimaa
