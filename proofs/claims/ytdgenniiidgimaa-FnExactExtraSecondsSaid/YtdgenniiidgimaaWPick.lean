/- What functions compute (Pick). No condition. -/
import Derived.Test.YtdgenniiidgimaaTy
import Derived.Test.YtdgenniiidgimaaVmG
import Derived.Test.YtdgenniiidgimaaWReadyS
import Derived.Test.YtdgenniiidgimaaWNeed
import Derived.Test.YtdgenniiidgimaaWReady
import Derived.Test.YtdgenniiidgimaaWHas
set_option linter.unusedSimpArgs false
set_option linter.unusedVariables false
set_option linter.defProp false
namespace Go.Proofs.Ytdgenniiidgimaa
open Go Go.Vm

theorem pickF_is {fl : List (ByteArray × Int × Int × Int × Int)} {s : List Int × List Int} {k kd : Nat} {x : (ByteArray × Int × Int × Int × Int)} {v : Int} (hx : fl[k]? = some x) (hk : x.2.1 = (kd : Int)) (hv : s.1[kd]? = some v) : pickF fl s (k : Int) = if 0 < v then (s.1.set kd (v - 1), s.2 ++ [(k : Int)]) else s := by
  rw [pickF, Int.toNat_natCast, hx]
  simp only [hk, Int.toNat_natCast, List.getD_eq_getElem?_getD, hv, Option.getD_some]
def choiceL (n : Int) (ss : List (Int × Int × Int)) (fl : List (ByteArray × Int × Int × Int × Int)) (node : Int) (need : List Int) : List Int × List Int := pickL fl (readyL fl (tmL n ss node)) need

set_option maxRecDepth 8000 in
set_option maxHeartbeats 1000000 in
theorem choose_con (n : Int) (ss : List (Int × Int × Int)) (fl : List (ByteArray × Int × Int × Int × Int)) (node : Int) (need : List Int) (hd : DsFacts n ss fl) (hu : 0 ≤ node ∧ node < n) (hn : need.length = 4 ∧ ∀ x ∈ need, 0 ≤ x ∧ x ≤ 6) : Con Try.prog 139 [.pv [.agg [.int .i64 n, .sl (ss.map (fun t : Int × Int × Int => V.agg [V.int .i64 t.1, V.int .i64 t.2.1, V.int .i64 t.2.2]))]] 0 0, .sl (fl.map (fun t : ByteArray × Int × Int × Int × Int => V.agg [V.str t.1, V.int .i64 t.2.1, V.int .i64 t.2.2.1, V.int .i64 t.2.2.2.1, V.int .i64 t.2.2.2.2])), .int .i64 node, .sl (need.map (V.int .i64))] [] (.ref 0) [.arr ((choiceL n ss fl node need).2.map (V.int .i64)) .flat] := by
 have hfl := hd.hfl
 obtain ⟨ts, hts⟩ : ∃ ts, ts = tmL n ss node := ⟨_, rfl⟩
 have htl : ts.length = n.toNat := by rw [hts, times_len]
 have htb := tm_facts hd.hn hu hd.hss hd.hsl
 rw [← hts] at htb
 have hn14 := hd.hn
 obtain ⟨rl, hrl⟩ : ∃ rl, rl = readyL fl ts := ⟨_, rfl⟩
 have hrn : rl.length ≤ fl.length := by rw [hrl]; exact readyL_len fl ts
 rw [choiceL, ← hts, ← hrl]
 have hval : ∀ {y : Int}, y ∈ rl → ∃ (k : Nat) (x : (ByteArray × Int × Int × Int × Int)) (w : Nat), y = (k : Int) ∧ fl[k]? = some x ∧ x.2.2.1 = (w : Int) ∧ w < ts.length := by
  intro y hy
  rw [hrl] at hy
  obtain ⟨k, x, h1, h2, h3, _⟩ := readyL_mem hy
  have hap := hd.hap _ (List.mem_of_getElem? h3)
  obtain ⟨w, hw⟩ := Int.eq_ofNat_of_zero_le hap.2.1
  exact ⟨k, x, w, h1, h3, hw, by rw [htl]; omega⟩
 refine v_con [.tmp 8] [] Try.func139 rfl rfl rfl (by simp [Try.ntmps139]) ?_
 intro Q0 n0 r0
 simp only [Try.ntmps139, envFrom, Nat.reduceAdd]
 have T := Tys.mk (And.intro Ty.t3 (And.intro Ty.t9 (And.intro Ty.t26 (And.intro Ty.t70 (And.intro Ty.t72 (And.intro Ty.t74 (And.intro Ty.t141 (And.intro Ty.t144 Ty.t182))))))))
 have F := Fc.mk True.intro
 refine v_seq ?_; intro Q1 n1 e1 r1
 refine v_region ?_; intro K2 k2
 refine zAssign ⟨?_⟩
 refine k2 _ ?_
 refine n1 _ _ (weak_keep [0, 1, 2, 3] _) ?_
 refine zk ⟨?_⟩
 refine v_seq ?_; intro Q3 n3 e3 r3
 refine v_region ?_; intro K4 k4
 refine zMove ⟨?_⟩
 refine zc (cloneInt_con need (by omega)) ⟨?_⟩
 refine zAssign ⟨?_⟩
 refine k4 _ ?_
 refine n3 _ _ (weak_keep [0, 1, 2, 9] _) ?_
 refine zk ⟨?_⟩
 refine v_seq ?_; intro Q5 n5 e5 r5
 refine v_region ?_; intro K6 k6
 refine zAssign ⟨?_⟩
 refine k6 _ ?_
 refine n5 _ _ (weak_keep [0, 1, 2, 9, 10] _) ?_
 refine zk ⟨?_⟩
 refine v_seq ?_; intro Q7 n7 e7 r7
 refine v_seq ?_; intro Q8 n8 e8 r8
 refine v_region ?_; intro K9 k9
 refine zMove ⟨?_⟩
 refine zMove ⟨?_⟩
 refine zMove ⟨?_⟩
 refine zc ((hrl ▸ hts ▸ readyOrder_con n ss fl node hd hu : Con _ _ _ _ _ [.arr (rl.map (V.int .i64)) .flat])) ⟨?_⟩
 refine zLen ⟨?_⟩
 refine zMove ⟨?_⟩
 refine k9 _ ?_
 refine n8 _ _ (weak_keep [1, 9, 10, 18, 19, 20] _) ?_
 refine zk ⟨?_⟩
 refine v_block ?_; intro Q10 n10 x10 e10 r10
 refine v_loop (fun i => ⟨[(1, .sl (fl.map (fun t : ByteArray × Int × Int × Int × Int => V.agg [V.str t.1, V.int .i64 t.2.1, V.int .i64 t.2.2.1, V.int .i64 t.2.2.2.1, V.int .i64 t.2.2.2.2]))), (9, .ref 0), (10, .ref 1), (18, .ref 2), (19, .int .i64 rl.length), (20, .int .i64 (Nat.cast i))], [.arr ((pickL fl (rl.take i) need).1.map (V.int .i64)) .flat, .arr ((pickL fl (rl.take i) need).2.map (V.int .i64)) .flat, .arr (rl.map (V.int .i64)) .flat], false, 49, 0⟩) (fun i => i ≤ rl.length) (fun i => rl.length - i) 0 ?_ ?_ ?_
 ·refine weak_bothS [1, 9, 10, 18, 19, 20] [1, 2, 3] ⟨?_⟩
  rfl
 ·exact Nat.zero_le _
 ·rintro i hok11 Q11 n11 e11 r11
  have hi1 : i ≤ rl.length := hok11
  refine v_seq ?_; intro Q12 n12 e12 r12
  refine v_region ?_; intro K13 k13
  refine zBinOp ⟨?_⟩
  refine k13 _ ?_
  refine n12 _ _ (weak_keep [1, 9, 10, 18, 19, 20, 21] _) ?_
  refine zk ⟨?_⟩
  refine v_seq ?_; intro Q14 n14 e14 r14
  refine v_condS _ rfl ?_ ?_
  ·intro hc0
   have hlt : i < rl.length := by omega
   obtain ⟨y, hy⟩ : ∃ y, rl[i]? = some y := ⟨_, List.getElem?_eq_getElem hlt⟩
   have hv := hval (List.mem_of_getElem? hy)
   have hst := pick_step (fl := fl) (need := need) hy
   obtain ⟨k, ⟨x0, x1, x2, x3, x4⟩, w, rfl, hx, hvw, hvl⟩ := hv
   simp only [] at hvw
   subst hvw
   obtain ⟨p, hp⟩ : ∃ p, ts[w]? = some p := ⟨_, List.getElem?_eq_getElem hvl⟩
   have hkl : k < fl.length := (List.getElem?_eq_some_iff.1 hx).1
   have ek := key_is (ts := ts) hx rfl hp
   have hap := hd.hap _ (List.mem_of_getElem? hx)
   simp only [] at hap
   obtain ⟨kd, hkd⟩ := Int.eq_ofNat_of_zero_le hap.1.1
   subst hkd
   have hpk := pick_facts (fl := fl) hn (rl.take i)
   have hll := hpk.1
   have hol := hpk.2.2.1
   have hlt2 : (rl.take i).length ≤ i := List.length_take_le ..
   obtain ⟨v, hv⟩ : ∃ v, (pickL fl (rl.take i) need).1[kd]? = some v := ⟨_, List.getElem?_eq_getElem (by omega)⟩
   have hvb := hpk.2.1 v (List.mem_of_getElem? hv)
   have hpf := pickF_is (s := (pickL fl (rl.take i) need)) hx rfl hv
   refine v_skip ?_
   refine n14 _ _ (weak_keep [1, 9, 10, 18, 19, 20] _) ?_
   refine zk ⟨?_⟩
   refine v_seq ?_; intro Q16 n16 e16 r16
   refine v_block ?_; intro Q17 n17 x17 e17 r17
   refine v_seq ?_; intro Q18 n18 e18 r18
   refine v_region ?_; intro K19 k19
   have F := Fc.mk (And.intro (fun f => getD_map (f := f) hx) (And.intro (fun f => getD_map (f := f) hy) (And.intro (fun f => getD_map (f := f) hv) (And.intro hll @set_map))))
   refine zIndexAddr ⟨?_⟩
   refine zLoad ⟨?_⟩
   refine zAssign ⟨?_⟩
   refine k19 _ ?_
   refine n18 _ _ (weak_keep [1, 9, 10, 12, 18, 19, 20] _) ?_
   refine zk ⟨?_⟩
   refine v_seq ?_; intro Q20 n20 e20 r20
   refine v_region ?_; intro K21 k21
   refine zMove ⟨?_⟩
   refine zMove ⟨?_⟩
   refine zMove ⟨?_⟩
   refine zIndexAddr ⟨?_⟩
   refine zFieldAddr ⟨?_⟩
   refine zLoad ⟨?_⟩
   refine zIndexAddr ⟨?_⟩
   refine zLoad ⟨?_⟩
   refine zBinOp ⟨?_⟩
   refine k21 _ ?_
   refine n20 _ _ (weak_keep [1, 9, 10, 12, 18, 19, 20, 32] _) ?_
   refine zk ⟨?_⟩
   refine v_condS _ rfl ?_ ?_
   ·intro hc1
    refine v_seq ?_; intro Q23 n23 e23 r23
    refine v_region ?_; intro K24 k24
    refine zMove ⟨?_⟩
    refine zMove ⟨?_⟩
    refine zMove ⟨?_⟩
    refine zIndexAddr ⟨?_⟩
    refine zFieldAddr ⟨?_⟩
    refine zLoad ⟨?_⟩
    refine zIndexAddr ⟨?_⟩
    refine zLoad ⟨?_⟩
    refine zBinOpW ⟨?_⟩
    refine zIndexAddr ⟨?_⟩
    refine zStore ⟨?_⟩
    refine k24 _ ?_
    refine n23 _ _ (weak_keep [1, 9, 10, 12, 18, 19, 20] _) ?_
    refine zk ⟨?_⟩
    refine v_region ?_; intro K25 k25
    refine zMove ⟨?_⟩
    refine zMove ⟨?_⟩
    refine zBuildSlice ⟨?_⟩
    refine zAppend ⟨?_⟩
    refine zAssign ⟨?_⟩
    refine k25 _ ?_
    refine n17 _ ?_
    refine n16 _ _ (weak_keep [1, 9, 10, 18, 19, 20] _) ?_
    refine zk ⟨?_⟩
    refine v_region ?_; intro K26 k26
    refine zBinOpW ⟨?_⟩
    refine zMove ⟨?_⟩
    refine k26 _ ?_
    refine n11 _ (i + 1) ?_ ?_ ?_
    ·refine weak_bothS [1, 9, 10, 18, 19, 20] [0, 4, 2] ⟨?_⟩
     rw [hst, hpf, if_pos hc1, List.map_append]; rfl
    ·exact hlt
    ·show _ < _; omega
   ·intro hc1
    refine v_skip ?_
    refine n17 _ ?_
    refine n16 _ _ (weak_keep [1, 9, 10, 18, 19, 20] _) ?_
    refine zk ⟨?_⟩
    refine v_region ?_; intro K27 k27
    refine zBinOpW ⟨?_⟩
    refine zMove ⟨?_⟩
    refine k27 _ ?_
    refine n11 _ (i + 1) ?_ ?_ ?_
    ·refine weak_bothS [1, 9, 10, 18, 19, 20] [0, 1, 2] ⟨?_⟩
     rw [hst, hpf, if_neg (by omega)]; rfl
    ·exact hlt
    ·show _ < _; omega
  ·intro hc0
   have hend : i = rl.length := by omega
   subst hend
   refine v_exit ?_
   refine e14 _ _ ?_
   refine e11 _ _ ?_
   refine x10 _ ?_
   refine n7 _ _ (weak_keep [10] _) ?_
   refine zk ⟨?_⟩
   refine v_seq ?_; intro Q28 n28 e28 r28
   refine v_region ?_; intro K29 k29
   refine zMove ⟨?_⟩
   refine zAssign ⟨?_⟩
   refine k29 _ ?_
   refine n28 _ _ (weak_keep [8] _) ?_
   refine zk ⟨?_⟩
   refine v_ret ?_
   refine r0 _ ?_
   refine zf ⟨?_⟩
   exact ret_refK rfl rfl (by rw [List.take_length])
set_option maxRecDepth 8000 in
set_option maxHeartbeats 1000000 in
theorem dsPick_con (n : Int) (ss : List (Int × Int × Int)) (fl : List (ByteArray × Int × Int × Int × Int)) (node : Int) (need : List Int) (hd : DsFacts n ss fl) (hu : 0 ≤ node ∧ node < n) (hn : need.length = 4 ∧ ∀ x ∈ need, 0 ≤ x ∧ x ≤ 6) : Con Try.prog 137 [.agg [.int .i64 n, .sl (ss.map (fun t : Int × Int × Int => V.agg [V.int .i64 t.1, V.int .i64 t.2.1, V.int .i64 t.2.2]))], .sl (fl.map (fun t : ByteArray × Int × Int × Int × Int => V.agg [V.str t.1, V.int .i64 t.2.1, V.int .i64 t.2.2.1, V.int .i64 t.2.2.2.1, V.int .i64 t.2.2.2.2])), .int .i64 node, .sl (need.map (V.int .i64))] [] (.tup [.ref 0, .ref 1, .ref 2]) [.arr ((choiceL n ss fl node need).2.map (V.int .i64)) .flat, .arr ((choiceL n ss fl node need).1.map (V.int .i64)) .flat, .arr ((allT fl (tmL n ss node)).map (V.int .i64)) .flat] := by
 have hfl := hd.hfl
 obtain ⟨ts, hts⟩ : ∃ ts, ts = tmL n ss node := ⟨_, rfl⟩
 have htl : ts.length = n.toNat := by rw [hts, times_len]
 have htb := tm_facts hd.hn hu hd.hss hd.hsl
 rw [← hts] at htb
 have hn14 := hd.hn
 obtain ⟨rl, hrl⟩ : ∃ rl, rl = readyL fl ts := ⟨_, rfl⟩
 have hrn : rl.length ≤ fl.length := by rw [hrl]; exact readyL_len fl ts
 rw [choiceL, ← hts, ← hrl]
 have hval : ∀ {y : Int}, y ∈ rl → ∃ (k : Nat) (x : (ByteArray × Int × Int × Int × Int)) (w : Nat), y = (k : Int) ∧ fl[k]? = some x ∧ x.2.2.1 = (w : Int) ∧ w < ts.length := by
  intro y hy
  rw [hrl] at hy
  obtain ⟨k, x, h1, h2, h3, _⟩ := readyL_mem hy
  have hap := hd.hap _ (List.mem_of_getElem? h3)
  obtain ⟨w, hw⟩ := Int.eq_ofNat_of_zero_le hap.2.1
  exact ⟨k, x, w, h1, h3, hw, by rw [htl]; omega⟩
 refine v_con [.tmp 8, .tmp 9, .tmp 10] [] Try.func137 rfl rfl rfl (by simp [Try.ntmps137]) ?_
 intro Q0 n0 r0
 simp only [Try.ntmps137, envFrom, Nat.reduceAdd]
 have T := Tys.mk (And.intro Ty.t3 (And.intro Ty.t9 (And.intro Ty.t26 (And.intro Ty.t70 (And.intro Ty.t72 (And.intro Ty.t74 (And.intro Ty.t141 Ty.t182)))))))
 have F := Fc.mk True.intro
 refine v_seq ?_; intro Q1 n1 e1 r1
 refine v_region ?_; intro K2 k2
 refine zBox ⟨?_⟩
 refine zAssign ⟨?_⟩
 refine zAssign ⟨?_⟩
 refine zAssign ⟨?_⟩
 refine k2 _ ?_
 refine n1 _ _ (weak_keep [1, 2, 3, 4] _) ?_
 refine zk ⟨?_⟩
 refine v_seq ?_; intro Q3 n3 e3 r3
 refine v_region ?_; intro K4 k4
 refine zLoad ⟨?_⟩
 refine zMove ⟨?_⟩
 refine zMove ⟨?_⟩
 refine zc ((hrl ▸ hts ▸ dsReady_con n ss fl node hd hu : Con _ _ _ _ _ [.arr (rl.map (V.int .i64)) .flat, .arr ((allT fl ts).map (V.int .i64)) .flat])) ⟨?_⟩
 refine zMove ⟨?_⟩
 refine zExtract ⟨?_⟩
 refine zExtract ⟨?_⟩
 refine zAssign ⟨?_⟩
 refine zAssign ⟨?_⟩
 refine k4 _ ?_
 refine n3 _ _ (weak_keep [1, 3, 11, 12] _) ?_
 refine zk ⟨?_⟩
 refine v_seq ?_; intro Q5 n5 e5 r5
 refine v_region ?_; intro K6 k6
 refine zMove ⟨?_⟩
 refine zc (l1Own_con need (by omega)) ⟨?_⟩
 refine zAssign ⟨?_⟩
 refine k6 _ ?_
 refine n5 _ _ (weak_keep [1, 11, 12, 13] _) ?_
 refine zk ⟨?_⟩
 refine v_seq ?_; intro Q7 n7 e7 r7
 refine v_region ?_; intro K8 k8
 refine zAssign ⟨?_⟩
 refine k8 _ ?_
 refine n7 _ _ (weak_keep [1, 11, 12, 13, 14] _) ?_
 refine zk ⟨?_⟩
 refine v_seq ?_; intro Q9 n9 e9 r9
 refine v_seq ?_; intro Q10 n10 e10 r10
 refine v_region ?_; intro K11 k11
 refine zMove ⟨?_⟩
 refine zLen ⟨?_⟩
 refine zMove ⟨?_⟩
 refine k11 _ ?_
 refine n10 _ _ (weak_keep [1, 12, 13, 14, 26, 27, 28] _) ?_
 refine zk ⟨?_⟩
 refine v_block ?_; intro Q12 n12 x12 e12 r12
 refine v_loop (fun i => ⟨[(1, .sl (fl.map (fun t : ByteArray × Int × Int × Int × Int => V.agg [V.str t.1, V.int .i64 t.2.1, V.int .i64 t.2.2.1, V.int .i64 t.2.2.2.1, V.int .i64 t.2.2.2.2]))), (12, .ref 1), (13, .ref 2), (14, .ref 3), (26, .ref 0), (27, .int .i64 rl.length), (28, .int .i64 (Nat.cast i))], [.arr (rl.map (V.int .i64)) .flat, .arr ((allT fl ts).map (V.int .i64)) .flat, .arr ((pickL fl (rl.take i) need).1.map (V.int .i64)) .flat, .arr ((pickL fl (rl.take i) need).2.map (V.int .i64)) .flat], false, 59, 0⟩) (fun i => i ≤ rl.length) (fun i => rl.length - i) 0 ?_ ?_ ?_
 ·refine weak_bothS [1, 12, 13, 14, 26, 27, 28] [4, 5, 6, 7] ⟨?_⟩
  rfl
 ·exact Nat.zero_le _
 ·rintro i hok13 Q13 n13 e13 r13
  have hi1 : i ≤ rl.length := hok13
  refine v_seq ?_; intro Q14 n14 e14 r14
  refine v_region ?_; intro K15 k15
  refine zBinOp ⟨?_⟩
  refine k15 _ ?_
  refine n14 _ _ (weak_keep [1, 12, 13, 14, 26, 27, 28, 29] _) ?_
  refine zk ⟨?_⟩
  refine v_seq ?_; intro Q16 n16 e16 r16
  refine v_condS _ rfl ?_ ?_
  ·intro hc0
   have hlt : i < rl.length := by omega
   obtain ⟨y, hy⟩ : ∃ y, rl[i]? = some y := ⟨_, List.getElem?_eq_getElem hlt⟩
   have hv := hval (List.mem_of_getElem? hy)
   have hst := pick_step (fl := fl) (need := need) hy
   obtain ⟨k, ⟨x0, x1, x2, x3, x4⟩, w, rfl, hx, hvw, hvl⟩ := hv
   simp only [] at hvw
   subst hvw
   obtain ⟨p, hp⟩ : ∃ p, ts[w]? = some p := ⟨_, List.getElem?_eq_getElem hvl⟩
   have hkl : k < fl.length := (List.getElem?_eq_some_iff.1 hx).1
   have ek := key_is (ts := ts) hx rfl hp
   have hap := hd.hap _ (List.mem_of_getElem? hx)
   simp only [] at hap
   obtain ⟨kd, hkd⟩ := Int.eq_ofNat_of_zero_le hap.1.1
   subst hkd
   have hpk := pick_facts (fl := fl) hn (rl.take i)
   have hll := hpk.1
   have hol := hpk.2.2.1
   have hlt2 : (rl.take i).length ≤ i := List.length_take_le ..
   obtain ⟨v, hv⟩ : ∃ v, (pickL fl (rl.take i) need).1[kd]? = some v := ⟨_, List.getElem?_eq_getElem (by omega)⟩
   have hvb := hpk.2.1 v (List.mem_of_getElem? hv)
   have hpf := pickF_is (s := (pickL fl (rl.take i) need)) hx rfl hv
   refine v_skip ?_
   refine n16 _ _ (weak_keep [1, 12, 13, 14, 26, 27, 28] _) ?_
   refine zk ⟨?_⟩
   refine v_seq ?_; intro Q18 n18 e18 r18
   refine v_block ?_; intro Q19 n19 x19 e19 r19
   refine v_seq ?_; intro Q20 n20 e20 r20
   refine v_region ?_; intro K21 k21
   have F := Fc.mk (And.intro (fun f => getD_map (f := f) hx) (And.intro (fun f => getD_map (f := f) hy) (And.intro (fun f => getD_map (f := f) hv) (And.intro hll @set_map))))
   refine zIndexAddr ⟨?_⟩
   refine zLoad ⟨?_⟩
   refine zAssign ⟨?_⟩
   refine k21 _ ?_
   refine n20 _ _ (weak_keep [1, 12, 13, 14, 16, 26, 27, 28] _) ?_
   refine zk ⟨?_⟩
   refine v_seq ?_; intro Q22 n22 e22 r22
   refine v_region ?_; intro K23 k23
   refine zMove ⟨?_⟩
   refine zMove ⟨?_⟩
   refine zMove ⟨?_⟩
   refine zIndexAddr ⟨?_⟩
   refine zFieldAddr ⟨?_⟩
   refine zLoad ⟨?_⟩
   refine zIndexAddr ⟨?_⟩
   refine zLoad ⟨?_⟩
   refine zBinOp ⟨?_⟩
   refine k23 _ ?_
   refine n22 _ _ (weak_keep [1, 12, 13, 14, 16, 26, 27, 28, 40] _) ?_
   refine zk ⟨?_⟩
   refine v_condS _ rfl ?_ ?_
   ·intro hc1
    refine v_seq ?_; intro Q25 n25 e25 r25
    refine v_region ?_; intro K26 k26
    refine zMove ⟨?_⟩
    refine zMove ⟨?_⟩
    refine zMove ⟨?_⟩
    refine zIndexAddr ⟨?_⟩
    refine zFieldAddr ⟨?_⟩
    refine zLoad ⟨?_⟩
    refine zIndexAddr ⟨?_⟩
    refine zLoad ⟨?_⟩
    refine zBinOpW ⟨?_⟩
    refine zIndexAddr ⟨?_⟩
    refine zStore ⟨?_⟩
    refine k26 _ ?_
    refine n25 _ _ (weak_keep [1, 12, 13, 14, 16, 26, 27, 28] _) ?_
    refine zk ⟨?_⟩
    refine v_region ?_; intro K27 k27
    refine zMove ⟨?_⟩
    refine zMove ⟨?_⟩
    refine zBuildSlice ⟨?_⟩
    refine zAppend ⟨?_⟩
    refine zAssign ⟨?_⟩
    refine k27 _ ?_
    refine n19 _ ?_
    refine n18 _ _ (weak_keep [1, 12, 13, 14, 26, 27, 28] _) ?_
    refine zk ⟨?_⟩
    refine v_region ?_; intro K28 k28
    refine zBinOpW ⟨?_⟩
    refine zMove ⟨?_⟩
    refine k28 _ ?_
    refine n13 _ (i + 1) ?_ ?_ ?_
    ·refine weak_bothS [1, 12, 13, 14, 26, 27, 28] [0, 1, 2, 5] ⟨?_⟩
     rw [hst, hpf, if_pos hc1, List.map_append]; rfl
    ·exact hlt
    ·show _ < _; omega
   ·intro hc1
    refine v_skip ?_
    refine n19 _ ?_
    refine n18 _ _ (weak_keep [1, 12, 13, 14, 26, 27, 28] _) ?_
    refine zk ⟨?_⟩
    refine v_region ?_; intro K29 k29
    refine zBinOpW ⟨?_⟩
    refine zMove ⟨?_⟩
    refine k29 _ ?_
    refine n13 _ (i + 1) ?_ ?_ ?_
    ·refine weak_bothS [1, 12, 13, 14, 26, 27, 28] [0, 1, 2, 3] ⟨?_⟩
     rw [hst, hpf, if_neg (by omega)]; rfl
    ·exact hlt
    ·show _ < _; omega
  ·intro hc0
   have hend : i = rl.length := by omega
   subst hend
   refine v_exit ?_
   refine e16 _ _ ?_
   refine e13 _ _ ?_
   refine x12 _ ?_
   refine n9 _ _ (weak_keep [12, 13, 14] _) ?_
   refine zk ⟨?_⟩
   refine v_seq ?_; intro Q30 n30 e30 r30
   refine v_region ?_; intro K31 k31
   refine zMove ⟨?_⟩
   refine zMove ⟨?_⟩
   refine zMove ⟨?_⟩
   refine zAssign ⟨?_⟩
   refine zAssign ⟨?_⟩
   refine zAssign ⟨?_⟩
   refine k31 _ ?_
   refine n30 _ _ (weak_keep [8, 9, 10] _) ?_
   refine zk ⟨?_⟩
   refine v_ret ?_
   refine r0 _ ?_
   refine zf ⟨?_⟩
   exact ret_gen [3, 2, 1] rfl rfl (by decide) rfl (by simp) (by simp [Blk.kindIs]) rfl
def calledA (a : (ByteArray × Int × Int × Int × Int)) : (ByteArray × Int × Int × Int × Int) := (a.1, a.2.1, a.2.2.1, a.2.2.2.1, 1)
def calledTo (fl : List (ByteArray × Int × Int × Int × Int)) (order : List Int) : Nat → List (ByteArray × Int × Int × Int × Int)
  | 0 => []
  | m + 1 => calledTo fl order m ++ (match fl[m]? with | some a => [if (m : Int) ∈ order then calledA a else a] | none => [])
theorem called_len (fl : List (ByteArray × Int × Int × Int × Int)) (order : List Int) : ∀ m, m ≤ fl.length → (calledTo fl order m).length = m
  | 0, _ => rfl
  | m + 1, h => by
    have := called_len fl order m (by omega)
    rw [calledTo, List.getElem?_eq_getElem (by omega : m < fl.length)]
    simp [this]
theorem called_yes {fl : List (ByteArray × Int × Int × Int × Int)} {order : List Int} {i : Nat} {x : (ByteArray × Int × Int × Int × Int)} (h : fl[i]? = some x) (ho : (i : Int) ∈ order) : (calledTo fl order i ++ fl.drop i).set i (calledA x) = calledTo fl order (i + 1) ++ fl.drop (i + 1) := by
  have hi : i < fl.length := (List.getElem?_eq_some_iff.1 h).1
  have hl := called_len fl order i (by omega)
  rw [getElem_drop_cons h, List.set_append_right _ _ (by omega), hl, Nat.sub_self, List.set_cons_zero, calledTo, h]
  simp [ho]
theorem called_no {fl : List (ByteArray × Int × Int × Int × Int)} {order : List Int} {i : Nat} {x : (ByteArray × Int × Int × Int × Int)} (h : fl[i]? = some x) (ho : ¬ (i : Int) ∈ order) : calledTo fl order i ++ fl.drop i = calledTo fl order (i + 1) ++ fl.drop (i + 1) := by
  rw [getElem_drop_cons h, calledTo, h]
  simp [ho]
theorem called_get {fl : List (ByteArray × Int × Int × Int × Int)} {order : List Int} {i : Nat} {x : (ByteArray × Int × Int × Int × Int)} (h : fl[i]? = some x) : (calledTo fl order i ++ fl.drop i)[i]? = some x := by
  have hi : i < fl.length := (List.getElem?_eq_some_iff.1 h).1
  have hl := called_len fl order i (by omega)
  rw [List.getElem?_append_right (by omega), hl, Nat.sub_self, getElem_drop_cons h]; rfl
theorem called_all {fl : List (ByteArray × Int × Int × Int × Int)} {order : List Int} {i : Nat} (h : i ≤ fl.length) : (calledTo fl order i ++ fl.drop i).length = fl.length := by
  rw [List.length_append, called_len fl order i h, List.length_drop]; omega
theorem sent_len (fl : List (ByteArray × Int × Int × Int × Int)) (order : List Int) : ∀ m, (sentTo fl order m).length ≤ m
  | 0 => Nat.le_refl _
  | m + 1 => by
    have := sent_len fl order m
    rw [sentTo, List.length_append]
    split
    · split <;> simp <;> omega
    · simp; omega

set_option maxRecDepth 8000 in
set_option maxHeartbeats 1000000 in
theorem dsSend_con (fl : List (ByteArray × Int × Int × Int × Int)) (order : List Int) (hl : fl.length ≤ 1048576) (ho : order.length ≤ 1048576) : Con Try.prog 138 [.sl (fl.map (fun t : ByteArray × Int × Int × Int × Int => V.agg [V.str t.1, V.int .i64 t.2.1, V.int .i64 t.2.2.1, V.int .i64 t.2.2.2.1, V.int .i64 t.2.2.2.2])), .sl (order.map (V.int .i64))] [] (.tup [.ref 0, .ref 1]) [.arr ((calledTo fl order fl.length).map (fun t : ByteArray × Int × Int × Int × Int => V.agg [V.str t.1, V.int .i64 t.2.1, V.int .i64 t.2.2.1, V.int .i64 t.2.2.2.1, V.int .i64 t.2.2.2.2])) .flat, .arr ((sentTo fl order fl.length).map V.str) .flat] := by
 have hns : (fl.map (fun t : ByteArray × Int × Int × Int × Int => V.agg [V.str t.1, V.int .i64 t.2.1, V.int .i64 t.2.2.1, V.int .i64 t.2.2.2.1, V.int .i64 t.2.2.2.2])).all V.noSl = true := by rw [List.all_map, List.all_eq_true]; intro a _; rfl
 refine v_con [.tmp 4, .tmp 5] [] Try.func138 rfl rfl rfl (by simp [Try.ntmps138]) ?_
 intro Q0 n0 r0
 simp only [Try.ntmps138, envFrom, Nat.reduceAdd]
 have T := Tys.mk (And.intro Ty.t3 (And.intro Ty.t4 (And.intro Ty.t9 (And.intro Ty.t26 (And.intro Ty.t74 (And.intro Ty.t93 Ty.t141))))))
 have F := Fc.mk True.intro
 refine v_seq ?_; intro Q1 n1 e1 r1
 refine v_region ?_; intro K2 k2
 have F := Fc.mk hns
 refine zAssign ⟨?_⟩
 refine zAssign ⟨?_⟩
 refine k2 _ ?_
 refine n1 _ _ (weak_keep [0, 1] _) ?_
 refine zk ⟨?_⟩
 refine v_seq ?_; intro Q3 n3 e3 r3
 refine v_region ?_; intro K4 k4
 refine zBuildSlice ⟨?_⟩
 refine zMove ⟨?_⟩
 refine zAppend ⟨?_⟩
 refine zAssign ⟨?_⟩
 refine k4 _ ?_
 refine n3 _ _ (weak_keep [0, 1, 6] _) ?_
 refine zk ⟨?_⟩
 refine v_seq ?_; intro Q5 n5 e5 r5
 refine v_region ?_; intro K6 k6
 refine zAssign ⟨?_⟩
 refine k6 _ ?_
 refine n5 _ _ (weak_keep [0, 1, 6, 7] _) ?_
 refine zk ⟨?_⟩
 refine v_seq ?_; intro Q7 n7 e7 r7
 refine v_seq ?_; intro Q8 n8 e8 r8
 refine v_region ?_; intro K9 k9
 refine zMove ⟨?_⟩
 refine zLen ⟨?_⟩
 refine zMove ⟨?_⟩
 refine k9 _ ?_
 refine n8 _ _ (weak_keep [1, 6, 7, 13, 14, 15] _) ?_
 refine zk ⟨?_⟩
 refine v_block ?_; intro Q10 n10 x10 e10 r10
 refine v_loop (fun i => ⟨[(1, .sl (order.map (V.int .i64))), (6, .ref 0), (7, .ref 1), (13, .sl (fl.map (fun t : ByteArray × Int × Int × Int × Int => V.agg [V.str t.1, V.int .i64 t.2.1, V.int .i64 t.2.2.1, V.int .i64 t.2.2.2.1, V.int .i64 t.2.2.2.2]))), (14, .int .i64 fl.length), (15, .int .i64 (Nat.cast i))], [.arr ((calledTo fl order i ++ fl.drop i).map (fun t : ByteArray × Int × Int × Int × Int => V.agg [V.str t.1, V.int .i64 t.2.1, V.int .i64 t.2.2.1, V.int .i64 t.2.2.2.1, V.int .i64 t.2.2.2.2])) .flat, .arr ((sentTo fl order i).map V.str) .flat], false, 36, 0⟩) (fun i => i ≤ fl.length) (fun i => fl.length - i) 0 ?_ ?_ ?_
 ·refine weak_bothS [1, 6, 7, 13, 14, 15] [3, 4] ⟨?_⟩
  simp [calledTo, sentTo]
 ·exact Nat.zero_le _
 ·rintro i hok11 Q11 n11 e11 r11
  have hi1 : i ≤ fl.length := hok11
  refine v_seq ?_; intro Q12 n12 e12 r12
  refine v_region ?_; intro K13 k13
  refine zBinOp ⟨?_⟩
  refine k13 _ ?_
  refine n12 _ _ (weak_keep [1, 6, 7, 13, 14, 15, 16] _) ?_
  refine zk ⟨?_⟩
  refine v_seq ?_; intro Q14 n14 e14 r14
  refine v_condS _ rfl ?_ ?_
  ·intro hc0
   have hlt : i < fl.length := by omega
   obtain ⟨⟨x0, x1, x2, x3, x4⟩, hx⟩ : ∃ x : ByteArray × Int × Int × Int × Int, fl[i]? = some x := ⟨fl[i]'(by omega), List.getElem?_eq_getElem (by omega)⟩
   have hst := sent_step (order := order) hx
   have hsl := sent_len fl order i
   have hcg := called_get (order := order) hx
   have hca := called_all (fl := fl) (order := order) hi1
   have hsm : ((calledTo fl order i ++ fl.drop i).map (fun t : ByteArray × Int × Int × Int × Int => V.agg [V.str t.1, V.int .i64 t.2.1, V.int .i64 t.2.2.1, V.int .i64 t.2.2.2.1, V.int .i64 t.2.2.2.2])).set i (V.agg [V.str x0, V.int .i64 x1, V.int .i64 x2, V.int .i64 x3, V.int .i64 1]) = ((calledTo fl order i ++ fl.drop i).set i (calledA (x0, x1, x2, x3, x4))).map (fun t : ByteArray × Int × Int × Int × Int => V.agg [V.str t.1, V.int .i64 t.2.1, V.int .i64 t.2.2.1, V.int .i64 t.2.2.2.1, V.int .i64 t.2.2.2.2]) := by have q := List.map_set (f := (fun t : ByteArray × Int × Int × Int × Int => V.agg [V.str t.1, V.int .i64 t.2.1, V.int .i64 t.2.2.1, V.int .i64 t.2.2.2.1, V.int .i64 t.2.2.2.2])) (l := (calledTo fl order i ++ fl.drop i)) (i := i) (a := calledA (x0, x1, x2, x3, x4)); exact q.symm
   refine v_skip ?_
   refine n14 _ _ (weak_keep [1, 6, 7, 13, 14, 15] _) ?_
   refine zk ⟨?_⟩
   refine v_seq ?_; intro Q16 n16 e16 r16
   refine v_block ?_; intro Q17 n17 x17 e17 r17
   refine v_seq ?_; intro Q18 n18 e18 r18
   refine v_region ?_; intro K19 k19
   have F := Fc.mk (And.intro hns (And.intro (fun f => getD_map (f := f) hx) (And.intro (fun f => getD_map (f := f) hcg) (And.intro hca hsm))))
   refine zMove ⟨?_⟩
   refine zIndexAddr ⟨?_⟩
   refine zLoad ⟨?_⟩
   refine zAlloc ⟨?_⟩
   refine zAssign ⟨?_⟩
   refine v_op ?_; intro K k
   simp only [zE, zS, zJ, zL, zO, zN, aStepM, optable, set_some, Nat.reduceEqDiff, reduceIte, Nat.reduceLT, implies_true, forall_const, reduceCtorEq, V.ofValue, V.ofScalar, V.un, V.gd, aExec, aop, aStore, setCells, V.isVal, V.cells, kindOf, kindAll, V.noSl, V.noRef, gt_iff_lt, Nat.reduceAdd, Nat.reduceLeDiff, Nat.reduceMul, takeV, takeCell, takeCells, row_mk, Blk.row, killAll, Nat.reduceBEq, join_t, Try.underlying3, Ty.c3, Ty.a3, Try.underlying9, Ty.c9, Ty.a9, Try.underlying141, Ty.c141, Ty.a141, hns, getD_map hx, getD_map hcg, hca, hsm]
   repeat (refine And.intro (by first | omega | (intros; omega) | (intros; simp_all; done) | (simp [List.length_set]; omega)) ?_)
   refine k _ ?_; clear k K
   refine k19 _ ?_
   refine n18 _ _ (weak_keep [1, 6, 7, 8, 9, 13, 14, 15] _) ?_
   refine zk ⟨?_⟩
   refine v_seq ?_; intro Q20 n20 e20 r20
   refine v_region ?_; intro K21 k21
   refine zMove ⟨?_⟩
   refine zMove ⟨?_⟩
   refine zc (l1Has_con order (i : Int) ho) ⟨?_⟩
   refine k21 _ ?_
   refine n20 _ _ (weak_keep [1, 6, 7, 8, 9, 13, 14, 15, 22] _) ?_
   refine zk ⟨?_⟩
   refine v_condS _ rfl ?_ ?_
   ·intro hc1
    have hcy := called_yes hx hc1
    refine v_seq ?_; intro Q23 n23 e23 r23
    refine v_region ?_; intro K24 k24
    refine zFieldAddr ⟨?_⟩
    refine v_op ?_; intro K k
    simp only [zE, zS, zJ, zL, zO, zN, aStepM, optable, set_some, Nat.reduceEqDiff, reduceIte, Nat.reduceLT, implies_true, forall_const, reduceCtorEq, V.ofValue, V.ofScalar, V.un, V.gd, aExec, aop, aStore, setCells, V.isVal, V.cells, kindOf, kindAll, V.noSl, V.noRef, gt_iff_lt, Nat.reduceAdd, Nat.reduceLeDiff, Nat.reduceMul, takeV, takeCell, takeCells, row_mk, Blk.row, killAll, Nat.reduceBEq, join_t, Try.underlying3, Ty.c3, Ty.a3, hns, getD_map hx, getD_map hcg, hca, hsm]
    repeat (refine And.intro (by first | omega | (intros; omega) | (intros; simp_all; done) | (simp [List.length_set]; omega)) ?_)
    refine k _ ?_; clear k K
    refine k24 _ ?_
    refine n23 _ _ (weak_keep [1, 6, 7, 8, 9, 13, 14, 15] _) ?_
    refine zk ⟨?_⟩
    refine v_seq ?_; intro Q25 n25 e25 r25
    refine v_region ?_; intro K26 k26
    refine zMove ⟨?_⟩
    refine zMove ⟨?_⟩
    refine zLoad ⟨?_⟩
    refine zIndexAddr ⟨?_⟩
    refine v_op ?_; intro K k
    simp only [zE, zS, zJ, zL, zO, zN, aStepM, optable, set_some, Nat.reduceEqDiff, reduceIte, Nat.reduceLT, implies_true, forall_const, reduceCtorEq, V.ofValue, V.ofScalar, V.un, V.gd, aExec, aop, aStore, setCells, V.isVal, V.cells, kindOf, kindAll, V.noSl, V.noRef, gt_iff_lt, Nat.reduceAdd, Nat.reduceLeDiff, Nat.reduceMul, takeV, takeCell, takeCells, row_mk, Blk.row, killAll, Nat.reduceBEq, join_t, Try.underlying3, Ty.c3, Ty.a3, Try.underlying9, Ty.c9, Ty.a9, Try.underlying141, Ty.c141, Ty.a141, hns, getD_map hx, getD_map hcg, hca, hsm]
    repeat (refine And.intro (by first | omega | (intros; omega) | (intros; simp_all; done) | (simp [List.length_set]; omega)) ?_)
    refine k _ ?_; clear k K
    refine k26 _ ?_
    refine n25 _ _ (weak_keep [1, 6, 7, 9, 13, 14, 15] _) ?_
    refine zk ⟨?_⟩
    refine v_region ?_; intro K27 k27
    refine zMove ⟨?_⟩
    refine zFieldAddr ⟨?_⟩
    refine zLoad ⟨?_⟩
    refine zBuildSlice ⟨?_⟩
    refine zAppend ⟨?_⟩
    refine zAssign ⟨?_⟩
    refine k27 _ ?_
    refine n17 _ ?_
    refine n16 _ _ (weak_keep [1, 6, 7, 13, 14, 15] _) ?_
    refine zk ⟨?_⟩
    refine v_region ?_; intro K28 k28
    refine zBinOpW ⟨?_⟩
    refine zMove ⟨?_⟩
    refine k28 _ ?_
    refine n11 _ (i + 1) ?_ ?_ ?_
    ·refine weak_bothS [1, 6, 7, 13, 14, 15] [0, 4] ⟨?_⟩
     rw [hcy, hst, if_pos hc1]; simp only [List.map_append]; rfl
    ·exact hlt
    ·show _ < _; omega
   ·intro hc1
    have hcn := called_no hx hc1
    refine v_skip ?_
    refine n17 _ ?_
    refine n16 _ _ (weak_keep [1, 6, 7, 13, 14, 15] _) ?_
    refine zk ⟨?_⟩
    refine v_region ?_; intro K29 k29
    refine zBinOpW ⟨?_⟩
    refine zMove ⟨?_⟩
    refine k29 _ ?_
    refine n11 _ (i + 1) ?_ ?_ ?_
    ·refine weak_bothS [1, 6, 7, 13, 14, 15] [0, 1] ⟨?_⟩
     rw [hcn, hst, if_neg hc1]; rfl
    ·exact hlt
    ·show _ < _; omega
  ·intro hc0
   have hend : i = fl.length := by omega
   subst hend
   refine v_exit ?_
   refine e14 _ _ ?_
   refine e11 _ _ ?_
   refine x10 _ ?_
   refine n7 _ _ (weak_keep [6, 7] _) ?_
   refine zk ⟨?_⟩
   refine v_seq ?_; intro Q30 n30 e30 r30
   refine v_region ?_; intro K31 k31
   refine zMove ⟨?_⟩
   refine zMove ⟨?_⟩
   refine zAssign ⟨?_⟩
   refine zAssign ⟨?_⟩
   refine k31 _ ?_
   refine n30 _ _ (weak_keep [4, 5] _) ?_
   refine zk ⟨?_⟩
   refine v_ret ?_
   refine r0 _ ?_
   refine zf ⟨?_⟩
   exact ret_gen [0, 1] rfl rfl (by decide) rfl (by simp) (by simp [Blk.kindIs]) rfl
end Go.Proofs.Ytdgenniiidgimaa
