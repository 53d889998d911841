/- What functions compute (Ready). No condition. -/
import Derived.Test.YtdgenniiidgimaaTy
import Derived.Test.YtdgenniiidgimaaVmG
import Derived.Test.YtdgenniiidgimaaWDisp
import Derived.Test.YtdgenniiidgimaaWSortF
import Derived.Test.YtdgenniiidgimaaWTimes14
import Derived.Test.YtdgenniiidgimaaWCmp
import Derived.Test.YtdgenniiidgimaaWFleet2
set_option linter.unusedSimpArgs false
set_option linter.unusedVariables false
set_option linter.defProp false
namespace Go.Proofs.Ytdgenniiidgimaa
open Go Go.Vm

theorem snocI {l : List Int} {x : Int} : l.map (V.int .i64) ++ [V.int .i64 x] = (l ++ [x]).map (V.int .i64) := by rw [List.map_append]; rfl
theorem lt_key (fl : List (ByteArray × Int × Int × Int × Int)) (ts : List Int) : ltOf (fun a b => cmpI (keyOf fl ts a) (keyOf fl ts b)) = byKey fl ts := by
  funext a b
  rw [ltOf, byKey]
  refine decide_eq_decide.2 ?_
  unfold cmpI
  by_cases h : keyOf fl ts a < keyOf fl ts b
  · simp [h]
  · simp only [h, if_false, iff_false]
    split <;> omega
def allT (fl : List (ByteArray × Int × Int × Int × Int)) (ts : List Int) : List Int := fl.map fun a => Tm.at_ ts a.2.2.1.toNat
theorem ready_is {fl : List (ByteArray × Int × Int × Int × Int)} {ts : List Int} {x : (ByteArray × Int × Int × Int × Int)} {w : Nat} {p : Int} (hw : x.2.2.1 = (w : Int)) (hp : ts[w]? = some p) : readyP fl ts x = (availB x && decide (0 ≤ p)) := by
  rw [readyP, hw, Int.toNat_natCast, Tm.at_get hp]
theorem key_is {fl : List (ByteArray × Int × Int × Int × Int)} {ts : List Int} {k : Nat} {x : (ByteArray × Int × Int × Int × Int)} {w : Nat} {p : Int} (hx : fl[k]? = some x) (hw : x.2.2.1 = (w : Int)) (hp : ts[w]? = some p) : keyOf fl ts (k : Int) = p := by
  rw [keyOf, Int.toNat_natCast, hx]
  simp only [hw, Int.toNat_natCast, Tm.at_get hp]

set_option maxRecDepth 8000 in
set_option maxHeartbeats 1000000 in
theorem readyOrder1_con (fl : List (ByteArray × Int × Int × Int × Int)) (ts : List Int) (a b : Int) (ha : ∃ (k : Nat) (x : (ByteArray × Int × Int × Int × Int)) (w : Nat), a = (k : Int) ∧ fl[k]? = some x ∧ x.2.2.1 = (w : Int) ∧ w < ts.length) (hb : ∃ (k : Nat) (x : (ByteArray × Int × Int × Int × Int)) (w : Nat), b = (k : Int) ∧ fl[k]? = some x ∧ x.2.2.1 = (w : Int) ∧ w < ts.length) : Con Try.prog 178 [.int .i64 a, .int .i64 b, .pv [.sl (ts.map (V.int .i64))] 0 0, .pv [.sl (fl.map (fun t : ByteArray × Int × Int × Int × Int => V.agg [V.str t.1, V.int .i64 t.2.1, V.int .i64 t.2.2.1, V.int .i64 t.2.2.2.1, V.int .i64 t.2.2.2.2]))] 0 0] [] (.int .i64 (cmpI (keyOf fl ts a) (keyOf fl ts b))) [] := by
 obtain ⟨k1, ⟨x0, x1, x2, x3, x4⟩, u, rfl, hx, haw, hal⟩ := ha
 simp only [] at haw
 subst haw
 obtain ⟨p, hp⟩ : ∃ p, ts[u]? = some p := ⟨_, List.getElem?_eq_getElem hal⟩
 have hk1l : k1 < fl.length := (List.getElem?_eq_some_iff.1 hx).1
 have ek1 := key_is (ts := ts) hx rfl hp
 obtain ⟨k2, ⟨y0, y1, y2, y3, y4⟩, v, rfl, hy, hbw, hbl⟩ := hb
 simp only [] at hbw
 subst hbw
 obtain ⟨q, hq⟩ : ∃ p, ts[v]? = some p := ⟨_, List.getElem?_eq_getElem hbl⟩
 have hk2l : k2 < fl.length := (List.getElem?_eq_some_iff.1 hy).1
 have ek2 := key_is (ts := ts) hy rfl hq
 rw [ek1, ek2]
 refine v_con [.tmp 6] [] Try.func178 rfl rfl rfl (by simp [Try.ntmps178]) ?_
 intro Q0 n0 r0
 simp only [Try.ntmps178, envFrom, Nat.reduceAdd]
 have T := Tys.mk (And.intro Ty.t3 (And.intro Ty.t9 (And.intro Ty.t26 (And.intro Ty.t74 Ty.t141))))
 have F := Fc.mk True.intro
 refine v_seq ?_; intro Q1 n1 e1 r1
 refine v_region ?_; intro K2 k2
 have F := Fc.mk (And.intro (fun f => getD_map (f := f) hx) (And.intro (fun f => getD_map (f := f) hy) (And.intro (fun f => getD_map (f := f) hp) (fun f => getD_map (f := f) hq))))
 refine zAssign ⟨?_⟩
 refine k2 _ ?_
 refine n1 _ _ (weak_keep [0, 1, 2, 3] _) ?_
 refine zk ⟨?_⟩
 refine v_seq ?_; intro Q3 n3 e3 r3
 refine v_draw (by kernel_rfl) ?_; intro K4 q4 k4
 show aAny _ _ _ _ 18 (Array.replicate 18 false) _
 refine zdLoad q4 true 0 7 ?_
 refine zdLoad q4 true 1 8 ?_
 refine zdMove q4 true 2 9 ?_
 refine zdIndexAddr q4 true 3 10 ?_
 refine zdFieldAddr q4 true 4 11 ?_
 refine zdLoad q4 true 5 12 ?_
 refine zdIndexAddr q4 true 6 13 ?_
 refine zdLoad q4 true 7 14 ?_
 refine zdLoad q4 true 8 15 ?_
 refine zdLoad q4 true 9 16 ?_
 refine zdMove q4 true 10 17 ?_
 refine zdIndexAddr q4 true 11 18 ?_
 refine zdFieldAddr q4 true 12 19 ?_
 refine zdLoad q4 true 13 20 ?_
 refine zdIndexAddr q4 true 14 21 ?_
 refine zdLoad q4 true 15 22 ?_
 refine zoc 16 (cmpInt_con p q) ⟨?_⟩
 refine zoAssign 17 ⟨?_⟩
 refine aAny_done (by kernel_rfl) ?_
 refine k4 _ ?_
 refine n3 _ _ (weak_keep [6] _) ?_
 refine zk ⟨?_⟩
 refine v_ret ?_
 refine r0 _ ?_
 refine zf ⟨?_⟩
 exact ret_pure rfl rfl (.inl rfl)
set_option maxRecDepth 8000 in
set_option maxHeartbeats 1000000 in
theorem readyOrder_con (n : Int) (ss : List (Int × Int × Int)) (fl : List (ByteArray × Int × Int × Int × Int)) (node : Int) (hd : DsFacts n ss fl) (hu : 0 ≤ node ∧ node < n) : Con Try.prog 129 [.pv [.agg [.int .i64 n, .sl (ss.map (fun t : Int × Int × Int => V.agg [V.int .i64 t.1, V.int .i64 t.2.1, V.int .i64 t.2.2]))]] 0 0, .sl (fl.map (fun t : ByteArray × Int × Int × Int × Int => V.agg [V.str t.1, V.int .i64 t.2.1, V.int .i64 t.2.2.1, V.int .i64 t.2.2.2.1, V.int .i64 t.2.2.2.2])), .int .i64 node] [] (.ref 0) [.arr ((readyL fl (tmL n ss node)).map (V.int .i64)) .flat] := by
 have hfl := hd.hfl
 obtain ⟨ts, hts⟩ : ∃ ts, ts = tmL n ss node := ⟨_, rfl⟩
 have htl : ts.length = n.toNat := by rw [hts, times_len]
 have htb := tm_facts hd.hn hu hd.hss hd.hsl
 rw [← hts] at htb ⊢
 have hn14 := hd.hn
 have hvalid : ∀ {a : Int}, a ∈ readyTo fl ts fl.length → ∃ (k : Nat) (x : (ByteArray × Int × Int × Int × Int)) (w : Nat), a = (k : Int) ∧ fl[k]? = some x ∧ x.2.2.1 = (w : Int) ∧ w < ts.length := by
  intro a ha
  obtain ⟨k, x, h1, h2, h3, _⟩ := ready_mem fl ts _ a ha
  have hap := hd.hap _ (List.mem_of_getElem? h3)
  obtain ⟨w, hw⟩ := Int.eq_ofNat_of_zero_le hap.2.1
  exact ⟨k, x, w, h1, h3, hw, by rw [htl]; omega⟩
 have hrl := ready_len fl ts fl.length
 refine v_con [.tmp 6] [(177, [0])] Try.func129 rfl rfl rfl (by simp [Try.ntmps129]) ?_
 intro Q0 n0 r0
 simp only [Try.ntmps129, envFrom, Nat.reduceAdd]
 have T := Tys.mk (And.intro Ty.t3 (And.intro Ty.t4 (And.intro Ty.t9 (And.intro Ty.t26 (And.intro Ty.t70 (And.intro Ty.t72 (And.intro Ty.t74 (And.intro Ty.t141 (And.intro Ty.t144 Ty.t182)))))))))
 have F := Fc.mk True.intro
 refine v_seq ?_; intro Q1 n1 e1 r1
 refine v_region ?_; intro K2 k2
 refine zBox ⟨?_⟩
 refine zAssign ⟨?_⟩
 refine k2 _ ?_
 refine n1 _ _ (weak_keep [0, 2, 4] _) ?_
 refine zk ⟨?_⟩
 refine v_seq ?_; intro Q3 n3 e3 r3
 refine v_region ?_; intro K4 k4
 refine zMove ⟨?_⟩
 refine zMove ⟨?_⟩
 refine zc ((hts ▸ tTimes_con n ss node hd.hn hu hd.hss hd.hsl : Con _ _ _ _ _ [.arr (ts.map (V.int .i64)) .flat])) ⟨?_⟩
 refine zAlloc ⟨?_⟩
 refine zStore ⟨?_⟩
 refine k4 _ ?_
 apply n3
 ·apply weak_trans (weak_keep [4, 7] _)
  simp only [keep_mk, keepE_nil, keepE_cons, look_cons, look_nil, Nat.reduceEqDiff, reduceIte]
  exact weak_trans (weak_freeze 4 2 (ts.map (V.int .i64)) .flat rfl rfl (.inl rfl) (by decide)) weak_view
 try simp only [atSlot_cons, atSlot_nil, Nat.reduceEqDiff, reduceIte, List.set_cons_zero, List.set_cons_succ]
 refine v_seq ?_; intro Q5 n5 e5 r5
 refine v_region ?_; intro K6 k6
 refine zAssign ⟨?_⟩
 refine k6 _ ?_
 refine n5 _ _ (weak_keep [4, 7, 8] _) ?_
 refine zk ⟨?_⟩
 refine v_seq ?_; intro Q7 n7 e7 r7
 refine v_seq ?_; intro Q8 n8 e8 r8
 refine v_region ?_; intro K9 k9
 refine zLoad ⟨?_⟩
 refine zLen ⟨?_⟩
 refine zMove ⟨?_⟩
 refine k9 _ ?_
 refine n8 _ _ (weak_keep [4, 7, 8, 14, 15, 16] _) ?_
 refine zk ⟨?_⟩
 refine v_block ?_; intro Q10 n10 x10 e10 r10
 refine v_loop (fun i => ⟨[(4, .ptr 0 0 0), (7, .ptr 1 0 0), (8, .ref 2), (14, .sl (fl.map (fun t : ByteArray × Int × Int × Int × Int => V.agg [V.str t.1, V.int .i64 t.2.1, V.int .i64 t.2.2.1, V.int .i64 t.2.2.2.1, V.int .i64 t.2.2.2.2]))), (15, .int .i64 fl.length), (16, .int .i64 (Nat.cast i))], [.box (.sl (fl.map (fun t : ByteArray × Int × Int × Int × Int => V.agg [V.str t.1, V.int .i64 t.2.1, V.int .i64 t.2.2.1, V.int .i64 t.2.2.2.1, V.int .i64 t.2.2.2.2]))) .shal, .box (.sl (ts.map (V.int .i64))) .deep, .arr ((readyTo fl ts i).map (V.int .i64)) .flat], true, 40, 0⟩) (fun i => i ≤ fl.length) (fun i => fl.length - i) 0 ?_ ?_ ?_
 ·refine weak_bothS [4, 7, 8, 14, 15, 16] [0, 4, 5] ⟨?_⟩
  rfl
 ·exact Nat.zero_le _
 ·rintro i hok11 Q11 n11 e11 r11
  have hi1 : i ≤ fl.length := hok11
  refine v_seq ?_; intro Q12 n12 e12 r12
  refine v_region ?_; intro K13 k13
  refine zBinOp ⟨?_⟩
  refine k13 _ ?_
  refine n12 _ _ (weak_keep [4, 7, 8, 14, 15, 16, 17] _) ?_
  refine zk ⟨?_⟩
  refine v_seq ?_; intro Q14 n14 e14 r14
  refine v_condS _ rfl ?_ ?_
  ·intro hc0
   have hlt : i < fl.length := by omega
   obtain ⟨⟨x0, x1, x2, x3, x4⟩, hx⟩ : ∃ x : ByteArray × Int × Int × Int × Int, fl[i]? = some x := ⟨fl[i]'(by omega), List.getElem?_eq_getElem (by omega)⟩
   have hap := hd.hap _ (List.mem_of_getElem? hx)
   simp only [] at hap
   obtain ⟨w, hw⟩ := Int.eq_ofNat_of_zero_le hap.2.1
   subst hw
   obtain ⟨p, hp⟩ : ∃ p, ts[w]? = some p := ⟨_, List.getElem?_eq_getElem (by rw [htl]; omega)⟩
   have hwl : w < ts.length := by rw [htl]; omega
   have hpb := htb w
   rw [Tm.at_get hp] at hpb
   have hrp := ready_is (fl := fl) (x := (x0, x1, (w : Int), x3, x4)) rfl hp
   have hst := ready_step (ts := ts) hx
   have hrl2 := ready_len fl ts i
   have hki := key_is (ts := ts) hx rfl hp
   refine v_skip ?_
   refine n14 _ _ (weak_keep [4, 7, 8, 14, 15, 16] _) ?_
   refine zk ⟨?_⟩
   refine v_seq ?_; intro Q16 n16 e16 r16
   refine v_block ?_; intro Q17 n17 x17 e17 r17
   refine v_seq ?_; intro Q18 n18 e18 r18
   refine v_region ?_; intro K19 k19
   have F := Fc.mk (And.intro (fun f => getD_map (f := f) hx) (fun f => getD_map (f := f) hp))
   refine zMove ⟨?_⟩
   refine zIndexAddr ⟨?_⟩
   refine zLoad ⟨?_⟩
   refine zAlloc ⟨?_⟩
   refine zAssign ⟨?_⟩
   refine zStore ⟨?_⟩
   refine k19 _ ?_
   refine n18 _ _ (weak_keep [4, 7, 8, 9, 10, 14, 15, 16] _) ?_
   refine zk ⟨?_⟩
   refine v_seq ?_; intro Q20 n20 e20 r20
   refine v_region ?_; intro K21 k21
   refine zLoad ⟨?_⟩
   refine zc (isAvailable_con x0 x1 (w : Int) x3 x4 hap.1) ⟨?_⟩
   refine zMove ⟨?_⟩
   refine zgLoad ⟨?_⟩
   refine zgFieldAddr ⟨?_⟩
   refine zgLoad ⟨?_⟩
   refine zgIndexAddr ⟨?_⟩
   refine zgLoad ⟨?_⟩
   refine zgBinOp ⟨?_⟩
   refine zPick ⟨?_⟩
   refine k21 _ ?_
   refine n20 _ _ (weak_keep [4, 7, 8, 9, 14, 15, 16, 30] _) ?_
   refine zk ⟨?_⟩
   refine v_condS _ rfl ?_ ?_
   ·intro hc1
    have hr1 : readyP fl ts (x0, x1, (w : Int), x3, x4) = true := by rw [hrp]; simpa using hc1
    refine v_region ?_; intro K23 k23
    refine zMove ⟨?_⟩
    refine zMove ⟨?_⟩
    refine zBuildSlice ⟨?_⟩
    refine zAppend ⟨?_⟩
    refine zAssign ⟨?_⟩
    refine k23 _ ?_
    refine n17 _ ?_
    refine n16 _ _ (weak_keep [4, 7, 8, 14, 15, 16] _) ?_
    refine zk ⟨?_⟩
    refine v_region ?_; intro K24 k24
    refine zBinOpW ⟨?_⟩
    refine zMove ⟨?_⟩
    refine k24 _ ?_
    refine n11 _ (i + 1) ?_ ?_ ?_
    ·refine weak_bothS [4, 7, 8, 14, 15, 16] [0, 1, 5] ⟨?_⟩
     rw [hst, if_pos hr1, List.map_append]; rfl
    ·exact hlt
    ·show _ < _; omega
   ·intro hc1
    have hr1 : ¬ readyP fl ts (x0, x1, (w : Int), x3, x4) = true := by rw [hrp]; simpa using hc1
    refine v_skip ?_
    refine n17 _ ?_
    refine n16 _ _ (weak_keep [4, 7, 8, 14, 15, 16] _) ?_
    refine zk ⟨?_⟩
    refine v_region ?_; intro K25 k25
    refine zBinOpW ⟨?_⟩
    refine zMove ⟨?_⟩
    refine k25 _ ?_
    refine n11 _ (i + 1) ?_ ?_ ?_
    ·refine weak_bothS [4, 7, 8, 14, 15, 16] [0, 1, 2] ⟨?_⟩
     rw [hst, if_neg hr1]; rfl
    ·exact hlt
    ·show _ < _; omega
  ·intro hc0
   have hend : i = fl.length := by omega
   subst hend
   refine v_exit ?_
   refine e14 _ _ ?_
   refine e11 _ _ ?_
   refine x10 _ ?_
   refine n7 _ _ (weak_keep [4, 7, 8] _) ?_
   refine zk ⟨?_⟩
   refine v_seq ?_; intro Q26 n26 e26 r26
   refine v_region ?_; intro K27 k27
   refine zMove ⟨?_⟩
   refine zMakeFunc ⟨?_⟩
   refine zcl (sortStable_con (readyTo fl ts fl.length) _ _ (fun a b => cmpI (keyOf fl ts a) (keyOf fl ts b)) (by omega) (.pv _ (.pv _ .nil)) (fun ha hb => readyOrder1_con fl ts _ _ (hvalid ha) (hvalid hb))) ⟨?_⟩
   refine k27 _ ?_
   refine n26 _ _ (weak_keep [8] _) ?_
   refine zk ⟨?_⟩
   refine v_seq ?_; intro Q28 n28 e28 r28
   refine v_region ?_; intro K29 k29
   refine zMove ⟨?_⟩
   refine zAssign ⟨?_⟩
   refine k29 _ ?_
   refine n28 _ _ (weak_keep [6] _) ?_
   refine zk ⟨?_⟩
   refine v_ret ?_
   refine r0 _ ?_
   refine zf ⟨?_⟩
   exact ret_refK rfl rfl (by rw [lt_key]; rfl)
end Go.Proofs.Ytdgenniiidgimaa
