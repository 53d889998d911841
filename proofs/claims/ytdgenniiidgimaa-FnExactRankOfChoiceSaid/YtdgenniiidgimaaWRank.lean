/- What functions compute (Rank). No condition. -/
import Derived.Test.YtdgenniiidgimaaTy
import Derived.Test.YtdgenniiidgimaaVmG
import Derived.Test.YtdgenniiidgimaaWAtt
import Derived.Test.YtdgenniiidgimaaWReadyS
import Derived.Test.YtdgenniiidgimaaWTimes14
import Derived.Test.YtdgenniiidgimaaWReady
import Derived.Test.YtdgenniiidgimaaWHasS
set_option linter.unusedSimpArgs false
set_option linter.unusedVariables false
set_option linter.defProp false
namespace Go.Proofs.Ytdgenniiidgimaa
open Go Go.Vm

def rankP (fl : List (ByteArray × Int × Int × Int × Int)) (ts : List Int) (names : List ByteArray) (far : Int) (i : Int) : Bool := decide (keyOf fl ts i < far) && !inS (nameAt fl i) names
def rankV (n : Int) (ss : List (Int × Int × Int)) (fl : List (ByteArray × Int × Int × Int × Int)) (node : Int) (names : List ByteArray) : Int := if attR n ss fl node names = true then (((readyL fl (tmL n ss node)).filter (rankP fl (tmL n ss node) names (attW n ss fl node names))).length : Int) else 0
theorem filt_step {α : Type} {p : α → Bool} {l : List α} {i : Nat} {x : α} (h : l[i]? = some x) : ((l.take (i + 1)).filter p).length = ((l.take i).filter p).length + (if p x = true then 1 else 0) := by
  rw [List.take_add_one, h, Option.toList_some, List.filter_append, List.length_append]
  congr 1
  by_cases q : p x = true
  · simp [q]
  · simp [q]
theorem allT_at {fl : List (ByteArray × Int × Int × Int × Int)} {ts : List Int} {k w : Nat} {x : (ByteArray × Int × Int × Int × Int)} {p : Int} (h : fl[k]? = some x) (hw : x.2.2.1 = (w : Int)) (hp : ts[w]? = some p) : (allT fl ts)[k]? = some p := by
  rw [allT, List.getElem?_map, h]
  simp [hw, Tm.at_get hp]

set_option maxRecDepth 8000 in
set_option maxHeartbeats 1000000 in
theorem implRank_con (n : Int) (ss : List (Int × Int × Int)) (fl : List (ByteArray × Int × Int × Int × Int)) (node : Int) (names : List ByteArray) (hs : ss.length ≤ 1048576) (hl : fl.length ≤ 1048576) (hls : ∀ t ∈ fl, t.1.size ≤ 9223372036854775807) (hnl : names.length ≤ 1048576) : Con Try.prog 62 [.agg [.int .i64 n, .sl (ss.map (fun t : Int × Int × Int => V.agg [V.int .i64 t.1, V.int .i64 t.2.1, V.int .i64 t.2.2]))], .sl (fl.map (fun t : ByteArray × Int × Int × Int × Int => V.agg [V.str t.1, V.int .i64 t.2.1, V.int .i64 t.2.2.1, V.int .i64 t.2.2.2.1, V.int .i64 t.2.2.2.2])), .int .i64 node, .sl (names.map V.str)] [] (.tup [.int .i64 (rankV n ss fl node names), .bool (attR n ss fl node names)]) [] := by
 refine v_con [.tmp 8, .tmp 9] [] Try.func62 rfl rfl rfl (by simp [Try.ntmps62]) ?_
 intro Q0 n0 r0
 simp only [Try.ntmps62, envFrom, Nat.reduceAdd]
 have T := Tys.mk (And.intro Ty.t3 (And.intro Ty.t4 (And.intro Ty.t9 (And.intro Ty.t26 (And.intro Ty.t70 (And.intro Ty.t72 (And.intro Ty.t74 (And.intro Ty.t93 (And.intro Ty.t141 (And.intro Ty.t144 Ty.t182))))))))))
 have F := Fc.mk True.intro
 refine v_seq ?_; intro Q1 n1 e1 r1
 refine v_region ?_; intro K2 k2
 refine zBox ⟨?_⟩
 refine zAssign ⟨?_⟩
 refine zAssign ⟨?_⟩
 refine k2 _ ?_
 refine n1 _ _ (weak_keep [1, 2, 3, 4] _) ?_
 refine zk ⟨?_⟩
 refine v_seq ?_; intro Q3 n3 e3 r3
 refine v_region ?_; intro K4 k4
 refine zLoad ⟨?_⟩
 refine zMove ⟨?_⟩
 refine zMove ⟨?_⟩
 refine zMove ⟨?_⟩
 refine zc (implAtt_con n ss fl node names hs hl hls hnl) ⟨?_⟩
 refine zMove ⟨?_⟩
 refine zExtract ⟨?_⟩
 refine zExtract ⟨?_⟩
 refine zAssign ⟨?_⟩
 refine zAssign ⟨?_⟩
 refine k4 _ ?_
 refine n3 _ _ (weak_keep [1, 2, 3, 4, 10, 11] _) ?_
 refine zk ⟨?_⟩
 refine v_seq ?_; intro Q5 n5 e5 r5
 refine v_seq ?_; intro Q6 n6 e6 r6
 refine v_region ?_; intro K7 k7
 refine zMove ⟨?_⟩
 refine zUnOp ⟨?_⟩
 refine k7 _ ?_
 refine n6 _ _ (weak_keep [1, 2, 3, 4, 10, 25] _) ?_
 refine zk ⟨?_⟩
 refine v_condS _ rfl ?_ ?_
 ·intro hc0
  have hAF : attR n ss fl node names = false := by simpa using hc0
  have hw0 : rankV n ss fl node names = 0 := by rw [rankV, hAF]; rfl
  refine v_seq ?_; intro Q9 n9 e9 r9
  refine v_region ?_; intro K10 k10
  refine zAssign ⟨?_⟩
  refine zAssign ⟨?_⟩
  refine k10 _ ?_
  refine n9 _ _ (weak_keep [8, 9] _) ?_
  refine zk ⟨?_⟩
  refine v_ret ?_
  refine r5 _ ?_
  refine r0 _ ?_
  refine zf ⟨?_⟩
  rw [hAF, hw0]
  exact ret_pure rfl rfl (.inl rfl)
 ·intro hc0
  have hAT : attR n ss fl node names = true := by simpa using hc0
  have hask : askD n ss fl node = true := by rw [attR, Bool.and_eq_true] at hAT; exact hAT.1
  obtain ⟨hd, hu⟩ := ask_facts hask
  have hfl := hd.hfl
  obtain ⟨ts, hts⟩ : ∃ ts, ts = tmL n ss node := ⟨_, rfl⟩
  have htl : ts.length = n.toNat := by rw [hts, times_len]
  have htb := tm_facts hd.hn hu hd.hss hd.hsl
  rw [← hts] at htb
  have hn14 := hd.hn
  obtain ⟨rl, hrl⟩ : ∃ rl, rl = readyL fl ts := ⟨_, rfl⟩
  have hrn : rl.length ≤ fl.length := by rw [hrl]; exact readyL_len fl ts
  have hRV : rankV n ss fl node names = ((rl.filter (rankP fl ts names (attW n ss fl node names))).length : Int) := by rw [rankV, hAT, hrl, hts]; rfl
  have hval : ∀ {y : Int}, y ∈ rl → ∃ (k : Nat) (x : (ByteArray × Int × Int × Int × Int)) (w : Nat), y = (k : Int) ∧ fl[k]? = some x ∧ x.2.2.1 = (w : Int) ∧ w < ts.length := by
   intro y hy
   rw [hrl] at hy
   obtain ⟨k, x, h1, h2, h3, _⟩ := readyL_mem hy
   have hap := hd.hap _ (List.mem_of_getElem? h3)
   obtain ⟨w, hw⟩ := Int.eq_ofNat_of_zero_le hap.2.1
   exact ⟨k, x, w, h1, h3, hw, by rw [htl]; omega⟩
  refine v_skip ?_
  refine n5 _ _ (weak_keep [1, 2, 3, 4, 10] _) ?_
  refine zk ⟨?_⟩
  refine v_seq ?_; intro Q11 n11 e11 r11
  refine v_region ?_; intro K12 k12
  refine zMove ⟨?_⟩
  refine zc ((hts ▸ tTimes_con n ss node hd.hn hu hd.hss hd.hsl : Con _ _ _ _ _ [.arr (ts.map (V.int .i64)) .flat])) ⟨?_⟩
  refine zAssign ⟨?_⟩
  refine zAssign ⟨?_⟩
  refine k12 _ ?_
  refine n11 _ _ (weak_keep [1, 2, 3, 4, 10, 12, 13] _) ?_
  refine zk ⟨?_⟩
  refine v_seq ?_; intro Q13 n13 e13 r13
  refine v_seq ?_; intro Q14 n14 e14 r14
  refine v_region ?_; intro K15 k15
  refine zMove ⟨?_⟩
  refine zMove ⟨?_⟩
  refine zc ((hrl ▸ hts ▸ readyOrder_con n ss fl node hd hu : Con _ _ _ _ _ [.arr (rl.map (V.int .i64)) .flat])) ⟨?_⟩
  refine zLen ⟨?_⟩
  refine zMove ⟨?_⟩
  refine k15 _ ?_
  refine n14 _ _ (weak_keep [1, 3, 10, 12, 13, 30, 31, 32] _) ?_
  refine zk ⟨?_⟩
  refine v_block ?_; intro Q16 n16 x16 e16 r16
  refine v_loop (fun q => ⟨[(1, .sl (fl.map (fun t : ByteArray × Int × Int × Int × Int => V.agg [V.str t.1, V.int .i64 t.2.1, V.int .i64 t.2.2.1, V.int .i64 t.2.2.2.1, V.int .i64 t.2.2.2.2]))), (3, .sl (names.map V.str)), (10, .int .i64 (attW n ss fl node names)), (12, .ref 0), (13, .int .i64 (Nat.cast q.2)), (30, .ref 1), (31, .int .i64 rl.length), (32, .int .i64 (Nat.cast q.1))], [.arr (ts.map (V.int .i64)) .flat, .arr (rl.map (V.int .i64)) .flat], false, 60, 0⟩) (fun q => q.1 ≤ rl.length ∧ q.2 = ((rl.take q.1).filter (rankP fl ts names (attW n ss fl node names))).length) (fun q => rl.length - q.1) ((0, 0) : Nat × Nat) ?_ ?_ ?_
  ·refine weak_bothS [1, 3, 10, 12, 13, 30, 31, 32] [1, 2] ⟨?_⟩
   rfl
  ·exact ⟨Nat.zero_le _, rfl⟩
  ·rintro ⟨i, c⟩ hok17 Q17 n17 e17 r17
   obtain ⟨hi1, hn⟩ := hok17
   simp only [] at hi1 hn ⊢
   have hcb : c ≤ i := by rw [hn]; exact Nat.le_trans (List.length_filter_le ..) (List.length_take_le ..)
   refine v_seq ?_; intro Q18 n18 e18 r18
   refine v_region ?_; intro K19 k19
   refine zBinOp ⟨?_⟩
   refine k19 _ ?_
   refine n18 _ _ (weak_keep [1, 3, 10, 12, 13, 30, 31, 32, 33] _) ?_
   refine zk ⟨?_⟩
   refine v_seq ?_; intro Q20 n20 e20 r20
   refine v_condS _ rfl ?_ ?_
   ·intro hc1
    have hlt : i < rl.length := by omega
    obtain ⟨y, hy⟩ : ∃ y, rl[i]? = some y := ⟨_, List.getElem?_eq_getElem hlt⟩
    have hv := hval (List.mem_of_getElem? hy)
    have hst := filt_step (p := rankP fl ts names (attW n ss fl node names)) hy
    obtain ⟨k, ⟨x0, x1, x2, x3, x4⟩, w, rfl, hx, hvw, hvl⟩ := hv
    simp only [] at hvw
    subst hvw
    obtain ⟨p, hp⟩ : ∃ p, ts[w]? = some p := ⟨_, List.getElem?_eq_getElem hvl⟩
    have hkl : k < fl.length := (List.getElem?_eq_some_iff.1 hx).1
    have ek := key_is (ts := ts) hx rfl hp
    have hnm : nameAt fl (k : Int) = x0 := by rw [nameAt, Int.toNat_natCast, hx]
    have hrk : rankP fl ts names (attW n ss fl node names) (k : Int) = (decide (p < attW n ss fl node names) && !inS x0 names) := by rw [rankP, ek, hnm]
    have hat := allT_at (ts := ts) hx rfl hp
    refine v_skip ?_
    refine n20 _ _ (weak_keep [1, 3, 10, 12, 13, 30, 31, 32] _) ?_
    refine zk ⟨?_⟩
    refine v_seq ?_; intro Q22 n22 e22 r22
    refine v_block ?_; intro Q23 n23 x23 e23 r23
    refine v_seq ?_; intro Q24 n24 e24 r24
    refine v_region ?_; intro K25 k25
    have F := Fc.mk (And.intro (fun f => getD_map (f := f) hx) (And.intro (fun f => getD_map (f := f) hy) (fun f => getD_map (f := f) hp)))
    refine zIndexAddr ⟨?_⟩
    refine zLoad ⟨?_⟩
    refine zAssign ⟨?_⟩
    refine k25 _ ?_
    refine n24 _ _ (weak_keep [1, 3, 10, 12, 13, 15, 30, 31, 32] _) ?_
    refine zk ⟨?_⟩
    refine v_seq ?_; intro Q26 n26 e26 r26
    refine v_region ?_; intro K27 k27
    refine zMove ⟨?_⟩
    refine zMove ⟨?_⟩
    refine zMove ⟨?_⟩
    refine zIndexAddr ⟨?_⟩
    refine zFieldAddr ⟨?_⟩
    refine zLoad ⟨?_⟩
    refine zIndexAddr ⟨?_⟩
    refine zLoad ⟨?_⟩
    refine zMove ⟨?_⟩
    refine zBinOp ⟨?_⟩
    refine zMove ⟨?_⟩
    refine zgMove ⟨?_⟩
    refine zgMove ⟨?_⟩
    refine zgMove ⟨?_⟩
    refine zgIndexAddr ⟨?_⟩
    refine zgFieldAddr ⟨?_⟩
    refine zgLoad ⟨?_⟩
    refine zgc (slContainsS_con names x0 hnl) ⟨?_⟩
    refine zgUnOp ⟨?_⟩
    refine zPick ⟨?_⟩
    refine k27 _ ?_
    refine n26 _ _ (weak_keep [1, 3, 10, 12, 13, 30, 31, 32, 55] _) ?_
    refine zk ⟨?_⟩
    refine v_condS _ rfl ?_ ?_
    ·intro hc2
     have hr1 : rankP fl ts names (attW n ss fl node names) (k : Int) = true := by rw [hrk]; simpa using hc2
     refine v_region ?_; intro K29 k29
     refine zMove ⟨?_⟩
     refine zBinOpW ⟨?_⟩
     refine zAssign ⟨?_⟩
     refine k29 _ ?_
     refine n23 _ ?_
     refine n22 _ _ (weak_keep [1, 3, 10, 12, 13, 30, 31, 32] _) ?_
     refine zk ⟨?_⟩
     refine v_region ?_; intro K30 k30
     refine zBinOpW ⟨?_⟩
     refine zMove ⟨?_⟩
     refine k30 _ ?_
     refine n17 _ (i + 1, c + 1) ?_ ?_ ?_
     ·refine weak_bothS [1, 3, 10, 12, 13, 30, 31, 32] [0, 1] ⟨?_⟩
      rfl
     ·exact ⟨hlt, by show c + 1 = _; rw [hst, ← hn, if_pos hr1]⟩
     ·show _ < _; show rl.length - (i + 1) < rl.length - i; omega
    ·intro hc2
     have hr1 : ¬ rankP fl ts names (attW n ss fl node names) (k : Int) = true := by rw [hrk]; simpa using hc2
     refine v_skip ?_
     refine n23 _ ?_
     refine n22 _ _ (weak_keep [1, 3, 10, 12, 13, 30, 31, 32] _) ?_
     refine zk ⟨?_⟩
     refine v_region ?_; intro K31 k31
     refine zBinOpW ⟨?_⟩
     refine zMove ⟨?_⟩
     refine k31 _ ?_
     refine n17 _ (i + 1, c) ?_ ?_ ?_
     ·refine weak_bothS [1, 3, 10, 12, 13, 30, 31, 32] [0, 1] ⟨?_⟩
      rfl
     ·exact ⟨hlt, by show c = _; rw [hst, ← hn, if_neg hr1]; rfl⟩
     ·show _ < _; show rl.length - (i + 1) < rl.length - i; omega
   ·intro hc1
    refine v_exit ?_
    refine e20 _ _ ?_
    refine e17 _ _ ?_
    refine x16 _ ?_
    refine n13 _ _ (weak_keep [13] _) ?_
    refine zk ⟨?_⟩
    refine v_seq ?_; intro Q32 n32 e32 r32
    refine v_region ?_; intro K33 k33
    refine zMove ⟨?_⟩
    refine zAssign ⟨?_⟩
    refine zAssign ⟨?_⟩
    refine k33 _ ?_
    refine n32 _ _ (weak_keep [8, 9] _) ?_
    refine zk ⟨?_⟩
    refine v_ret ?_
    refine r0 _ ?_
    refine zf ⟨?_⟩
    rw [hAT, hRV]
    exact ret_pure rfl (by rw [hn, List.take_of_length_le (by omega)]) (.inl rfl)
set_option maxRecDepth 8000 in
set_option maxHeartbeats 1000000 in
theorem specRank_con (n : Int) (ss : List (Int × Int × Int)) (fl : List (ByteArray × Int × Int × Int × Int)) (node : Int) (names : List ByteArray) (hs : ss.length ≤ 1048576) (hl : fl.length ≤ 1048576) (hls : ∀ t ∈ fl, t.1.size ≤ 9223372036854775807) (hnl : names.length ≤ 1048576) : Con Try.prog 60 [.agg [.int .i64 n, .sl (ss.map (fun t : Int × Int × Int => V.agg [V.int .i64 t.1, V.int .i64 t.2.1, V.int .i64 t.2.2]))], .sl (fl.map (fun t : ByteArray × Int × Int × Int × Int => V.agg [V.str t.1, V.int .i64 t.2.1, V.int .i64 t.2.2.1, V.int .i64 t.2.2.2.1, V.int .i64 t.2.2.2.2])), .int .i64 node, .sl (names.map V.str)] [] (.tup [.int .i64 (rankV n ss fl node names), .bool (attR n ss fl node names)]) [] := by
 refine v_con [.tmp 8, .tmp 9] [] Try.func60 rfl rfl rfl (by simp [Try.ntmps60]) ?_
 intro Q0 n0 r0
 simp only [Try.ntmps60, envFrom, Nat.reduceAdd]
 have T := Tys.mk (And.intro Ty.t3 (And.intro Ty.t4 (And.intro Ty.t9 (And.intro Ty.t26 (And.intro Ty.t70 (And.intro Ty.t72 (And.intro Ty.t74 (And.intro Ty.t93 (And.intro Ty.t141 Ty.t182)))))))))
 have F := Fc.mk True.intro
 refine v_seq ?_; intro Q1 n1 e1 r1
 refine v_region ?_; intro K2 k2
 refine zBox ⟨?_⟩
 refine zAssign ⟨?_⟩
 refine zAssign ⟨?_⟩
 refine k2 _ ?_
 refine n1 _ _ (weak_keep [1, 2, 3, 4] _) ?_
 refine zk ⟨?_⟩
 refine v_seq ?_; intro Q3 n3 e3 r3
 refine v_region ?_; intro K4 k4
 refine zLoad ⟨?_⟩
 refine zMove ⟨?_⟩
 refine zMove ⟨?_⟩
 refine zMove ⟨?_⟩
 refine zc (specAtt_con n ss fl node names hs hl hls hnl) ⟨?_⟩
 refine zMove ⟨?_⟩
 refine zExtract ⟨?_⟩
 refine zExtract ⟨?_⟩
 refine zAssign ⟨?_⟩
 refine zAssign ⟨?_⟩
 refine k4 _ ?_
 refine n3 _ _ (weak_keep [1, 2, 3, 4, 10, 11] _) ?_
 refine zk ⟨?_⟩
 refine v_seq ?_; intro Q5 n5 e5 r5
 refine v_seq ?_; intro Q6 n6 e6 r6
 refine v_region ?_; intro K7 k7
 refine zMove ⟨?_⟩
 refine zUnOp ⟨?_⟩
 refine k7 _ ?_
 refine n6 _ _ (weak_keep [1, 2, 3, 4, 10, 26] _) ?_
 refine zk ⟨?_⟩
 refine v_condS _ rfl ?_ ?_
 ·intro hc0
  have hAF : attR n ss fl node names = false := by simpa using hc0
  have hw0 : rankV n ss fl node names = 0 := by rw [rankV, hAF]; rfl
  refine v_seq ?_; intro Q9 n9 e9 r9
  refine v_region ?_; intro K10 k10
  refine zAssign ⟨?_⟩
  refine zAssign ⟨?_⟩
  refine k10 _ ?_
  refine n9 _ _ (weak_keep [8, 9] _) ?_
  refine zk ⟨?_⟩
  refine v_ret ?_
  refine r5 _ ?_
  refine r0 _ ?_
  refine zf ⟨?_⟩
  rw [hAF, hw0]
  exact ret_pure rfl rfl (.inl rfl)
 ·intro hc0
  have hAT : attR n ss fl node names = true := by simpa using hc0
  have hask : askD n ss fl node = true := by rw [attR, Bool.and_eq_true] at hAT; exact hAT.1
  obtain ⟨hd, hu⟩ := ask_facts hask
  have hfl := hd.hfl
  obtain ⟨ts, hts⟩ : ∃ ts, ts = tmL n ss node := ⟨_, rfl⟩
  have htl : ts.length = n.toNat := by rw [hts, times_len]
  have htb := tm_facts hd.hn hu hd.hss hd.hsl
  rw [← hts] at htb
  have hn14 := hd.hn
  obtain ⟨rl, hrl⟩ : ∃ rl, rl = readyL fl ts := ⟨_, rfl⟩
  have hrn : rl.length ≤ fl.length := by rw [hrl]; exact readyL_len fl ts
  have hRV : rankV n ss fl node names = ((rl.filter (rankP fl ts names (attW n ss fl node names))).length : Int) := by rw [rankV, hAT, hrl, hts]; rfl
  have hval : ∀ {y : Int}, y ∈ rl → ∃ (k : Nat) (x : (ByteArray × Int × Int × Int × Int)) (w : Nat), y = (k : Int) ∧ fl[k]? = some x ∧ x.2.2.1 = (w : Int) ∧ w < ts.length := by
   intro y hy
   rw [hrl] at hy
   obtain ⟨k, x, h1, h2, h3, _⟩ := readyL_mem hy
   have hap := hd.hap _ (List.mem_of_getElem? h3)
   obtain ⟨w, hw⟩ := Int.eq_ofNat_of_zero_le hap.2.1
   exact ⟨k, x, w, h1, h3, hw, by rw [htl]; omega⟩
  refine v_skip ?_
  refine n5 _ _ (weak_keep [1, 2, 3, 4, 10] _) ?_
  refine zk ⟨?_⟩
  refine v_seq ?_; intro Q11 n11 e11 r11
  refine v_region ?_; intro K12 k12
  refine zLoad ⟨?_⟩
  refine zMove ⟨?_⟩
  refine zMove ⟨?_⟩
  refine zc ((hrl ▸ hts ▸ dsReady_con n ss fl node hd hu : Con _ _ _ _ _ [.arr (rl.map (V.int .i64)) .flat, .arr ((allT fl ts).map (V.int .i64)) .flat])) ⟨?_⟩
  refine zMove ⟨?_⟩
  refine zExtract ⟨?_⟩
  refine zExtract ⟨?_⟩
  refine zAssign ⟨?_⟩
  refine zAssign ⟨?_⟩
  refine k12 _ ?_
  refine n11 _ _ (weak_keep [1, 3, 10, 12, 13] _) ?_
  refine zk ⟨?_⟩
  refine v_seq ?_; intro Q13 n13 e13 r13
  refine v_region ?_; intro K14 k14
  refine zAssign ⟨?_⟩
  refine k14 _ ?_
  refine n13 _ _ (weak_keep [1, 3, 10, 12, 13, 14] _) ?_
  refine zk ⟨?_⟩
  refine v_seq ?_; intro Q15 n15 e15 r15
  refine v_seq ?_; intro Q16 n16 e16 r16
  refine v_region ?_; intro K17 k17
  refine zMove ⟨?_⟩
  refine zLen ⟨?_⟩
  refine zMove ⟨?_⟩
  refine k17 _ ?_
  refine n16 _ _ (weak_keep [1, 3, 10, 13, 14, 34, 35, 36] _) ?_
  refine zk ⟨?_⟩
  refine v_block ?_; intro Q18 n18 x18 e18 r18
  refine v_loop (fun q => ⟨[(1, .sl (fl.map (fun t : ByteArray × Int × Int × Int × Int => V.agg [V.str t.1, V.int .i64 t.2.1, V.int .i64 t.2.2.1, V.int .i64 t.2.2.2.1, V.int .i64 t.2.2.2.2]))), (3, .sl (names.map V.str)), (10, .int .i64 (attW n ss fl node names)), (13, .ref 1), (14, .int .i64 (Nat.cast q.2)), (34, .ref 0), (35, .int .i64 rl.length), (36, .int .i64 (Nat.cast q.1))], [.arr (rl.map (V.int .i64)) .flat, .arr ((allT fl ts).map (V.int .i64)) .flat], false, 60, 0⟩) (fun q => q.1 ≤ rl.length ∧ q.2 = ((rl.take q.1).filter (rankP fl ts names (attW n ss fl node names))).length) (fun q => rl.length - q.1) ((0, 0) : Nat × Nat) ?_ ?_ ?_
  ·refine weak_bothS [1, 3, 10, 13, 14, 34, 35, 36] [1, 2] ⟨?_⟩
   rfl
  ·exact ⟨Nat.zero_le _, rfl⟩
  ·rintro ⟨i, c⟩ hok19 Q19 n19 e19 r19
   obtain ⟨hi1, hn⟩ := hok19
   simp only [] at hi1 hn ⊢
   have hcb : c ≤ i := by rw [hn]; exact Nat.le_trans (List.length_filter_le ..) (List.length_take_le ..)
   refine v_seq ?_; intro Q20 n20 e20 r20
   refine v_region ?_; intro K21 k21
   refine zBinOp ⟨?_⟩
   refine k21 _ ?_
   refine n20 _ _ (weak_keep [1, 3, 10, 13, 14, 34, 35, 36, 37] _) ?_
   refine zk ⟨?_⟩
   refine v_seq ?_; intro Q22 n22 e22 r22
   refine v_condS _ rfl ?_ ?_
   ·intro hc1
    have hlt : i < rl.length := by omega
    obtain ⟨y, hy⟩ : ∃ y, rl[i]? = some y := ⟨_, List.getElem?_eq_getElem hlt⟩
    have hv := hval (List.mem_of_getElem? hy)
    have hst := filt_step (p := rankP fl ts names (attW n ss fl node names)) hy
    obtain ⟨k, ⟨x0, x1, x2, x3, x4⟩, w, rfl, hx, hvw, hvl⟩ := hv
    simp only [] at hvw
    subst hvw
    obtain ⟨p, hp⟩ : ∃ p, ts[w]? = some p := ⟨_, List.getElem?_eq_getElem hvl⟩
    have hkl : k < fl.length := (List.getElem?_eq_some_iff.1 hx).1
    have ek := key_is (ts := ts) hx rfl hp
    have hnm : nameAt fl (k : Int) = x0 := by rw [nameAt, Int.toNat_natCast, hx]
    have hrk : rankP fl ts names (attW n ss fl node names) (k : Int) = (decide (p < attW n ss fl node names) && !inS x0 names) := by rw [rankP, ek, hnm]
    have hat := allT_at (ts := ts) hx rfl hp
    refine v_skip ?_
    refine n22 _ _ (weak_keep [1, 3, 10, 13, 14, 34, 35, 36] _) ?_
    refine zk ⟨?_⟩
    refine v_seq ?_; intro Q24 n24 e24 r24
    refine v_block ?_; intro Q25 n25 x25 e25 r25
    refine v_seq ?_; intro Q26 n26 e26 r26
    refine v_region ?_; intro K27 k27
    have F := Fc.mk (And.intro (fun f => getD_map (f := f) hx) (And.intro (fun f => getD_map (f := f) hy) (And.intro (fun f => getD_map (f := f) hp) (And.intro (fun f => getD_map (f := f) hat) @allT_len))))
    refine zIndexAddr ⟨?_⟩
    refine zLoad ⟨?_⟩
    refine zAssign ⟨?_⟩
    refine k27 _ ?_
    refine n26 _ _ (weak_keep [1, 3, 10, 13, 14, 16, 34, 35, 36] _) ?_
    refine zk ⟨?_⟩
    refine v_seq ?_; intro Q28 n28 e28 r28
    refine v_region ?_; intro K29 k29
    refine zMove ⟨?_⟩
    refine zMove ⟨?_⟩
    refine zIndexAddr ⟨?_⟩
    refine zLoad ⟨?_⟩
    refine zMove ⟨?_⟩
    refine zBinOp ⟨?_⟩
    refine zMove ⟨?_⟩
    refine zgMove ⟨?_⟩
    refine zgMove ⟨?_⟩
    refine zgMove ⟨?_⟩
    refine zgIndexAddr ⟨?_⟩
    refine zgFieldAddr ⟨?_⟩
    refine zgLoad ⟨?_⟩
    refine zgc (dsHas_con names x0 hnl) ⟨?_⟩
    refine zgUnOp ⟨?_⟩
    refine zPick ⟨?_⟩
    refine k29 _ ?_
    refine n28 _ _ (weak_keep [1, 3, 10, 13, 14, 34, 35, 36, 55] _) ?_
    refine zk ⟨?_⟩
    refine v_condS _ rfl ?_ ?_
    ·intro hc2
     have hr1 : rankP fl ts names (attW n ss fl node names) (k : Int) = true := by rw [hrk]; simpa using hc2
     refine v_region ?_; intro K31 k31
     refine zMove ⟨?_⟩
     refine zBinOpW ⟨?_⟩
     refine zAssign ⟨?_⟩
     refine k31 _ ?_
     refine n25 _ ?_
     refine n24 _ _ (weak_keep [1, 3, 10, 13, 14, 34, 35, 36] _) ?_
     refine zk ⟨?_⟩
     refine v_region ?_; intro K32 k32
     refine zBinOpW ⟨?_⟩
     refine zMove ⟨?_⟩
     refine k32 _ ?_
     refine n19 _ (i + 1, c + 1) ?_ ?_ ?_
     ·refine weak_bothS [1, 3, 10, 13, 14, 34, 35, 36] [0, 1] ⟨?_⟩
      rfl
     ·exact ⟨hlt, by show c + 1 = _; rw [hst, ← hn, if_pos hr1]⟩
     ·show _ < _; show rl.length - (i + 1) < rl.length - i; omega
    ·intro hc2
     have hr1 : ¬ rankP fl ts names (attW n ss fl node names) (k : Int) = true := by rw [hrk]; simpa using hc2
     refine v_skip ?_
     refine n25 _ ?_
     refine n24 _ _ (weak_keep [1, 3, 10, 13, 14, 34, 35, 36] _) ?_
     refine zk ⟨?_⟩
     refine v_region ?_; intro K33 k33
     refine zBinOpW ⟨?_⟩
     refine zMove ⟨?_⟩
     refine k33 _ ?_
     refine n19 _ (i + 1, c) ?_ ?_ ?_
     ·refine weak_bothS [1, 3, 10, 13, 14, 34, 35, 36] [0, 1] ⟨?_⟩
      rfl
     ·exact ⟨hlt, by show c = _; rw [hst, ← hn, if_neg hr1]; rfl⟩
     ·show _ < _; show rl.length - (i + 1) < rl.length - i; omega
   ·intro hc1
    refine v_exit ?_
    refine e22 _ _ ?_
    refine e19 _ _ ?_
    refine x18 _ ?_
    refine n15 _ _ (weak_keep [14] _) ?_
    refine zk ⟨?_⟩
    refine v_seq ?_; intro Q34 n34 e34 r34
    refine v_region ?_; intro K35 k35
    refine zMove ⟨?_⟩
    refine zAssign ⟨?_⟩
    refine zAssign ⟨?_⟩
    refine k35 _ ?_
    refine n34 _ _ (weak_keep [8, 9] _) ?_
    refine zk ⟨?_⟩
    refine v_ret ?_
    refine r0 _ ?_
    refine zf ⟨?_⟩
    rw [hAT, hRV]
    exact ret_pure rfl (by rw [hn, List.take_of_length_le (by omega)]) (.inl rfl)
end Go.Proofs.Ytdgenniiidgimaa
