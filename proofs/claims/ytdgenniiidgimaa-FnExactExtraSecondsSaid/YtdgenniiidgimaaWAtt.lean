/- What functions compute (Att). No condition. -/
import Derived.Test.YtdgenniiidgimaaTy
import Derived.Test.YtdgenniiidgimaaVmG
import Derived.Test.YtdgenniiidgimaaWReady
import Derived.Test.YtdgenniiidgimaaWDisp
import Derived.Test.YtdgenniiidgimaaWTown
import Derived.Test.YtdgenniiidgimaaWTimes14
import Derived.Test.YtdgenniiidgimaaWHasS
set_option linter.unusedSimpArgs false
set_option linter.unusedVariables false
set_option linter.defProp false
namespace Go.Proofs.Ytdgenniiidgimaa
open Go Go.Vm

theorem findA_cases (fl : List (ByteArray × Int × Int × Int × Int)) (s : ByteArray) : findA fl s = -1 ∨ ∃ (k : Nat) (x : (ByteArray × Int × Int × Int × Int)), findA fl s = (k : Int) ∧ fl[k]? = some x ∧ x.1 = s := by
  by_cases h : findA fl s = -1
  · exact .inl h
  · obtain ⟨k, h1, h2, _, x, h4, h5⟩ := first_some h
    exact .inr ⟨k, x, by rw [findA, h2, Nat.zero_add], h4, by simpa using h5⟩
def attR (n : Int) (ss : List (Int × Int × Int)) (fl : List (ByteArray × Int × Int × Int × Int)) (node : Int) (names : List ByteArray) : Bool := askD n ss fl node && attB fl (tmL n ss node) names
def attW (n : Int) (ss : List (Int × Int × Int)) (fl : List (ByteArray × Int × Int × Int × Int)) (node : Int) (names : List ByteArray) : Int := if attR n ss fl node names = true then attV fl (tmL n ss node) names else 0
theorem attOne_none {fl : List (ByteArray × Int × Int × Int × Int)} {ts : List Int} {s : ByteArray} (h : findA fl s = -1) : attOne fl ts s = -1 := by rw [attOne, if_pos (by omega)]
theorem attOne_some {fl : List (ByteArray × Int × Int × Int × Int)} {ts : List Int} {s : ByteArray} {k : Nat} {x : (ByteArray × Int × Int × Int × Int)} {w : Nat} {p : Int} (h : findA fl s = (k : Int)) (hx : fl[k]? = some x) (hw : x.2.2.1 = (w : Int)) (hp : ts[w]? = some p) : attOne fl ts s = p := by
  rw [attOne, if_neg (by omega), h, key_is hx hw hp]
theorem attV_step {fl : List (ByteArray × Int × Int × Int × Int)} {ts : List Int} {names : List ByteArray} {i : Nat} {s : ByteArray} (h : names[i]? = some s) : attV fl ts (names.take (i + 1)) = max (attV fl ts (names.take i)) (attOne fl ts s) := by
  rw [attV, List.take_add_one, h, Option.toList, List.foldl_append]; rfl
theorem attB_split {fl : List (ByteArray × Int × Int × Int × Int)} {ts : List Int} {names : List ByteArray} : attB fl ts names = ((chainAt (fun _ : ByteArray => true) strLt names 0 && names.all fun s => decide (0 ≤ attOne fl ts s)) && !decide ((names.length : Int) = 0)) := by
  rw [attB, chain_split]

set_option maxRecDepth 8000 in
set_option maxHeartbeats 1000000 in
theorem implAtt_con (n : Int) (ss : List (Int × Int × Int)) (fl : List (ByteArray × Int × Int × Int × Int)) (node : Int) (names : List ByteArray) (hs : ss.length ≤ 1048576) (hl : fl.length ≤ 1048576) (hls : ∀ t ∈ fl, t.1.size ≤ 9223372036854775807) (hnl : names.length ≤ 1048576) : Con Try.prog 127 [.agg [.int .i64 n, .sl (ss.map (fun t : Int × Int × Int => V.agg [V.int .i64 t.1, V.int .i64 t.2.1, V.int .i64 t.2.2]))], .sl (fl.map (fun t : ByteArray × Int × Int × Int × Int => V.agg [V.str t.1, V.int .i64 t.2.1, V.int .i64 t.2.2.1, V.int .i64 t.2.2.2.1, V.int .i64 t.2.2.2.2])), .int .i64 node, .sl (names.map V.str)] [] (.tup [.int .i64 (attW n ss fl node names), .bool (attR n ss fl node names)]) [] := by
 refine v_con [.tmp 8, .tmp 9] [] Try.func127 rfl rfl rfl (by simp [Try.ntmps127]) ?_
 intro Q0 n0 r0
 simp only [Try.ntmps127, envFrom, Nat.reduceAdd]
 have T := Tys.mk (And.intro Ty.t3 (And.intro Ty.t4 (And.intro Ty.t9 (And.intro Ty.t26 (And.intro Ty.t70 (And.intro Ty.t72 (And.intro Ty.t74 (And.intro Ty.t93 (And.intro Ty.t141 (And.intro Ty.t144 Ty.t182))))))))))
 have F := Fc.mk True.intro
 refine v_seq ?_; intro Q1 n1 e1 r1
 refine v_region ?_; intro K2 k2
 refine zBox ⟨?_⟩
 refine zAssign ⟨?_⟩
 refine zAssign ⟨?_⟩
 refine k2 _ ?_
 refine n1 _ _ (weak_keep [1, 2, 3, 4] _) ?_
 refine zk ⟨?_⟩
 refine v_seq ?_; intro Q3 n3 e3 r3
 refine v_seq ?_; intro Q4 n4 e4 r4
 refine v_region ?_; intro K5 k5
 refine zMove ⟨?_⟩
 refine zc (dispatchFits_con n ss fl hs hl hls) ⟨?_⟩
 refine zUnOp ⟨?_⟩
 refine zMove ⟨?_⟩
 refine zgMove ⟨?_⟩
 refine zgc (tHas_con n ss node) ⟨?_⟩
 refine zgUnOp ⟨?_⟩
 refine zPick ⟨?_⟩
 refine zMove ⟨?_⟩
 refine zgMove ⟨?_⟩
 refine zgLen ⟨?_⟩
 refine zgBinOp ⟨?_⟩
 refine zPick ⟨?_⟩
 refine k5 _ ?_
 refine n4 _ _ (weak_keep [1, 2, 3, 4, 27] _) ?_
 refine zk ⟨?_⟩
 refine v_condS _ rfl ?_ ?_
 ·intro hc0
  have hh : attR n ss fl node names = false := by cases hq : attR n ss fl node names with | false => rfl | true => (exfalso; simp [attR, askD, attB_split] at hq; first | (simp_all; done) | (simp_all [askD]; done) | (simp_all; omega))
  have hw0 : attW n ss fl node names = 0 := by rw [attW, hh]; rfl
  refine v_seq ?_; intro Q7 n7 e7 r7
  refine v_region ?_; intro K8 k8
  refine zAssign ⟨?_⟩
  refine zAssign ⟨?_⟩
  refine k8 _ ?_
  refine n7 _ _ (weak_keep [8, 9] _) ?_
  refine zk ⟨?_⟩
  refine v_ret ?_
  refine r3 _ ?_
  refine r0 _ ?_
  refine zf ⟨?_⟩
  rw [hh, hw0]
  exact ret_pure rfl rfl (.inl rfl)
 ·intro hc0
  have hask : askD n ss fl node = true := by rw [askD, Bool.and_eq_true]; first | exact hc0.1 | (simp [askD] at hc0; first | exact hc0.1 | (simp_all; done))
  obtain ⟨hd, hu⟩ := ask_facts hask
  have hn0 : ¬ (names.length : Int) = 0 := by first | exact hc0.2 | (simp at hc0; first | omega | (simp_all; done))
  have hfl := hd.hfl
  obtain ⟨ts, hts⟩ : ∃ ts, ts = tmL n ss node := ⟨_, rfl⟩
  have htl : ts.length = n.toNat := by rw [hts, times_len]
  have htb := tm_facts hd.hn hu hd.hss hd.hsl
  rw [← hts] at htb
  have hn14 := hd.hn
  have hAR : attR n ss fl node names = attB fl ts names := by rw [attR, hask, hts]; rfl
  have hAW : attW n ss fl node names = if attB fl ts names = true then attV fl ts names else 0 := by rw [attW, hAR, hts]
  refine v_skip ?_
  refine n3 _ _ (weak_keep [1, 2, 3, 4] _) ?_
  refine zk ⟨?_⟩
  refine v_seq ?_; intro Q9 n9 e9 r9
  refine v_region ?_; intro K10 k10
  refine zMove ⟨?_⟩
  refine zc ((hts ▸ tTimes_con n ss node hd.hn hu hd.hss hd.hsl : Con _ _ _ _ _ [.arr (ts.map (V.int .i64)) .flat])) ⟨?_⟩
  refine zAssign ⟨?_⟩
  refine zAssign ⟨?_⟩
  refine k10 _ ?_
  refine n9 _ _ (weak_keep [1, 3, 10, 11] _) ?_
  refine zk ⟨?_⟩
  refine v_seq ?_; intro Q11 n11 e11 r11
  refine v_seq ?_; intro Q12 n12 e12 r12
  refine v_region ?_; intro K13 k13
  refine zMove ⟨?_⟩
  refine zLen ⟨?_⟩
  refine zMove ⟨?_⟩
  refine k13 _ ?_
  refine n12 _ _ (weak_keep [1, 3, 10, 11, 30, 31, 32] _) ?_
  refine zk ⟨?_⟩
  refine v_block ?_; intro Q14 n14 x14 e14 r14
  refine v_loop (fun q => ⟨[(1, .sl (fl.map (fun t : ByteArray × Int × Int × Int × Int => V.agg [V.str t.1, V.int .i64 t.2.1, V.int .i64 t.2.2.1, V.int .i64 t.2.2.2.1, V.int .i64 t.2.2.2.2]))), (3, .sl (names.map V.str)), (10, .ref 0), (11, .int .i64 q.2), (30, .sl (names.map V.str)), (31, .int .i64 names.length), (32, .int .i64 (Nat.cast q.1))], [.arr (ts.map (V.int .i64)) .flat], false, 78, 0⟩) (fun q => q.1 ≤ names.length ∧ attV fl ts (names.take q.1) = q.2 ∧ chainAt (fun s => decide (0 ≤ attOne fl ts s)) strLt names q.1 = chainAt (fun s => decide (0 ≤ attOne fl ts s)) strLt names 0) (fun q => names.length - q.1) ((0, 0) : Nat × Int) ?_ ?_ ?_
  ·refine weak_bothS [1, 3, 10, 11, 30, 31, 32] [1] ⟨?_⟩
   rfl
  ·exact ⟨Nat.zero_le _, rfl, rfl⟩
  ·rintro ⟨i, most⟩ hok15 Q15 n15 e15 r15
   obtain ⟨hi1, hR, hR2⟩ := hok15
   simp only [] at hi1 hR hR2 ⊢
   refine v_seq ?_; intro Q16 n16 e16 r16
   refine v_region ?_; intro K17 k17
   refine zBinOp ⟨?_⟩
   refine k17 _ ?_
   refine n16 _ _ (weak_keep [1, 3, 10, 11, 30, 31, 32, 33] _) ?_
   refine zk ⟨?_⟩
   refine v_seq ?_; intro Q18 n18 e18 r18
   refine v_condS _ rfl ?_ ?_
   ·intro hc1
    have hlt : i < names.length := by omega
    obtain ⟨x, hx⟩ : ∃ x, names[i]? = some x := ⟨_, List.getElem?_eq_getElem hlt⟩
    have hav := attV_step (fl := fl) (ts := ts) hx
    rcases Nat.eq_zero_or_pos i with h0 | h0 <;> rcases findA_cases fl x with hf1 | ⟨k, ⟨a0, a1, a2, a3, a4⟩, hf1, hf2, _⟩
    ·skip
     have hi0 : ¬ ((0 : Int) < (i : Int)) := by omega
     have hst : chainAt (fun s => decide (0 ≤ attOne fl ts s)) strLt names i = (decide (0 ≤ attOne fl ts x) && chainAt (fun s => decide (0 ≤ attOne fl ts s)) strLt names (i + 1)) := by subst h0; exact chain_zero hx
     have hone := attOne_none (ts := ts) hf1
     have hneg : decide (findA fl x < (0 : Int)) = true := by rw [hf1]; rfl
     refine v_skip ?_
     refine n18 _ _ (weak_keep [1, 3, 10, 11, 30, 31, 32] _) ?_
     refine zk ⟨?_⟩
     refine v_seq ?_; intro Q20 n20 e20 r20
     refine v_block ?_; intro Q21 n21 x21 e21 r21
     refine v_seq ?_; intro Q22 n22 e22 r22
     refine v_region ?_; intro K23 k23
     have F := Fc.mk (And.intro (fun f => getD_map (f := f) hx) (And.intro hi0 (And.intro @decide_false (And.intro @Bool.and_false (And.intro hneg (And.intro @Bool.true_or (And.intro @Bool.not_true @Bool.false_and)))))))
     refine zMove ⟨?_⟩
     refine zIndexAddr ⟨?_⟩
     refine zLoad ⟨?_⟩
     refine zAssign ⟨?_⟩
     refine zAssign ⟨?_⟩
     refine k23 _ ?_
     refine n22 _ _ (weak_keep [1, 3, 10, 11, 12, 13, 30, 31, 32] _) ?_
     refine zk ⟨?_⟩
     refine v_seq ?_; intro Q24 n24 e24 r24
     refine v_region ?_; intro K25 k25
     refine zMove ⟨?_⟩
     refine zMove ⟨?_⟩
     refine zc (findAppliance_con fl x hl) ⟨?_⟩
     refine zAssign ⟨?_⟩
     refine k25 _ ?_
     refine n24 _ _ (weak_keep [1, 3, 10, 11, 12, 13, 14, 30, 31, 32] _) ?_
     refine zk ⟨?_⟩
     refine v_seq ?_; intro Q26 n26 e26 r26
     refine v_seq ?_; intro Q27 n27 e27 r27
     refine v_region ?_; intro K28 k28
     refine zMove ⟨?_⟩
     refine zBinOp ⟨?_⟩
     refine zMove ⟨?_⟩
     refine zgMove ⟨?_⟩
     refine zgBinOp ⟨?_⟩
     refine zgMove ⟨?_⟩
     refine zgMove ⟨?_⟩
     refine zgMove ⟨?_⟩
     refine zgBinOpW ⟨?_⟩
     refine zgIndexAddr ⟨?_⟩
     refine zgLoad ⟨?_⟩
     refine zgMove ⟨?_⟩
     refine zgBinOp ⟨?_⟩
     refine zgPick ⟨?_⟩
     refine zPick ⟨?_⟩
     refine zMove ⟨?_⟩
     refine zgMove ⟨?_⟩
     refine zgMove ⟨?_⟩
     refine zgMove ⟨?_⟩
     refine zgIndexAddr ⟨?_⟩
     refine zgFieldAddr ⟨?_⟩
     refine zgLoad ⟨?_⟩
     refine zgIndexAddr ⟨?_⟩
     refine zgLoad ⟨?_⟩
     refine zgBinOp ⟨?_⟩
     refine zPick ⟨?_⟩
     refine k28 _ ?_
     refine n27 _ _ (weak_keep [1, 3, 10, 11, 14, 30, 31, 32, 65] _) ?_
     refine zk ⟨?_⟩
     refine v_cond _ rfl ?_ ?_
     ·intro hc2
      try simp only [zC, reduceCtorEq] at hc2
      have hbad : chainAt (fun s => decide (0 ≤ attOne fl ts s)) strLt names 0 = false := by
       rw [← hR2, hst]
       simp only [hone]
       first
       |(simp; done)
       |(simp; omega)
       |(cases z : strLt y x with | false => simp | true => (simp [z] at hc2; rw [decide_eq_false (show ¬ 0 ≤ p by omega)]; rfl))
       |(simp_all; done)
      refine v_seq ?_; intro Q30 n30 e30 r30
      refine v_region ?_; intro K31 k31
      refine zAssign ⟨?_⟩
      refine zAssign ⟨?_⟩
      refine k31 _ ?_
      refine n30 _ _ (weak_keep [8, 9] _) ?_
      refine zk ⟨?_⟩
      refine v_ret ?_
      refine r26 _ ?_
      refine r21 _ ?_
      refine r20 _ ?_
      refine r15 _ ?_
      refine r14 _ ?_
      refine r11 _ ?_
      refine r0 _ ?_
      refine zf ⟨?_⟩
      rw [hAR, hAW]
      exact ret_pure rfl (by rw [attB, hbad]; rfl) (.inl rfl)
     ·intro hc2
      exfalso; first | (cases hc2; done) | (simp at hc2; done)
    ·skip
     have hi0 : ¬ ((0 : Int) < (i : Int)) := by omega
     have hst : chainAt (fun s => decide (0 ≤ attOne fl ts s)) strLt names i = (decide (0 ≤ attOne fl ts x) && chainAt (fun s => decide (0 ≤ attOne fl ts s)) strLt names (i + 1)) := by subst h0; exact chain_zero hx
     have hneg : decide (findA fl x < (0 : Int)) = false := by rw [hf1]; exact decide_eq_false (by omega)
     have hidx : (findA fl x).toNat = k := by rw [hf1]; exact Int.toNat_natCast _
     have hkl : k < fl.length := (List.getElem?_eq_some_iff.1 hf2).1
     have hap := hd.hap _ (List.mem_of_getElem? hf2)
     simp only [] at hap
     obtain ⟨w, hw⟩ := Int.eq_ofNat_of_zero_le hap.2.1
     subst hw
     obtain ⟨p, hp⟩ : ∃ p, ts[w]? = some p := ⟨_, List.getElem?_eq_getElem (by rw [htl]; omega)⟩
     have hwl : w < ts.length := by rw [htl]; omega
     have hone := attOne_some hf1 hf2 rfl hp
     refine v_skip ?_
     refine n18 _ _ (weak_keep [1, 3, 10, 11, 30, 31, 32] _) ?_
     refine zk ⟨?_⟩
     refine v_seq ?_; intro Q32 n32 e32 r32
     refine v_block ?_; intro Q33 n33 x33 e33 r33
     refine v_seq ?_; intro Q34 n34 e34 r34
     refine v_region ?_; intro K35 k35
     have F := Fc.mk (And.intro (fun f => getD_map (f := f) hx) (And.intro hi0 (And.intro @decide_false (And.intro @Bool.and_false (And.intro hneg (And.intro hidx (And.intro (fun f => getD_map (f := f) hf2) (fun f => getD_map (f := f) hp))))))))
     refine zMove ⟨?_⟩
     refine zIndexAddr ⟨?_⟩
     refine zLoad ⟨?_⟩
     refine zAssign ⟨?_⟩
     refine zAssign ⟨?_⟩
     refine k35 _ ?_
     refine n34 _ _ (weak_keep [1, 3, 10, 11, 12, 13, 30, 31, 32] _) ?_
     refine zk ⟨?_⟩
     refine v_seq ?_; intro Q36 n36 e36 r36
     refine v_region ?_; intro K37 k37
     refine zMove ⟨?_⟩
     refine zMove ⟨?_⟩
     refine zc (findAppliance_con fl x hl) ⟨?_⟩
     refine zAssign ⟨?_⟩
     refine k37 _ ?_
     refine n36 _ _ (weak_keep [1, 3, 10, 11, 12, 13, 14, 30, 31, 32] _) ?_
     refine zk ⟨?_⟩
     refine v_seq ?_; intro Q38 n38 e38 r38
     refine v_seq ?_; intro Q39 n39 e39 r39
     refine v_region ?_; intro K40 k40
     refine zMove ⟨?_⟩
     refine zBinOp ⟨?_⟩
     refine zMove ⟨?_⟩
     refine zgMove ⟨?_⟩
     refine zgBinOp ⟨?_⟩
     refine zgMove ⟨?_⟩
     refine zgMove ⟨?_⟩
     refine zgMove ⟨?_⟩
     refine zgBinOpW ⟨?_⟩
     refine zgIndexAddr ⟨?_⟩
     refine zgLoad ⟨?_⟩
     refine zgMove ⟨?_⟩
     refine zgBinOp ⟨?_⟩
     refine zgPick ⟨?_⟩
     refine zPick ⟨?_⟩
     refine zMove ⟨?_⟩
     refine zgMove ⟨?_⟩
     refine zgMove ⟨?_⟩
     refine zgMove ⟨?_⟩
     refine zgIndexAddr ⟨?_⟩
     refine zgFieldAddr ⟨?_⟩
     refine zgLoad ⟨?_⟩
     refine zgIndexAddr ⟨?_⟩
     refine zgLoad ⟨?_⟩
     refine zgBinOp ⟨?_⟩
     refine zPick ⟨?_⟩
     refine k40 _ ?_
     refine n39 _ _ (weak_keep [1, 3, 10, 11, 14, 30, 31, 32, 65] _) ?_
     refine zk ⟨?_⟩
     refine v_condS _ rfl ?_ ?_
     ·intro hc2
      have hbad : chainAt (fun s => decide (0 ≤ attOne fl ts s)) strLt names 0 = false := by
       rw [← hR2, hst]
       simp only [hone]
       first
       |(simp; done)
       |(simp; omega)
       |(cases z : strLt y x with | false => simp | true => (simp [z] at hc2; rw [decide_eq_false (show ¬ 0 ≤ p by omega)]; rfl))
       |(simp_all; done)
      refine v_seq ?_; intro Q42 n42 e42 r42
      refine v_region ?_; intro K43 k43
      refine zAssign ⟨?_⟩
      refine zAssign ⟨?_⟩
      refine k43 _ ?_
      refine n42 _ _ (weak_keep [8, 9] _) ?_
      refine zk ⟨?_⟩
      refine v_ret ?_
      refine r38 _ ?_
      refine r33 _ ?_
      refine r32 _ ?_
      refine r15 _ ?_
      refine r14 _ ?_
      refine r11 _ ?_
      refine r0 _ ?_
      refine zf ⟨?_⟩
      rw [hAR, hAW]
      exact ret_pure rfl (by rw [attB, hbad]; rfl) (.inl rfl)
     ·intro hc2
      have hp0 : 0 ≤ p := by first | exact hc2 | exact hc2.2 | (simp at hc2; omega)
      have hgood : chainAt (fun s => decide (0 ≤ attOne fl ts s)) strLt names (i + 1) = chainAt (fun s => decide (0 ≤ attOne fl ts s)) strLt names 0 := by
       rw [← hR2, hst]
       simp only [hone]
       first | (simp [hp0]; done) | (simp [hp0, hc2]; done) | (simp_all; done)
      refine v_skip ?_
      refine n38 _ _ (weak_keep [1, 3, 10, 11, 14, 30, 31, 32] _) ?_
      refine zk ⟨?_⟩
      refine v_region ?_; intro K44 k44
      refine zMove ⟨?_⟩
      refine zMove ⟨?_⟩
      refine zMove ⟨?_⟩
      refine zMove ⟨?_⟩
      refine zIndexAddr ⟨?_⟩
      refine zFieldAddr ⟨?_⟩
      refine zLoad ⟨?_⟩
      refine zIndexAddr ⟨?_⟩
      refine zLoad ⟨?_⟩
      refine zMax ⟨?_⟩
      refine zAssign ⟨?_⟩
      refine k44 _ ?_
      refine n33 _ ?_
      refine n32 _ _ (weak_keep [1, 3, 10, 11, 30, 31, 32] _) ?_
      refine zk ⟨?_⟩
      refine v_region ?_; intro K45 k45
      refine zBinOpW ⟨?_⟩
      refine zMove ⟨?_⟩
      refine k45 _ ?_
      refine n15 _ (i + 1, if p > most then p else most) ?_ ?_ ?_
      ·refine weak_bothS [1, 3, 10, 11, 30, 31, 32] [0] ⟨?_⟩
       rfl
      ·exact ⟨hlt, by show attV fl ts (names.take (i + 1)) = (if p > most then p else most); rw [hav, hR, hone]; split <;> omega, hgood⟩
      ·show _ < _; show names.length - (i + 1) < names.length - i; omega
    ·skip
     obtain ⟨y, hy⟩ : ∃ y, names[i - 1]? = some y := ⟨_, List.getElem?_eq_getElem (by omega)⟩
     have hi0 : (0 : Int) < i := by omega
     have hk : ((i : Int) - 1).toNat = i - 1 := by omega
     have hst := chain_succ (ok := (fun s => decide (0 ≤ attOne fl ts s))) (bf := strLt) h0 hy hx
     have hone := attOne_none (ts := ts) hf1
     have hneg : decide (findA fl x < (0 : Int)) = true := by rw [hf1]; rfl
     refine v_skip ?_
     refine n18 _ _ (weak_keep [1, 3, 10, 11, 30, 31, 32] _) ?_
     refine zk ⟨?_⟩
     refine v_seq ?_; intro Q46 n46 e46 r46
     refine v_block ?_; intro Q47 n47 x47 e47 r47
     refine v_seq ?_; intro Q48 n48 e48 r48
     refine v_region ?_; intro K49 k49
     have F := Fc.mk (And.intro (fun f => getD_map (f := f) hx) (And.intro hi0 (And.intro hk (And.intro (fun f => getD_map (f := f) hy) (And.intro @decide_true (And.intro @Bool.and_true (And.intro hneg (And.intro @Bool.true_or (And.intro @Bool.not_true @Bool.false_and)))))))))
     refine zMove ⟨?_⟩
     refine zIndexAddr ⟨?_⟩
     refine zLoad ⟨?_⟩
     refine zAssign ⟨?_⟩
     refine zAssign ⟨?_⟩
     refine k49 _ ?_
     refine n48 _ _ (weak_keep [1, 3, 10, 11, 12, 13, 30, 31, 32] _) ?_
     refine zk ⟨?_⟩
     refine v_seq ?_; intro Q50 n50 e50 r50
     refine v_region ?_; intro K51 k51
     refine zMove ⟨?_⟩
     refine zMove ⟨?_⟩
     refine zc (findAppliance_con fl x hl) ⟨?_⟩
     refine zAssign ⟨?_⟩
     refine k51 _ ?_
     refine n50 _ _ (weak_keep [1, 3, 10, 11, 12, 13, 14, 30, 31, 32] _) ?_
     refine zk ⟨?_⟩
     refine v_seq ?_; intro Q52 n52 e52 r52
     refine v_seq ?_; intro Q53 n53 e53 r53
     refine v_region ?_; intro K54 k54
     refine zMove ⟨?_⟩
     refine zBinOp ⟨?_⟩
     refine zMove ⟨?_⟩
     refine zgMove ⟨?_⟩
     refine zgBinOp ⟨?_⟩
     refine zgMove ⟨?_⟩
     refine zgMove ⟨?_⟩
     refine zgMove ⟨?_⟩
     refine zgBinOpW ⟨?_⟩
     refine zgIndexAddr ⟨?_⟩
     refine zgLoad ⟨?_⟩
     refine zgMove ⟨?_⟩
     refine zgBinOp ⟨?_⟩
     refine zgPick ⟨?_⟩
     refine zPick ⟨?_⟩
     refine zMove ⟨?_⟩
     refine zgMove ⟨?_⟩
     refine zgMove ⟨?_⟩
     refine zgMove ⟨?_⟩
     refine zgIndexAddr ⟨?_⟩
     refine zgFieldAddr ⟨?_⟩
     refine zgLoad ⟨?_⟩
     refine zgIndexAddr ⟨?_⟩
     refine zgLoad ⟨?_⟩
     refine zgBinOp ⟨?_⟩
     refine zPick ⟨?_⟩
     refine k54 _ ?_
     refine n53 _ _ (weak_keep [1, 3, 10, 11, 14, 30, 31, 32, 65] _) ?_
     refine zk ⟨?_⟩
     refine v_cond _ rfl ?_ ?_
     ·intro hc2
      try simp only [zC, reduceCtorEq] at hc2
      have hbad : chainAt (fun s => decide (0 ≤ attOne fl ts s)) strLt names 0 = false := by
       rw [← hR2, hst]
       simp only [hone]
       first
       |(simp; done)
       |(simp; omega)
       |(cases z : strLt y x with | false => simp | true => (simp [z] at hc2; rw [decide_eq_false (show ¬ 0 ≤ p by omega)]; rfl))
       |(simp_all; done)
      refine v_seq ?_; intro Q56 n56 e56 r56
      refine v_region ?_; intro K57 k57
      refine zAssign ⟨?_⟩
      refine zAssign ⟨?_⟩
      refine k57 _ ?_
      refine n56 _ _ (weak_keep [8, 9] _) ?_
      refine zk ⟨?_⟩
      refine v_ret ?_
      refine r52 _ ?_
      refine r47 _ ?_
      refine r46 _ ?_
      refine r15 _ ?_
      refine r14 _ ?_
      refine r11 _ ?_
      refine r0 _ ?_
      refine zf ⟨?_⟩
      rw [hAR, hAW]
      exact ret_pure rfl (by rw [attB, hbad]; rfl) (.inl rfl)
     ·intro hc2
      exfalso; first | (cases hc2; done) | (simp at hc2; done)
    ·skip
     obtain ⟨y, hy⟩ : ∃ y, names[i - 1]? = some y := ⟨_, List.getElem?_eq_getElem (by omega)⟩
     have hi0 : (0 : Int) < i := by omega
     have hk : ((i : Int) - 1).toNat = i - 1 := by omega
     have hst := chain_succ (ok := (fun s => decide (0 ≤ attOne fl ts s))) (bf := strLt) h0 hy hx
     have hneg : decide (findA fl x < (0 : Int)) = false := by rw [hf1]; exact decide_eq_false (by omega)
     have hidx : (findA fl x).toNat = k := by rw [hf1]; exact Int.toNat_natCast _
     have hkl : k < fl.length := (List.getElem?_eq_some_iff.1 hf2).1
     have hap := hd.hap _ (List.mem_of_getElem? hf2)
     simp only [] at hap
     obtain ⟨w, hw⟩ := Int.eq_ofNat_of_zero_le hap.2.1
     subst hw
     obtain ⟨p, hp⟩ : ∃ p, ts[w]? = some p := ⟨_, List.getElem?_eq_getElem (by rw [htl]; omega)⟩
     have hwl : w < ts.length := by rw [htl]; omega
     have hone := attOne_some hf1 hf2 rfl hp
     refine v_skip ?_
     refine n18 _ _ (weak_keep [1, 3, 10, 11, 30, 31, 32] _) ?_
     refine zk ⟨?_⟩
     refine v_seq ?_; intro Q58 n58 e58 r58
     refine v_block ?_; intro Q59 n59 x59 e59 r59
     refine v_seq ?_; intro Q60 n60 e60 r60
     refine v_region ?_; intro K61 k61
     have F := Fc.mk (And.intro (fun f => getD_map (f := f) hx) (And.intro hi0 (And.intro hk (And.intro (fun f => getD_map (f := f) hy) (And.intro @decide_true (And.intro @Bool.and_true (And.intro hneg (And.intro hidx (And.intro (fun f => getD_map (f := f) hf2) (fun f => getD_map (f := f) hp))))))))))
     refine zMove ⟨?_⟩
     refine zIndexAddr ⟨?_⟩
     refine zLoad ⟨?_⟩
     refine zAssign ⟨?_⟩
     refine zAssign ⟨?_⟩
     refine k61 _ ?_
     refine n60 _ _ (weak_keep [1, 3, 10, 11, 12, 13, 30, 31, 32] _) ?_
     refine zk ⟨?_⟩
     refine v_seq ?_; intro Q62 n62 e62 r62
     refine v_region ?_; intro K63 k63
     refine zMove ⟨?_⟩
     refine zMove ⟨?_⟩
     refine zc (findAppliance_con fl x hl) ⟨?_⟩
     refine zAssign ⟨?_⟩
     refine k63 _ ?_
     refine n62 _ _ (weak_keep [1, 3, 10, 11, 12, 13, 14, 30, 31, 32] _) ?_
     refine zk ⟨?_⟩
     refine v_seq ?_; intro Q64 n64 e64 r64
     refine v_seq ?_; intro Q65 n65 e65 r65
     refine v_region ?_; intro K66 k66
     refine zMove ⟨?_⟩
     refine zBinOp ⟨?_⟩
     refine zMove ⟨?_⟩
     refine zgMove ⟨?_⟩
     refine zgBinOp ⟨?_⟩
     refine zgMove ⟨?_⟩
     refine zgMove ⟨?_⟩
     refine zgMove ⟨?_⟩
     refine zgBinOpW ⟨?_⟩
     refine zgIndexAddr ⟨?_⟩
     refine zgLoad ⟨?_⟩
     refine zgMove ⟨?_⟩
     refine zgBinOp ⟨?_⟩
     refine zgPick ⟨?_⟩
     refine zPick ⟨?_⟩
     refine zMove ⟨?_⟩
     refine zgMove ⟨?_⟩
     refine zgMove ⟨?_⟩
     refine zgMove ⟨?_⟩
     refine zgIndexAddr ⟨?_⟩
     refine zgFieldAddr ⟨?_⟩
     refine zgLoad ⟨?_⟩
     refine zgIndexAddr ⟨?_⟩
     refine zgLoad ⟨?_⟩
     refine zgBinOp ⟨?_⟩
     refine zPick ⟨?_⟩
     refine k66 _ ?_
     refine n65 _ _ (weak_keep [1, 3, 10, 11, 14, 30, 31, 32, 65] _) ?_
     refine zk ⟨?_⟩
     refine v_condS _ rfl ?_ ?_
     ·intro hc2
      have hbad : chainAt (fun s => decide (0 ≤ attOne fl ts s)) strLt names 0 = false := by
       rw [← hR2, hst]
       simp only [hone]
       first
       |(simp; done)
       |(simp; omega)
       |(cases z : strLt y x with | false => simp | true => (simp [z] at hc2; rw [decide_eq_false (show ¬ 0 ≤ p by omega)]; rfl))
       |(simp_all; done)
      refine v_seq ?_; intro Q68 n68 e68 r68
      refine v_region ?_; intro K69 k69
      refine zAssign ⟨?_⟩
      refine zAssign ⟨?_⟩
      refine k69 _ ?_
      refine n68 _ _ (weak_keep [8, 9] _) ?_
      refine zk ⟨?_⟩
      refine v_ret ?_
      refine r64 _ ?_
      refine r59 _ ?_
      refine r58 _ ?_
      refine r15 _ ?_
      refine r14 _ ?_
      refine r11 _ ?_
      refine r0 _ ?_
      refine zf ⟨?_⟩
      rw [hAR, hAW]
      exact ret_pure rfl (by rw [attB, hbad]; rfl) (.inl rfl)
     ·intro hc2
      have hp0 : 0 ≤ p := by first | exact hc2 | exact hc2.2 | (simp at hc2; omega)
      have hgood : chainAt (fun s => decide (0 ≤ attOne fl ts s)) strLt names (i + 1) = chainAt (fun s => decide (0 ≤ attOne fl ts s)) strLt names 0 := by
       rw [← hR2, hst]
       simp only [hone]
       first | (simp [hp0]; done) | (simp [hp0, hc2]; done) | (simp_all; done)
      refine v_skip ?_
      refine n64 _ _ (weak_keep [1, 3, 10, 11, 14, 30, 31, 32] _) ?_
      refine zk ⟨?_⟩
      refine v_region ?_; intro K70 k70
      refine zMove ⟨?_⟩
      refine zMove ⟨?_⟩
      refine zMove ⟨?_⟩
      refine zMove ⟨?_⟩
      refine zIndexAddr ⟨?_⟩
      refine zFieldAddr ⟨?_⟩
      refine zLoad ⟨?_⟩
      refine zIndexAddr ⟨?_⟩
      refine zLoad ⟨?_⟩
      refine zMax ⟨?_⟩
      refine zAssign ⟨?_⟩
      refine k70 _ ?_
      refine n59 _ ?_
      refine n58 _ _ (weak_keep [1, 3, 10, 11, 30, 31, 32] _) ?_
      refine zk ⟨?_⟩
      refine v_region ?_; intro K71 k71
      refine zBinOpW ⟨?_⟩
      refine zMove ⟨?_⟩
      refine k71 _ ?_
      refine n15 _ (i + 1, if p > most then p else most) ?_ ?_ ?_
      ·refine weak_bothS [1, 3, 10, 11, 30, 31, 32] [0] ⟨?_⟩
       rfl
      ·exact ⟨hlt, by show attV fl ts (names.take (i + 1)) = (if p > most then p else most); rw [hav, hR, hone]; split <;> omega, hgood⟩
      ·show _ < _; show names.length - (i + 1) < names.length - i; omega
   ·intro hc1
    refine v_exit ?_
    refine e18 _ _ ?_
    refine e15 _ _ ?_
    refine x14 _ ?_
    refine n11 _ _ (weak_keep [11] _) ?_
    refine zk ⟨?_⟩
    refine v_seq ?_; intro Q72 n72 e72 r72
    refine v_region ?_; intro K73 k73
    refine zMove ⟨?_⟩
    refine zAssign ⟨?_⟩
    refine zAssign ⟨?_⟩
    refine k73 _ ?_
    refine n72 _ _ (weak_keep [8, 9] _) ?_
    refine zk ⟨?_⟩
    refine v_ret ?_
    refine r0 _ ?_
    refine zf ⟨?_⟩
    have hB : attB fl ts names = true := by rw [attB, ← hR2, chain_end (by omega), decide_eq_false hn0]; rfl
    rw [hAR, hAW]
    exact ret_pure rfl (by rw [hB, if_pos rfl, ← hR, List.take_of_length_le (by omega)]) (.inl rfl)
set_option maxRecDepth 8000 in
set_option maxHeartbeats 1000000 in
theorem specAtt_con (n : Int) (ss : List (Int × Int × Int)) (fl : List (ByteArray × Int × Int × Int × Int)) (node : Int) (names : List ByteArray) (hs : ss.length ≤ 1048576) (hl : fl.length ≤ 1048576) (hls : ∀ t ∈ fl, t.1.size ≤ 9223372036854775807) (hnl : names.length ≤ 1048576) : Con Try.prog 125 [.agg [.int .i64 n, .sl (ss.map (fun t : Int × Int × Int => V.agg [V.int .i64 t.1, V.int .i64 t.2.1, V.int .i64 t.2.2]))], .sl (fl.map (fun t : ByteArray × Int × Int × Int × Int => V.agg [V.str t.1, V.int .i64 t.2.1, V.int .i64 t.2.2.1, V.int .i64 t.2.2.2.1, V.int .i64 t.2.2.2.2])), .int .i64 node, .sl (names.map V.str)] [] (.tup [.int .i64 (attW n ss fl node names), .bool (attR n ss fl node names)]) [] := by
 refine v_con [.tmp 8, .tmp 9] [] Try.func125 rfl rfl rfl (by simp [Try.ntmps125]) ?_
 intro Q0 n0 r0
 simp only [Try.ntmps125, envFrom, Nat.reduceAdd]
 have T := Tys.mk (And.intro Ty.t3 (And.intro Ty.t4 (And.intro Ty.t9 (And.intro Ty.t26 (And.intro Ty.t70 (And.intro Ty.t72 (And.intro Ty.t74 (And.intro Ty.t93 (And.intro Ty.t141 Ty.t182)))))))))
 have F := Fc.mk True.intro
 refine v_seq ?_; intro Q1 n1 e1 r1
 refine v_region ?_; intro K2 k2
 refine zBox ⟨?_⟩
 refine zAssign ⟨?_⟩
 refine zAssign ⟨?_⟩
 refine k2 _ ?_
 refine n1 _ _ (weak_keep [1, 2, 3, 4] _) ?_
 refine zk ⟨?_⟩
 refine v_seq ?_; intro Q3 n3 e3 r3
 refine v_seq ?_; intro Q4 n4 e4 r4
 refine v_region ?_; intro K5 k5
 refine zLoad ⟨?_⟩
 refine zMove ⟨?_⟩
 refine zMove ⟨?_⟩
 refine zc (dsAsked_con n ss fl node hs hl hls) ⟨?_⟩
 refine zUnOp ⟨?_⟩
 refine zMove ⟨?_⟩
 refine zgMove ⟨?_⟩
 refine zgLen ⟨?_⟩
 refine zgBinOp ⟨?_⟩
 refine zPick ⟨?_⟩
 refine zMove ⟨?_⟩
 refine zgMove ⟨?_⟩
 refine zgc (dsNames_con names hnl) ⟨?_⟩
 refine zgUnOp ⟨?_⟩
 refine zPick ⟨?_⟩
 refine k5 _ ?_
 refine n4 _ _ (weak_keep [1, 2, 3, 4, 29] _) ?_
 refine zk ⟨?_⟩
 refine v_condS _ rfl ?_ ?_
 ·intro hc0
  have hh : attR n ss fl node names = false := by cases hq : attR n ss fl node names with | false => rfl | true => (exfalso; simp [attR, askD, attB_split] at hq; first | (simp_all; done) | (simp_all [askD]; done) | (simp_all; omega))
  have hw0 : attW n ss fl node names = 0 := by rw [attW, hh]; rfl
  refine v_seq ?_; intro Q7 n7 e7 r7
  refine v_region ?_; intro K8 k8
  refine zAssign ⟨?_⟩
  refine zAssign ⟨?_⟩
  refine k8 _ ?_
  refine n7 _ _ (weak_keep [8, 9] _) ?_
  refine zk ⟨?_⟩
  refine v_ret ?_
  refine r3 _ ?_
  refine r0 _ ?_
  refine zf ⟨?_⟩
  rw [hh, hw0]
  exact ret_pure rfl rfl (.inl rfl)
 ·intro hc0
  have hH : (askD n ss fl node = true ∧ ¬ (names.length : Int) = 0) ∧ chainAt (fun _ : ByteArray => true) strLt names 0 = true := by first | exact hc0 | (simp at hc0; first | exact hc0 | (simp_all; done) | (refine ⟨⟨?_, ?_⟩, ?_⟩ <;> simp_all))
  obtain ⟨⟨hask, hn0⟩, hnt⟩ := hH
  obtain ⟨hd, hu⟩ := ask_facts hask
  have hfl := hd.hfl
  obtain ⟨ts, hts⟩ : ∃ ts, ts = tmL n ss node := ⟨_, rfl⟩
  have htl : ts.length = n.toNat := by rw [hts, times_len]
  have htb := tm_facts hd.hn hu hd.hss hd.hsl
  rw [← hts] at htb
  have hn14 := hd.hn
  have hAR : attR n ss fl node names = attB fl ts names := by rw [attR, hask, hts]; rfl
  have hAW : attW n ss fl node names = if attB fl ts names = true then attV fl ts names else 0 := by rw [attW, hAR, hts]
  refine v_skip ?_
  refine n3 _ _ (weak_keep [1, 2, 3, 4] _) ?_
  refine zk ⟨?_⟩
  refine v_seq ?_; intro Q9 n9 e9 r9
  refine v_region ?_; intro K10 k10
  refine zLoad ⟨?_⟩
  refine zMove ⟨?_⟩
  refine zc ((hts ▸ toTimes_con n ss node hd.hn hu hd.hss hd.hsl : Con _ _ _ _ _ [.arr (ts.map (V.int .i64)) .flat])) ⟨?_⟩
  refine zAssign ⟨?_⟩
  refine k10 _ ?_
  refine n9 _ _ (weak_keep [1, 3, 10] _) ?_
  refine zk ⟨?_⟩
  refine v_seq ?_; intro Q11 n11 e11 r11
  refine v_region ?_; intro K12 k12
  refine zAssign ⟨?_⟩
  refine k12 _ ?_
  refine n11 _ _ (weak_keep [1, 3, 10, 11] _) ?_
  refine zk ⟨?_⟩
  refine v_seq ?_; intro Q13 n13 e13 r13
  refine v_seq ?_; intro Q14 n14 e14 r14
  refine v_region ?_; intro K15 k15
  refine zMove ⟨?_⟩
  refine zLen ⟨?_⟩
  refine zMove ⟨?_⟩
  refine k15 _ ?_
  refine n14 _ _ (weak_keep [1, 10, 11, 33, 34, 35] _) ?_
  refine zk ⟨?_⟩
  refine v_block ?_; intro Q16 n16 x16 e16 r16
  refine v_loop (fun q => ⟨[(1, .sl (fl.map (fun t : ByteArray × Int × Int × Int × Int => V.agg [V.str t.1, V.int .i64 t.2.1, V.int .i64 t.2.2.1, V.int .i64 t.2.2.2.1, V.int .i64 t.2.2.2.2]))), (10, .ref 0), (11, .int .i64 q.2), (33, .sl (names.map V.str)), (34, .int .i64 names.length), (35, .int .i64 (Nat.cast q.1))], [.arr (ts.map (V.int .i64)) .flat], false, 67, 0⟩) (fun q => q.1 ≤ names.length ∧ attV fl ts (names.take q.1) = q.2 ∧ (names.drop q.1).all (fun s => decide (0 ≤ attOne fl ts s)) = names.all (fun s => decide (0 ≤ attOne fl ts s))) (fun q => names.length - q.1) ((0, 0) : Nat × Int) ?_ ?_ ?_
  ·refine weak_bothS [1, 10, 11, 33, 34, 35] [1] ⟨?_⟩
   rfl
  ·exact ⟨Nat.zero_le _, rfl, rfl⟩
  ·rintro ⟨i, most⟩ hok17 Q17 n17 e17 r17
   obtain ⟨hi1, hR, hR2⟩ := hok17
   simp only [] at hi1 hR hR2 ⊢
   refine v_seq ?_; intro Q18 n18 e18 r18
   refine v_region ?_; intro K19 k19
   refine zBinOp ⟨?_⟩
   refine k19 _ ?_
   refine n18 _ _ (weak_keep [1, 10, 11, 33, 34, 35, 36] _) ?_
   refine zk ⟨?_⟩
   refine v_seq ?_; intro Q20 n20 e20 r20
   refine v_condS _ rfl ?_ ?_
   ·intro hc1
    have hlt : i < names.length := by omega
    obtain ⟨x, hx⟩ : ∃ x, names[i]? = some x := ⟨_, List.getElem?_eq_getElem hlt⟩
    have hav := attV_step (fl := fl) (ts := ts) hx
    have hst := all_step (p := (fun s => decide (0 ≤ attOne fl ts s))) hx
    rcases findA_cases fl x with hf1 | ⟨k, ⟨a0, a1, a2, a3, a4⟩, hf1, hf2, _⟩
    ·skip
     have hone := attOne_none (ts := ts) hf1
     have hneg : decide (findA fl x < (0 : Int)) = true := by rw [hf1]; rfl
     refine v_skip ?_
     refine n20 _ _ (weak_keep [1, 10, 11, 33, 34, 35] _) ?_
     refine zk ⟨?_⟩
     refine v_seq ?_; intro Q22 n22 e22 r22
     refine v_block ?_; intro Q23 n23 x23 e23 r23
     refine v_seq ?_; intro Q24 n24 e24 r24
     refine v_region ?_; intro K25 k25
     have F := Fc.mk (And.intro (fun f => getD_map (f := f) hx) (And.intro hneg (And.intro @Bool.true_or (And.intro @Bool.not_true @Bool.false_and))))
     refine zIndexAddr ⟨?_⟩
     refine zLoad ⟨?_⟩
     refine zAssign ⟨?_⟩
     refine k25 _ ?_
     refine n24 _ _ (weak_keep [1, 10, 11, 13, 33, 34, 35] _) ?_
     refine zk ⟨?_⟩
     refine v_seq ?_; intro Q26 n26 e26 r26
     refine v_region ?_; intro K27 k27
     refine zMove ⟨?_⟩
     refine zMove ⟨?_⟩
     refine zc (apFind_con fl x hl) ⟨?_⟩
     refine zAssign ⟨?_⟩
     refine k27 _ ?_
     refine n26 _ _ (weak_keep [1, 10, 11, 14, 33, 34, 35] _) ?_
     refine zk ⟨?_⟩
     refine v_seq ?_; intro Q28 n28 e28 r28
     refine v_seq ?_; intro Q29 n29 e29 r29
     refine v_region ?_; intro K30 k30
     refine zMove ⟨?_⟩
     refine zBinOp ⟨?_⟩
     refine zMove ⟨?_⟩
     refine zgMove ⟨?_⟩
     refine zgMove ⟨?_⟩
     refine zgMove ⟨?_⟩
     refine zgIndexAddr ⟨?_⟩
     refine zgFieldAddr ⟨?_⟩
     refine zgLoad ⟨?_⟩
     refine zgIndexAddr ⟨?_⟩
     refine zgLoad ⟨?_⟩
     refine zgBinOp ⟨?_⟩
     refine zPick ⟨?_⟩
     refine k30 _ ?_
     refine n29 _ _ (weak_keep [1, 10, 11, 14, 33, 34, 35, 54] _) ?_
     refine zk ⟨?_⟩
     refine v_cond _ rfl ?_ ?_
     ·intro hc2
      try simp only [zC, reduceCtorEq] at hc2
      have hbad : names.all (fun s => decide (0 ≤ attOne fl ts s)) = false := by
       rw [← hR2, hst]
       simp only [hone]
       first
       |(simp; done)
       |(simp; omega)
       |(simp_all; done)
      refine v_seq ?_; intro Q32 n32 e32 r32
      refine v_region ?_; intro K33 k33
      refine zAssign ⟨?_⟩
      refine zAssign ⟨?_⟩
      refine k33 _ ?_
      refine n32 _ _ (weak_keep [8, 9] _) ?_
      refine zk ⟨?_⟩
      refine v_ret ?_
      refine r28 _ ?_
      refine r23 _ ?_
      refine r22 _ ?_
      refine r17 _ ?_
      refine r16 _ ?_
      refine r13 _ ?_
      refine r0 _ ?_
      refine zf ⟨?_⟩
      rw [hAR, hAW]
      exact ret_pure rfl (by rw [attB_split, hbad]; simp) (.inl rfl)
     ·intro hc2
      exfalso; first | (cases hc2; done) | (simp at hc2; done)
    ·skip
     have hneg : decide (findA fl x < (0 : Int)) = false := by rw [hf1]; exact decide_eq_false (by omega)
     have hidx : (findA fl x).toNat = k := by rw [hf1]; exact Int.toNat_natCast _
     have hkl : k < fl.length := (List.getElem?_eq_some_iff.1 hf2).1
     have hap := hd.hap _ (List.mem_of_getElem? hf2)
     simp only [] at hap
     obtain ⟨w, hw⟩ := Int.eq_ofNat_of_zero_le hap.2.1
     subst hw
     obtain ⟨p, hp⟩ : ∃ p, ts[w]? = some p := ⟨_, List.getElem?_eq_getElem (by rw [htl]; omega)⟩
     have hwl : w < ts.length := by rw [htl]; omega
     have hone := attOne_some hf1 hf2 rfl hp
     refine v_skip ?_
     refine n20 _ _ (weak_keep [1, 10, 11, 33, 34, 35] _) ?_
     refine zk ⟨?_⟩
     refine v_seq ?_; intro Q34 n34 e34 r34
     refine v_block ?_; intro Q35 n35 x35 e35 r35
     refine v_seq ?_; intro Q36 n36 e36 r36
     refine v_region ?_; intro K37 k37
     have F := Fc.mk (And.intro (fun f => getD_map (f := f) hx) (And.intro hneg (And.intro hidx (And.intro (fun f => getD_map (f := f) hf2) (fun f => getD_map (f := f) hp)))))
     refine zIndexAddr ⟨?_⟩
     refine zLoad ⟨?_⟩
     refine zAssign ⟨?_⟩
     refine k37 _ ?_
     refine n36 _ _ (weak_keep [1, 10, 11, 13, 33, 34, 35] _) ?_
     refine zk ⟨?_⟩
     refine v_seq ?_; intro Q38 n38 e38 r38
     refine v_region ?_; intro K39 k39
     refine zMove ⟨?_⟩
     refine zMove ⟨?_⟩
     refine zc (apFind_con fl x hl) ⟨?_⟩
     refine zAssign ⟨?_⟩
     refine k39 _ ?_
     refine n38 _ _ (weak_keep [1, 10, 11, 14, 33, 34, 35] _) ?_
     refine zk ⟨?_⟩
     refine v_seq ?_; intro Q40 n40 e40 r40
     refine v_seq ?_; intro Q41 n41 e41 r41
     refine v_region ?_; intro K42 k42
     refine zMove ⟨?_⟩
     refine zBinOp ⟨?_⟩
     refine zMove ⟨?_⟩
     refine zgMove ⟨?_⟩
     refine zgMove ⟨?_⟩
     refine zgMove ⟨?_⟩
     refine zgIndexAddr ⟨?_⟩
     refine zgFieldAddr ⟨?_⟩
     refine zgLoad ⟨?_⟩
     refine zgIndexAddr ⟨?_⟩
     refine zgLoad ⟨?_⟩
     refine zgBinOp ⟨?_⟩
     refine zPick ⟨?_⟩
     refine k42 _ ?_
     refine n41 _ _ (weak_keep [1, 10, 11, 14, 33, 34, 35, 54] _) ?_
     refine zk ⟨?_⟩
     refine v_condS _ rfl ?_ ?_
     ·intro hc2
      have hbad : names.all (fun s => decide (0 ≤ attOne fl ts s)) = false := by
       rw [← hR2, hst]
       simp only [hone]
       first
       |(simp; done)
       |(simp; omega)
       |(simp_all; done)
      refine v_seq ?_; intro Q44 n44 e44 r44
      refine v_region ?_; intro K45 k45
      refine zAssign ⟨?_⟩
      refine zAssign ⟨?_⟩
      refine k45 _ ?_
      refine n44 _ _ (weak_keep [8, 9] _) ?_
      refine zk ⟨?_⟩
      refine v_ret ?_
      refine r40 _ ?_
      refine r35 _ ?_
      refine r34 _ ?_
      refine r17 _ ?_
      refine r16 _ ?_
      refine r13 _ ?_
      refine r0 _ ?_
      refine zf ⟨?_⟩
      rw [hAR, hAW]
      exact ret_pure rfl (by rw [attB_split, hbad]; simp) (.inl rfl)
     ·intro hc2
      have hp0 : 0 ≤ p := by first | exact hc2 | exact hc2.2 | (simp at hc2; omega)
      have hgood : (names.drop (i + 1)).all (fun s => decide (0 ≤ attOne fl ts s)) = names.all (fun s => decide (0 ≤ attOne fl ts s)) := by
       rw [← hR2, hst]
       simp only [hone]
       first | (simp [hp0]; done) | (simp_all; done)
      refine v_skip ?_
      refine n40 _ _ (weak_keep [1, 10, 11, 14, 33, 34, 35] _) ?_
      refine zk ⟨?_⟩
      refine v_region ?_; intro K46 k46
      refine zMove ⟨?_⟩
      refine zMove ⟨?_⟩
      refine zMove ⟨?_⟩
      refine zMove ⟨?_⟩
      refine zIndexAddr ⟨?_⟩
      refine zFieldAddr ⟨?_⟩
      refine zLoad ⟨?_⟩
      refine zIndexAddr ⟨?_⟩
      refine zLoad ⟨?_⟩
      refine zc (l1Most_con most p) ⟨?_⟩
      refine zAssign ⟨?_⟩
      refine k46 _ ?_
      refine n35 _ ?_
      refine n34 _ _ (weak_keep [1, 10, 11, 33, 34, 35] _) ?_
      refine zk ⟨?_⟩
      refine v_region ?_; intro K47 k47
      refine zBinOpW ⟨?_⟩
      refine zMove ⟨?_⟩
      refine k47 _ ?_
      refine n17 _ (i + 1, max most p) ?_ ?_ ?_
      ·refine weak_bothS [1, 10, 11, 33, 34, 35] [0] ⟨?_⟩
       rfl
      ·exact ⟨hlt, by show attV fl ts (names.take (i + 1)) = max most p; rw [hav, hR, hone], hgood⟩
      ·show _ < _; show names.length - (i + 1) < names.length - i; omega
   ·intro hc1
    refine v_exit ?_
    refine e20 _ _ ?_
    refine e17 _ _ ?_
    refine x16 _ ?_
    refine n13 _ _ (weak_keep [11] _) ?_
    refine zk ⟨?_⟩
    refine v_seq ?_; intro Q48 n48 e48 r48
    refine v_region ?_; intro K49 k49
    refine zMove ⟨?_⟩
    refine zAssign ⟨?_⟩
    refine zAssign ⟨?_⟩
    refine k49 _ ?_
    refine n48 _ _ (weak_keep [8, 9] _) ?_
    refine zk ⟨?_⟩
    refine v_ret ?_
    refine r0 _ ?_
    refine zf ⟨?_⟩
    have hB : attB fl ts names = true := by rw [attB_split, hnt, ← hR2, all_end (by omega), decide_eq_false hn0]; rfl
    rw [hAR, hAW]
    exact ret_pure rfl (by rw [hB, if_pos rfl, ← hR, List.take_of_length_le (by omega)]) (.inl rfl)
end Go.Proofs.Ytdgenniiidgimaa
