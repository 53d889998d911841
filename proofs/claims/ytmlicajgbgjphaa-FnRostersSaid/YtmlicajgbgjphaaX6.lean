/- What functions compute. No condition. -/
import Derived.Test.YtmlicajgbgjphaaUty
import Derived.Test.YtmlicajgbgjphaaUmG
import Derived.Test.YtmlicajgbgjphaaX5
import Derived.Test.YtmlicajgbgjphaaX2
import Derived.Test.YtmlicajgbgjphaaX1
import Derived.Test.YtmlicajgbgjphaaX4
set_option linter.unusedSimpArgs false
set_option linter.unusedVariables false
set_option linter.defProp false
namespace Go.Proofs.Ytmlicajgbgjphaa
open Go Go.Vm

theorem totSS_le9 : ∀ {l : List (List Int)}, (∀ s ∈ l, s.length ≤ 9) → totSS l ≤ 9 * l.length
  | [], _ => Int.le_refl _
  | s :: l, h => by
    have h1 := totSS_le9 (l := l) fun x hx => h x (List.mem_cons_of_mem _ hx)
    have h2 := h s (List.mem_cons_self ..)
    rw [totSS, List.length_cons]; omega
def mkG (a b c : Int) (needs : List Int) : Bool := needB needs && dutyB a b c
def mkR2 (a b c : Int) (needs : List Int) : List (List Int) := orNil (mkG a b c needs) (mkL a b c needs)
def mkB2 (a b c : Int) (needs : List Int) : Bool := mkG a b c needs && mkB a b c needs
theorem mkR2_facts (a b c : Int) (needs : List Int) : (mkR2 a b c needs).length ≤ needs.length ∧ ∀ s ∈ mkR2 a b c needs, s.length ≤ 9 := by
  rw [mkR2]
  cases h : mkG a b c needs with
  | false => exact ⟨Nat.zero_le _, by simp [orNil]⟩
  | true =>
    have h2 := h
    rw [mkG, Bool.and_eq_true] at h2
    have hd := duty_in h2.2
    exact mkL_facts ⟨hd.1, hd.2.1⟩ needs
def fewK (ok : Nat → Bool) : Nat → Option Nat
  | 0 => none
  | k + 1 => if ok (9 - k) = true then some (9 - k) else fewK ok k
theorem few_step {ok : Nat → Bool} {p : Nat} (h1 : 1 ≤ p) (h : p ≤ 9) : fewK ok (10 - p) = if ok p = true then some p else fewK ok (10 - (p + 1)) := by
  rw [show 10 - p = (9 - p) + 1 by omega, fewK, show 9 - (9 - p) = p by omega, show 10 - (p + 1) = 9 - p by omega]
theorem few_guard {ok : Nat → Bool} {G : Bool} : ∀ k, fewK (fun p => G && ok p) k = if G = true then fewK ok k else none
  | 0 => by cases G <;> rfl
  | k + 1 => by
    rw [fewK, few_guard k]
    cases G with
    | false => simp
    | true => simp [fewK]
def fewI (o : Option Nat) : Int := match o with | some p => (p : Int) | none => 0
def few (b c : Int) (needs : List Int) : Option Nat := if mkG 1 b c needs = true then fewK (fun p => mkB (p : Int) b c needs) 9 else none
theorem mkG_any {a b c : Int} {needs : List Int} (h : 1 ≤ a ∧ a ≤ 9) : mkG a b c needs = mkG 1 b c needs := by
  have : dutyB a b c = dutyB 1 b c := by
    rw [dutyB, dutyB, decide_eq_true h.1, decide_eq_true h.2]; rfl
  rw [mkG, mkG, this]

set_option maxRecDepth 8000 in
set_option maxHeartbeats 1000000 in
theorem implMakeRoster_con (needs : List Int) (a b c : Int) (hnl : needs.length ≤ 1048576) : Con Try.prog 65 [.sl (needs.map (V.int .i64)), .agg [.int .i64 a, .int .i64 b, .int .i64 c]] [] (.tup [.ref 0, .bool (mkB2 a b c needs)]) [.arr ((mkR2 a b c needs).map (fun l : List Int => V.sl (l.map (V.int .i64)))) (fillK (mkR2 a b c needs).length)] := by
 refine v_con [.tmp 4, .tmp 5] [] Try.func65 rfl rfl rfl (by simp [Try.ntmps65]) ?_
 intro Q0 n0 r0
 simp only [Try.ntmps65, envFrom, Nat.reduceAdd]
 have T := Tys.mk (And.intro Ty.t3 (And.intro Ty.t4 (And.intro Ty.t31 Ty.t104)))
 have F := Fc.mk True.intro
 refine v_seqR [0,3] ?_; intro K1 k1
 refine zBox ⟨?_⟩
 refine zAssign ⟨?_⟩
 refine zAssign ⟨?_⟩
 refine k1 _ ?_
 refine zk ⟨?_⟩
 refine v_seq ?_; intro Q2 n2 e2 r2
 refine v_seqR [0,3,13] ?_; intro K3 k3
 refine zMove ⟨?_⟩
 refine zc (areNeeds_con needs hnl) ⟨?_⟩
 refine zUnOp ⟨?_⟩
 refine zMove ⟨?_⟩
 refine zgLoad ⟨?_⟩
 refine zgc (isDuty_con a b c) ⟨?_⟩
 refine zgUnOp ⟨?_⟩
 refine zPick ⟨?_⟩
 refine k3 _ ?_
 refine zk ⟨?_⟩
 refine v_condS _ rfl ?_ ?_
 ·intro hc0
  have hG : (mkG a b c needs) = false := by
   rw [mkG]
   cases h1 : needB needs <;> cases h2 : dutyB a b c <;> simp [h1, h2] at hc0 ⊢
  refine v_seqR [4,5] ?_; intro K5 k5
  refine zAssign ⟨?_⟩
  refine zAssign ⟨?_⟩
  refine k5 _ ?_
  refine zk ⟨?_⟩
  refine v_ret ?_
  refine r2 _ ?_
  refine r0 _ ?_
  refine zf ⟨?_⟩
  simp only [mkR2, mkB2, hG, orNil_f, Bool.false_and, List.map_nil, List.length_nil, fillK_0R]
  exact ret_all rfl (by first | decide | simp [newIds, refsOf, refs2, refs1]) (by simp) rfl (by simp [newIds, refsOf, refs2, refs1]) (by simp [Blk.kindIs, fillK_fd]) rfl
 ·intro hc0
  have hG : (mkG a b c needs) = true := by
   rw [mkG]
   cases h1 : needB needs <;> cases h2 : dutyB a b c <;> simp [h1, h2] at hc0 ⊢
  have hG2 := hG
  rw [mkG, Bool.and_eq_true] at hG2
  have hdi := duty_in hG2.2
  have hnn := need_in hG2.1
  refine v_skip ?_
  refine n2 _ _ (weak_keep [0, 3] _) ?_
  refine zk ⟨?_⟩
  refine v_seqR [4,5] ?_; intro K6 k6
  refine zMove ⟨?_⟩
  refine zLoad ⟨?_⟩
  refine zc (makeRoster_con needs a b c hnl hnn ⟨hdi.1, hdi.2.1⟩ hdi.2.2) ⟨?_⟩
  refine zExtract ⟨?_⟩
  refine zExtract ⟨?_⟩
  refine zAssign ⟨?_⟩
  refine zAssign ⟨?_⟩
  refine k6 _ ?_
  refine zk ⟨?_⟩
  refine v_ret ?_
  refine r0 _ ?_
  refine zf ⟨?_⟩
  simp only [mkR2, mkB2, hG, orNil_t, Bool.true_and]
  exact ret_all rfl (by first | decide | simp [newIds, refsOf, refs2, refs1]) (by simp) rfl (by simp [newIds, refsOf, refs2, refs1]) (by simp [Blk.kindIs, fillK_fd]) rfl
set_option maxRecDepth 8000 in
set_option maxHeartbeats 1000000 in
theorem specMakeRoster_con (needs : List Int) (a b c : Int) (hnl : needs.length ≤ 1048576) : Con Try.prog 66 [.sl (needs.map (V.int .i64)), .agg [.int .i64 a, .int .i64 b, .int .i64 c]] [] (.tup [.ref 0, .bool (mkB2 a b c needs)]) [.arr ((mkR2 a b c needs).map (fun l : List Int => V.sl (l.map (V.int .i64)))) (fillK (mkR2 a b c needs).length)] := by
 refine v_con [.tmp 4, .tmp 5] [] Try.func66 rfl rfl rfl (by simp [Try.ntmps66]) ?_
 intro Q0 n0 r0
 simp only [Try.ntmps66, envFrom, Nat.reduceAdd]
 have T := Tys.mk (And.intro Ty.t3 (And.intro Ty.t4 (And.intro Ty.t31 Ty.t104)))
 have F := Fc.mk True.intro
 refine v_seqR [0,3] ?_; intro K1 k1
 refine zBox ⟨?_⟩
 refine zAssign ⟨?_⟩
 refine zAssign ⟨?_⟩
 refine k1 _ ?_
 refine zk ⟨?_⟩
 refine v_seq ?_; intro Q2 n2 e2 r2
 refine v_seqR [0,3,13] ?_; intro K3 k3
 refine zMove ⟨?_⟩
 refine zc (duNeeds_con needs hnl) ⟨?_⟩
 refine zUnOp ⟨?_⟩
 refine zMove ⟨?_⟩
 refine zgLoad ⟨?_⟩
 refine zgc (duGood_con a b c) ⟨?_⟩
 refine zgUnOp ⟨?_⟩
 refine zPick ⟨?_⟩
 refine k3 _ ?_
 refine zk ⟨?_⟩
 refine v_condS _ rfl ?_ ?_
 ·intro hc0
  have hG : (mkG a b c needs) = false := by
   rw [mkG]
   cases h1 : needB needs <;> cases h2 : dutyB a b c <;> simp [h1, h2] at hc0 ⊢
  refine v_seqR [4,5] ?_; intro K5 k5
  refine zAssign ⟨?_⟩
  refine zAssign ⟨?_⟩
  refine k5 _ ?_
  refine zk ⟨?_⟩
  refine v_ret ?_
  refine r2 _ ?_
  refine r0 _ ?_
  refine zf ⟨?_⟩
  simp only [mkR2, mkB2, hG, orNil_f, Bool.false_and, List.map_nil, List.length_nil, fillK_0R]
  exact ret_all rfl (by first | decide | simp [newIds, refsOf, refs2, refs1]) (by simp) rfl (by simp [newIds, refsOf, refs2, refs1]) (by simp [Blk.kindIs, fillK_fd]) rfl
 ·intro hc0
  have hG : (mkG a b c needs) = true := by
   rw [mkG]
   cases h1 : needB needs <;> cases h2 : dutyB a b c <;> simp [h1, h2] at hc0 ⊢
  have hG2 := hG
  rw [mkG, Bool.and_eq_true] at hG2
  have hdi := duty_in hG2.2
  have hnn := need_in hG2.1
  refine v_skip ?_
  refine n2 _ _ (weak_keep [0, 3] _) ?_
  refine zk ⟨?_⟩
  refine v_seqR [4,5] ?_; intro K6 k6
  refine zMove ⟨?_⟩
  refine zLoad ⟨?_⟩
  refine zc (duMake_con needs a b c hnl hnn ⟨hdi.1, hdi.2.1⟩ hdi.2.2) ⟨?_⟩
  refine zExtract ⟨?_⟩
  refine zExtract ⟨?_⟩
  refine zAssign ⟨?_⟩
  refine zAssign ⟨?_⟩
  refine k6 _ ?_
  refine zk ⟨?_⟩
  refine v_ret ?_
  refine r0 _ ?_
  refine zf ⟨?_⟩
  simp only [mkR2, mkB2, hG, orNil_t, Bool.true_and]
  exact ret_all rfl (by first | decide | simp [newIds, refsOf, refs2, refs1]) (by simp) rfl (by simp [newIds, refsOf, refs2, refs1]) (by simp [Blk.kindIs, fillK_fd]) rfl
set_option maxRecDepth 8000 in
set_option maxHeartbeats 1000000 in
theorem implFewest_con (needs : List Int) (b c : Int) (hnl : needs.length ≤ 1048576) : Con Try.prog 68 [.sl (needs.map (V.int .i64)), .int .i64 b, .int .i64 c] [] (.tup [.int .i64 (fewI (few b c needs)), .bool (few b c needs).isSome]) [] := by
 refine v_con [.tmp 6, .tmp 7] [] Try.func68 rfl rfl rfl (by simp [Try.ntmps68]) ?_
 intro Q0 n0 r0
 simp only [Try.ntmps68, envFrom, Nat.reduceAdd]
 have T := Tys.mk (And.intro Ty.t3 (And.intro Ty.t4 (And.intro Ty.t31 Ty.t104)))
 have F := Fc.mk True.intro
 refine v_seqR [0,1,2] ?_; intro K1 k1
 refine zAssign ⟨?_⟩
 refine zAssign ⟨?_⟩
 refine k1 _ ?_
 refine zk ⟨?_⟩
 refine v_seq ?_; intro Q2 n2 e2 r2
 refine v_seqR [0,1,2,20] ?_; intro K3 k3
 refine zMove ⟨?_⟩
 refine zc (areNeeds_con needs hnl) ⟨?_⟩
 refine zUnOp ⟨?_⟩
 refine zMove ⟨?_⟩
 refine zgMove ⟨?_⟩
 refine zgMove ⟨?_⟩
 refine zgBuild ⟨?_⟩
 refine zgc (isDuty_con 1 b c) ⟨?_⟩
 refine zgUnOp ⟨?_⟩
 refine zPick ⟨?_⟩
 refine k3 _ ?_
 refine zk ⟨?_⟩
 refine v_condS _ rfl ?_ ?_
 ·intro hc0
  have hG : (mkG 1 b c needs) = false := by
   rw [mkG]
   cases h1 : needB needs <;> cases h2 : dutyB 1 b c <;> simp [h1, h2] at hc0 ⊢
  have hF : few b c needs = none := by rw [few, hG]; rfl
  refine v_seqR [6,7] ?_; intro K5 k5
  refine zAssign ⟨?_⟩
  refine zAssign ⟨?_⟩
  refine k5 _ ?_
  refine zk ⟨?_⟩
  refine v_ret ?_
  refine r2 _ ?_
  refine r0 _ ?_
  refine zf ⟨?_⟩
  rw [hF]
  exact ret_pure rfl rfl (.inl rfl)
 ·intro hc0
  have hG : (mkG 1 b c needs) = true := by
   rw [mkG]
   cases h1 : needB needs <;> cases h2 : dutyB 1 b c <;> simp [h1, h2] at hc0 ⊢
  have hG2 := hG
  rw [mkG, Bool.and_eq_true] at hG2
  have hdi := duty_in hG2.2
  have hnn := need_in hG2.1
  have hFF : few b c needs = fewK (fun p : Nat => mkB (p : Int) b c needs) 9 := by rw [few, hG]; rfl
  refine v_skip ?_
  refine n2 _ _ (weak_keep [0, 1, 2] _) ?_
  refine zk ⟨?_⟩
  refine v_seq ?_; intro Q6 n6 e6 r6
  refine v_seqR [0,1,2,8] ?_; intro K7 k7
  refine zAssign ⟨?_⟩
  refine k7 _ ?_
  refine zk ⟨?_⟩
  refine v_block ?_; intro Q8 n8 x8 e8 r8
  refine v_loop (fun p => ⟨[(0, .sl (needs.map (V.int .i64))), (1, .int .i64 b), (2, .int .i64 c), (8, .int .i64 (Nat.cast p))], [], false, 36, 0⟩) (fun p => 1 ≤ p ∧ p ≤ 10 ∧ fewK (fun p : Nat => mkB (p : Int) b c needs) (10 - p) = fewK (fun p : Nat => mkB (p : Int) b c needs) 9) (fun p => 10 - p) 1 ?_ ?_ ?_
  ·refine weak_bothS [0, 1, 2, 8] [] ⟨?_⟩
   rfl
  ·exact ⟨Nat.le_refl _, by omega, rfl⟩
  ·rintro p hok9 Q9 n9 e9 r9
   obtain ⟨hp1, hp2, hR⟩ := hok9
   refine v_seq ?_; intro Q10 n10 e10 r10
   refine v_seqR [0,1,2,8,22] ?_; intro K11 k11
   refine zMove ⟨?_⟩
   refine zBinOp ⟨?_⟩
   refine k11 _ ?_
   refine zk ⟨?_⟩
   refine v_condS _ rfl ?_ ?_
   ·intro hc1
    have hp9 : p ≤ 9 := by omega
    have hst := few_step (ok := (fun p : Nat => mkB (p : Int) b c needs)) hp1 hp9
    refine v_skip ?_
    refine n10 _ _ (weak_keep [0, 1, 2, 8] _) ?_
    refine zk ⟨?_⟩
    refine v_seq ?_; intro Q13 n13 e13 r13
    refine v_block ?_; intro Q14 n14 x14 e14 r14
    refine v_seqR [0,1,2,8,10] ?_; intro K15 k15
    refine zMove ⟨?_⟩
    refine zMove ⟨?_⟩
    refine zMove ⟨?_⟩
    refine zMove ⟨?_⟩
    refine zBuild ⟨?_⟩
    refine zc (makeRoster_con needs (p : Int) b c hnl hnn (by omega) hdi.2.2) ⟨?_⟩
    refine zMove ⟨?_⟩
    refine zExtract ⟨?_⟩
    refine zExtract ⟨?_⟩
    refine zAssign ⟨?_⟩
    refine zAssign ⟨?_⟩
    refine k15 _ ?_
    refine zk ⟨?_⟩
    refine v_seqR [0,1,2,8,34] ?_; intro K16 k16
    refine zMove ⟨?_⟩
    refine k16 _ ?_
    refine zk ⟨?_⟩
    refine v_condS _ rfl ?_ ?_
    ·intro hc2
     have hF : few b c needs = some p := by rw [hFF, ← hR, hst, if_pos hc2]
     refine v_seqR [6,7] ?_; intro K18 k18
     refine zMove ⟨?_⟩
     refine zAssign ⟨?_⟩
     refine zAssign ⟨?_⟩
     refine k18 _ ?_
     refine zk ⟨?_⟩
     refine v_ret ?_
     refine r14 _ ?_
     refine r13 _ ?_
     refine r9 _ ?_
     refine r8 _ ?_
     refine r6 _ ?_
     refine r0 _ ?_
     refine zf ⟨?_⟩
     rw [hF]
     exact ret_pure rfl rfl (.inl rfl)
    ·intro hc2
     refine v_skip ?_
     refine n14 _ ?_
     refine n13 _ _ (weak_keep [0, 1, 2, 8] _) ?_
     refine zk ⟨?_⟩
     refine v_region ?_; intro K19 k19
     refine zMove ⟨?_⟩
     refine zBinOpW ⟨?_⟩
     refine zAssign ⟨?_⟩
     refine k19 _ ?_
     refine n9 _ (p + 1) ?_ ?_ ?_
     ·refine weak_bothS [0, 1, 2, 8] [] ⟨?_⟩
      rfl
     ·exact ⟨by omega, by omega, by rw [← hR, hst, if_neg (by simpa using hc2)]⟩
     ·show _ < _; omega
   ·intro hc1
    have hp9 : p = 10 := by omega
    refine v_exit ?_
    refine e10 _ _ ?_
    refine e9 _ _ ?_
    refine x8 _ ?_
    refine n6 _ _ (weak_keep [] _) ?_
    refine zk ⟨?_⟩
    refine v_seqR [6,7] ?_; intro K20 k20
    refine zAssign ⟨?_⟩
    refine zAssign ⟨?_⟩
    refine k20 _ ?_
    refine zk ⟨?_⟩
    refine v_ret ?_
    refine r0 _ ?_
    refine zf ⟨?_⟩
    have hF : few b c needs = none := by rw [hFF, ← hR, hp9]; rfl
    rw [hF]
    exact ret_pure rfl rfl (.inl rfl)
set_option maxRecDepth 8000 in
set_option maxHeartbeats 1000000 in
theorem specFewest_con (needs : List Int) (b c : Int) (hnl : needs.length ≤ 1048576) : Con Try.prog 69 [.sl (needs.map (V.int .i64)), .int .i64 b, .int .i64 c] [] (.tup [.int .i64 (fewI (few b c needs)), .bool (few b c needs).isSome]) [] := by
 have hFF : few b c needs = fewK (fun p : Nat => mkG 1 b c needs && mkB (p : Int) b c needs) 9 := by rw [few, few_guard]
 refine v_con [.tmp 6, .tmp 7] [] Try.func69 rfl rfl rfl (by simp [Try.ntmps69]) ?_
 intro Q0 n0 r0
 simp only [Try.ntmps69, envFrom, Nat.reduceAdd]
 have T := Tys.mk (And.intro Ty.t3 (And.intro Ty.t31 Ty.t104))
 have F := Fc.mk True.intro
 refine v_seqR [0,1,2] ?_; intro K1 k1
 refine zAssign ⟨?_⟩
 refine zAssign ⟨?_⟩
 refine k1 _ ?_
 refine zk ⟨?_⟩
 refine v_seq ?_; intro Q2 n2 e2 r2
 refine v_seqR [0,1,2,8] ?_; intro K3 k3
 refine zAssign ⟨?_⟩
 refine k3 _ ?_
 refine zk ⟨?_⟩
 refine v_block ?_; intro Q4 n4 x4 e4 r4
 refine v_loop (fun p => ⟨[(0, .sl (needs.map (V.int .i64))), (1, .int .i64 b), (2, .int .i64 c), (8, .int .i64 (Nat.cast p))], [], false, 26, 0⟩) (fun p => 1 ≤ p ∧ p ≤ 10 ∧ fewK (fun p : Nat => mkG 1 b c needs && mkB (p : Int) b c needs) (10 - p) = fewK (fun p : Nat => mkG 1 b c needs && mkB (p : Int) b c needs) 9) (fun p => 10 - p) 1 ?_ ?_ ?_
 ·refine weak_bothS [0, 1, 2, 8] [] ⟨?_⟩
  rfl
 ·exact ⟨Nat.le_refl _, by omega, rfl⟩
 ·rintro p hok5 Q5 n5 e5 r5
  obtain ⟨hp1, hp2, hR⟩ := hok5
  refine v_seq ?_; intro Q6 n6 e6 r6
  refine v_seqR [0,1,2,8,12] ?_; intro K7 k7
  refine zMove ⟨?_⟩
  refine zBinOp ⟨?_⟩
  refine k7 _ ?_
  refine zk ⟨?_⟩
  refine v_condS _ rfl ?_ ?_
  ·intro hc0
   have hp9 : p ≤ 9 := by omega
   have hst := few_step (ok := (fun p : Nat => mkG 1 b c needs && mkB (p : Int) b c needs)) hp1 hp9
   have hga : mkB2 (p : Int) b c needs = (mkG 1 b c needs && mkB (p : Int) b c needs) := by rw [mkB2, mkG_any (by omega)]
   refine v_skip ?_
   refine n6 _ _ (weak_keep [0, 1, 2, 8] _) ?_
   refine zk ⟨?_⟩
   refine v_seq ?_; intro Q9 n9 e9 r9
   refine v_block ?_; intro Q10 n10 x10 e10 r10
   refine v_seqR [0,1,2,8,10] ?_; intro K11 k11
   refine zMove ⟨?_⟩
   refine zMove ⟨?_⟩
   refine zMove ⟨?_⟩
   refine zMove ⟨?_⟩
   refine zBuild ⟨?_⟩
   refine zc (specMakeRoster_con needs (p : Int) b c hnl) ⟨?_⟩
   refine zMove ⟨?_⟩
   refine zExtract ⟨?_⟩
   refine zExtract ⟨?_⟩
   refine zAssign ⟨?_⟩
   refine zAssign ⟨?_⟩
   refine k11 _ ?_
   refine zk ⟨?_⟩
   refine v_seqR [0,1,2,8,24] ?_; intro K12 k12
   refine zMove ⟨?_⟩
   refine k12 _ ?_
   refine zk ⟨?_⟩
   refine v_condS _ rfl ?_ ?_
   ·intro hc1
    have hF : few b c needs = some p := by rw [hFF, ← hR, hst, if_pos (hga ▸ hc1)]
    refine v_seqR [6,7] ?_; intro K14 k14
    refine zMove ⟨?_⟩
    refine zAssign ⟨?_⟩
    refine zAssign ⟨?_⟩
    refine k14 _ ?_
    refine zk ⟨?_⟩
    refine v_ret ?_
    refine r10 _ ?_
    refine r9 _ ?_
    refine r5 _ ?_
    refine r4 _ ?_
    refine r2 _ ?_
    refine r0 _ ?_
    refine zf ⟨?_⟩
    rw [hF]
    exact ret_pure rfl rfl (.inl rfl)
   ·intro hc1
    have hno : ¬ (mkG 1 b c needs && mkB (p : Int) b c needs) = true := by rw [← hga, hc1]; decide
    refine v_skip ?_
    refine n10 _ ?_
    refine n9 _ _ (weak_keep [0, 1, 2, 8] _) ?_
    refine zk ⟨?_⟩
    refine v_region ?_; intro K15 k15
    refine zMove ⟨?_⟩
    refine zBinOpW ⟨?_⟩
    refine zAssign ⟨?_⟩
    refine k15 _ ?_
    refine n5 _ (p + 1) ?_ ?_ ?_
    ·refine weak_bothS [0, 1, 2, 8] [] ⟨?_⟩
     rfl
    ·exact ⟨by omega, by omega, by rw [← hR, hst, if_neg hno]⟩
    ·show _ < _; omega
  ·intro hc0
   have hp9 : p = 10 := by omega
   refine v_exit ?_
   refine e6 _ _ ?_
   refine e5 _ _ ?_
   refine x4 _ ?_
   refine n2 _ _ (weak_keep [] _) ?_
   refine zk ⟨?_⟩
   refine v_seqR [6,7] ?_; intro K16 k16
   refine zAssign ⟨?_⟩
   refine zAssign ⟨?_⟩
   refine k16 _ ?_
   refine zk ⟨?_⟩
   refine v_ret ?_
   refine r0 _ ?_
   refine zf ⟨?_⟩
   have hF : few b c needs = none := by rw [hFF, ← hR, hp9]; rfl
   rw [hF]
   exact ret_pure rfl rfl (.inl rfl)
theorem and255 (a : Int) : 0 ≤ IntKind.i64.wrap (IntKind.u64.wrap ((BitVec.ofInt IntKind.u64.bits a &&& BitVec.ofInt IntKind.u64.bits 255).toNat : Int)) ∧ IntKind.i64.wrap (IntKind.u64.wrap ((BitVec.ofInt IntKind.u64.bits a &&& BitVec.ofInt IntKind.u64.bits 255).toNat : Int)) ≤ 255 := by
  have h : (BitVec.ofInt IntKind.u64.bits a &&& BitVec.ofInt IntKind.u64.bits 255).toNat ≤ 255 := by
    rw [BitVec.toNat_and]
    exact Nat.le_trans Nat.and_le_right (by decide)
  generalize (BitVec.ofInt IntKind.u64.bits a &&& BitVec.ofInt IntKind.u64.bits 255).toNat = n at h
  have e : IntKind.u64.wrap (n : Int) = n := by
    simp only [IntKind.wrap, IntKind.bits, IntKind.signed]
    simp
    omega
  rw [e, wrap64 (by omega) (by omega)]
  omega
theorem tmod_in {x m : Int} (hx : 0 ≤ x) (hm : 1 < m) : 0 ≤ x.tmod m ∧ x.tmod m < m := ⟨Int.tmod_nonneg m hx, Int.tmod_lt_of_pos x (by omega)⟩

set_option maxHeartbeats 1000000 in
theorem next_con (code : List Int) (a s : Int) (hcode : ∀ x ∈ code, 0 ≤ x ∧ x ≤ 255) (hcl : code.length ≤ 9223372036854775807) (ha : 0 ≤ a ∧ a < 20000000000) : ConX Try.prog 166 [.ptr 0 0 0] [.box (.agg [.sl (code.map (V.int .u8)), .int .i64 a, .int .u64 s]) .shal] (fun r O' => ∃ (v : Int) (a' s' : Int), (0 ≤ v ∧ v ≤ 255) ∧ (a ≤ a' ∧ a' ≤ a + 1) ∧ r = .int .i64 v ∧ O' = [.box (.agg [.sl (code.map (V.int .u8)), .int .i64 a', .int .u64 s']) .shal]) := by
 refine v_conX [.tmp 2] [] Try.func166 rfl rfl rfl (by simp [Try.ntmps166]) ?_
 intro Q0 n0 r0
 simp only [Try.ntmps166, envFrom, Nat.reduceAdd]
 have T := Tys.mk (And.intro Ty.t3 (And.intro Ty.t5 (And.intro Ty.t22 (And.intro Ty.t118 (And.intro Ty.t120 Ty.t188)))))
 have F := Fc.mk True.intro
 refine v_seqR [0] ?_; intro K1 k1
 refine zAssign ⟨?_⟩
 refine k1 _ ?_
 refine zk ⟨?_⟩
 refine v_seqR [0,3] ?_; intro K2 k2
 refine zAssign ⟨?_⟩
 refine k2 _ ?_
 refine zk ⟨?_⟩
 refine v_seq ?_; intro Q3 n3 e3 r3
 refine v_seq ?_; intro Q4 n4 e4 r4
 refine v_draw (by kernel_rfl) ?_; intro K5 q5 k5
 show aAny _ _ _ _ 10 (Array.replicate 10 false) _
 refine zdMove q5 true 0 4 ?_
 refine zdNilCheck q5 true 1 5 ?_
 refine zdFieldAddr q5 true 2 6 ?_
 refine zdLoad q5 true 3 7 ?_
 refine zdMove q5 true 4 8 ?_
 refine zdNilCheck q5 true 5 9 ?_
 refine zdFieldAddr q5 true 6 10 ?_
 refine zdLoad q5 true 7 11 ?_
 refine zdLen q5 true 8 12 ?_
 refine zdBinOp q5 true 9 13 ?_
 refine aAny_done (by kernel_rfl) ?_
 refine k5 _ ?_
 refine n4 _ _ (weak_keep [0, 3, 13] _) ?_
 refine zk ⟨?_⟩
 refine v_condS _ rfl ?_ ?_
 ·intro hc0
  have hlt : a.toNat < code.length := by omega
  obtain ⟨x, hx⟩ : ∃ x, code[a.toNat]? = some x := ⟨code[a.toNat], List.getElem?_eq_getElem hlt⟩
  have hxb := hcode x (List.mem_of_getElem? hx)
  have hxw : IntKind.i64.wrap x = x := wrap64 (by omega) (by omega)
  refine v_draw (by kernel_rfl) ?_; intro K7 q7 k7
  show aAny _ _ _ _ 12 (Array.replicate 12 false) _
  have F := Fc.mk (And.intro (fun f => getD_map (f := f) hx) hxw)
  refine zdMove q7 true 0 14 ?_
  refine zdNilCheck q7 true 1 15 ?_
  refine zdFieldAddr q7 true 2 16 ?_
  refine zdLoad q7 true 3 17 ?_
  refine zdMove q7 true 4 18 ?_
  refine zdNilCheck q7 true 5 19 ?_
  refine zdFieldAddr q7 true 6 20 ?_
  refine zdLoad q7 true 7 21 ?_
  refine zdIndexAddr q7 true 8 22 ?_
  refine zdLoad q7 true 9 23 ?_
  refine zdConvert q7 true 10 24 ?_
  refine zoAssign 11 ⟨?_⟩
  refine aAny_done (by kernel_rfl) ?_
  refine k7 _ ?_
  refine n3 _ _ (weak_keep [0, 3] _) ?_
  refine zk ⟨?_⟩
  refine v_seqR [0,3] ?_; intro K8 k8
  refine zMove ⟨?_⟩
  refine zNilCheck ⟨?_⟩
  refine zFieldAddr ⟨?_⟩
  refine zLoad ⟨?_⟩
  refine zBinOpW ⟨?_⟩
  refine zNilCheck ⟨?_⟩
  refine zFieldAddr ⟨?_⟩
  refine zStore ⟨?_⟩
  refine k8 _ ?_
  refine zk ⟨?_⟩
  refine v_seqR [0,3] ?_; intro K9 k9
  refine zMove ⟨?_⟩
  refine zMove ⟨?_⟩
  refine zNilCheck ⟨?_⟩
  refine zFieldAddr ⟨?_⟩
  refine zLoad ⟨?_⟩
  refine zBinOpW ⟨?_⟩
  refine zMove ⟨?_⟩
  refine zConvert ⟨?_⟩
  refine zBinOpW ⟨?_⟩
  refine zBinOpW ⟨?_⟩
  refine zNilCheck ⟨?_⟩
  refine zFieldAddr ⟨?_⟩
  refine zStore ⟨?_⟩
  refine k9 _ ?_
  refine zk ⟨?_⟩
  refine v_seq ?_; intro Q10 n10 e10 r10
  refine v_seq ?_; intro Q11 n11 e11 r11
  refine v_draw (by kernel_rfl) ?_; intro K12 q12 k12
  show aAny _ _ _ _ 10 (Array.replicate 10 false) _
  refine zdMove q12 true 0 44 ?_
  refine zdNilCheck q12 true 1 45 ?_
  refine zdFieldAddr q12 true 2 46 ?_
  refine zdLoad q12 true 3 47 ?_
  refine zdMove q12 true 4 48 ?_
  refine zdNilCheck q12 true 5 49 ?_
  refine zdFieldAddr q12 true 6 50 ?_
  refine zdLoad q12 true 7 51 ?_
  refine zdLen q12 true 8 52 ?_
  refine zdBinOp q12 true 9 53 ?_
  refine aAny_done (by kernel_rfl) ?_
  refine k12 _ ?_
  refine n11 _ _ (weak_keep [0, 3, 53] _) ?_
  refine zk ⟨?_⟩
  refine v_condS _ rfl ?_ ?_
  ·intro hc1
   refine v_seqR [2] ?_; intro K14 k14
   refine zMove ⟨?_⟩
   refine zAssign ⟨?_⟩
   refine k14 _ ?_
   refine zk ⟨?_⟩
   refine v_ret ?_
   refine r10 _ ?_
   refine r0 _ ?_
   refine zf ⟨?_⟩
   refine ret_viewX ?_
   exact ⟨_, _, _, by omega, by omega, rfl, rfl⟩
  ·intro hc1
   refine v_skip ?_
   refine n10 _ _ (weak_keep [0] _) ?_
   refine zk ⟨?_⟩
   refine v_seqR [2] ?_; intro K15 k15
   refine zMove ⟨?_⟩
   refine zNilCheck ⟨?_⟩
   refine zFieldAddr ⟨?_⟩
   refine zLoad ⟨?_⟩
   refine zBinOp ⟨?_⟩
   refine zBinOp ⟨?_⟩
   refine zConvert ⟨?_⟩
   refine zAssign ⟨?_⟩
   refine k15 _ ?_
   refine zk ⟨?_⟩
   refine v_ret ?_
   refine r0 _ ?_
   refine zf ⟨?_⟩
   refine ret_viewX ?_
   exact ⟨_, _, _, and255 _, by omega, rfl, rfl⟩
 ·intro hc0
  refine v_skip ?_
  refine n3 _ _ (weak_keep [0, 3] _) ?_
  refine zk ⟨?_⟩
  refine v_seqR [0,3] ?_; intro K16 k16
  refine zMove ⟨?_⟩
  refine zNilCheck ⟨?_⟩
  refine zFieldAddr ⟨?_⟩
  refine zLoad ⟨?_⟩
  refine zBinOpW ⟨?_⟩
  refine zNilCheck ⟨?_⟩
  refine zFieldAddr ⟨?_⟩
  refine zStore ⟨?_⟩
  refine k16 _ ?_
  refine zk ⟨?_⟩
  refine v_seqR [0,3] ?_; intro K17 k17
  refine zMove ⟨?_⟩
  refine zMove ⟨?_⟩
  refine zNilCheck ⟨?_⟩
  refine zFieldAddr ⟨?_⟩
  refine zLoad ⟨?_⟩
  refine zBinOpW ⟨?_⟩
  refine zMove ⟨?_⟩
  refine zConvert ⟨?_⟩
  refine zBinOpW ⟨?_⟩
  refine zBinOpW ⟨?_⟩
  refine zNilCheck ⟨?_⟩
  refine zFieldAddr ⟨?_⟩
  refine zStore ⟨?_⟩
  refine k17 _ ?_
  refine zk ⟨?_⟩
  refine v_seq ?_; intro Q18 n18 e18 r18
  refine v_seq ?_; intro Q19 n19 e19 r19
  refine v_draw (by kernel_rfl) ?_; intro K20 q20 k20
  show aAny _ _ _ _ 10 (Array.replicate 10 false) _
  refine zdMove q20 true 0 44 ?_
  refine zdNilCheck q20 true 1 45 ?_
  refine zdFieldAddr q20 true 2 46 ?_
  refine zdLoad q20 true 3 47 ?_
  refine zdMove q20 true 4 48 ?_
  refine zdNilCheck q20 true 5 49 ?_
  refine zdFieldAddr q20 true 6 50 ?_
  refine zdLoad q20 true 7 51 ?_
  refine zdLen q20 true 8 52 ?_
  refine zdBinOp q20 true 9 53 ?_
  refine aAny_done (by kernel_rfl) ?_
  refine k20 _ ?_
  refine n19 _ _ (weak_keep [0, 3, 53] _) ?_
  refine zk ⟨?_⟩
  refine v_condS _ rfl ?_ ?_
  ·intro hc2
   refine v_seqR [2] ?_; intro K22 k22
   refine zMove ⟨?_⟩
   refine zAssign ⟨?_⟩
   refine k22 _ ?_
   refine zk ⟨?_⟩
   refine v_ret ?_
   refine r18 _ ?_
   refine r0 _ ?_
   refine zf ⟨?_⟩
   refine ret_viewX ?_
   exact ⟨_, _, _, by omega, by omega, rfl, rfl⟩
  ·intro hc2
   refine v_skip ?_
   refine n18 _ _ (weak_keep [0] _) ?_
   refine zk ⟨?_⟩
   refine v_seqR [2] ?_; intro K23 k23
   refine zMove ⟨?_⟩
   refine zNilCheck ⟨?_⟩
   refine zFieldAddr ⟨?_⟩
   refine zLoad ⟨?_⟩
   refine zBinOp ⟨?_⟩
   refine zBinOp ⟨?_⟩
   refine zConvert ⟨?_⟩
   refine zAssign ⟨?_⟩
   refine k23 _ ?_
   refine zk ⟨?_⟩
   refine v_ret ?_
   refine r0 _ ?_
   refine zf ⟨?_⟩
   refine ret_viewX ?_
   exact ⟨_, _, _, and255 _, by omega, rfl, rfl⟩
set_option maxHeartbeats 1000000 in
theorem pick_con (code : List Int) (a s : Int) (m : Int) (hcode : ∀ x ∈ code, 0 ≤ x ∧ x ≤ 255) (hcl : code.length ≤ 9223372036854775807) (ha : 0 ≤ a ∧ a < 19000000000) : ConX Try.prog 78 [.ptr 0 0 0, .int .i64 m] [.box (.agg [.sl (code.map (V.int .u8)), .int .i64 a, .int .u64 s]) .shal] (fun r O' => ∃ (v : Int) (a' s' : Int), (0 ≤ v ∧ (v < m ∨ (m ≤ 1 ∧ v = 0))) ∧ (a ≤ a' ∧ a' ≤ a + 2) ∧ r = .int .i64 v ∧ O' = [.box (.agg [.sl (code.map (V.int .u8)), .int .i64 a', .int .u64 s']) .shal]) := by
 refine v_conX [.tmp 4] [(166, [0])] Try.func78 rfl rfl rfl (by simp [Try.ntmps78]) ?_
 intro Q0 n0 r0
 simp only [Try.ntmps78, envFrom, Nat.reduceAdd]
 have T := Tys.mk (And.intro Ty.t3 (And.intro Ty.t5 (And.intro Ty.t22 (And.intro Ty.t117 (And.intro Ty.t118 Ty.t120)))))
 have F := Fc.mk True.intro
 refine v_seqR [0,1] ?_; intro K1 k1
 refine zAssign ⟨?_⟩
 refine k1 _ ?_
 refine zk ⟨?_⟩
 refine v_seq ?_; intro Q2 n2 e2 r2
 refine v_seqR [0,1,7] ?_; intro K3 k3
 refine zMove ⟨?_⟩
 refine zBinOp ⟨?_⟩
 refine k3 _ ?_
 refine zk ⟨?_⟩
 refine v_condS _ rfl ?_ ?_
 ·intro hc0
  refine v_seqR [4] ?_; intro K5 k5
  refine zAssign ⟨?_⟩
  refine k5 _ ?_
  refine zk ⟨?_⟩
  refine v_ret ?_
  refine r2 _ ?_
  refine r0 _ ?_
  refine zf ⟨?_⟩
  refine ret_viewX ?_
  exact ⟨0, _, _, by omega, by omega, rfl, rfl⟩
 ·intro hc0
  refine v_skip ?_
  refine n2 _ _ (weak_keep [0, 1] _) ?_
  refine zk ⟨?_⟩
  refine v_seqR [0,1,5] ?_; intro K6 k6
  refine zMove ⟨?_⟩
  refine v_op ?_; intro K k
  simp only [zE, zM, aStepM, optable, set_some, Nat.reduceEqDiff, reduceIte, Nat.reduceLT, implies_true, forall_const, reduceCtorEq, V.ofValue, V.ofScalar, V.un, V.gd, aExec, lentIds, lendOf, ‹Tys _›.h, ‹Fc _›.h]
  repeat (refine andC ?_)
  refine aCall_lentXA (next_con code a s hcode hcl (by omega)) ?_
  rintro _ _ ⟨v9, a9, s9, h9, k9, rfl, rfl⟩
  refine ⟨_, _, rfl, by first | exact .inr (List.all_eq_true.1 rfl) | exact .inl ⟨rfl, by simp [Blk.kindIs, fillK_fd]⟩, ?_⟩
  refine k _ ?_; clear k K
  simp only [zY, zW, set_some, Nat.reduceEqDiff, reduceIte, rho_one, rho_s, rho2_s, rho2_0, rho2_1, V.ren, V.renL, List.set_cons_zero, List.set_cons_succ, rho, Nat.reduceAdd, Nat.add_zero]
  refine zAssign ⟨?_⟩
  refine k6 _ ?_
  refine zk ⟨?_⟩
  refine v_seq ?_; intro Q7 n7 e7 r7
  refine v_seqR [0,1,5,11] ?_; intro K8 k8
  refine zMove ⟨?_⟩
  refine zBinOp ⟨?_⟩
  refine k8 _ ?_
  refine zk ⟨?_⟩
  refine v_condS _ rfl ?_ ?_
  ·intro hc1
   refine v_region ?_; intro K10 k10
   refine zMove ⟨?_⟩
   refine zBinOpW ⟨?_⟩
   refine zMove ⟨?_⟩
   refine v_op ?_; intro K k
   simp only [zE, zM, aStepM, optable, set_some, Nat.reduceEqDiff, reduceIte, Nat.reduceLT, implies_true, forall_const, reduceCtorEq, V.ofValue, V.ofScalar, V.un, V.gd, aExec, lentIds, lendOf, ‹Tys _›.h, ‹Fc _›.h]
   repeat (refine andC ?_)
   refine aCall_lentXA (next_con code a9 s9 hcode hcl (by omega)) ?_
   rintro _ _ ⟨v15, a15, s15, h15, k15, rfl, rfl⟩
   refine ⟨_, _, rfl, by first | exact .inr (List.all_eq_true.1 rfl) | exact .inl ⟨rfl, by simp [Blk.kindIs, fillK_fd]⟩, ?_⟩
   refine k _ ?_; clear k K
   simp only [zY, zW, set_some, Nat.reduceEqDiff, reduceIte, rho_one, rho_s, rho2_s, rho2_0, rho2_1, V.ren, V.renL, List.set_cons_zero, List.set_cons_succ, rho, Nat.reduceAdd, Nat.add_zero]
   refine zBinOpW ⟨?_⟩
   refine zAssign ⟨?_⟩
   refine k10 _ ?_
   refine n7 _ _ (weak_keep [1, 5] _) ?_
   refine zk ⟨?_⟩
   refine v_seqR [4] ?_; intro K11 k11
   refine zMove ⟨?_⟩
   refine zMove ⟨?_⟩
   refine zBinOp ⟨?_⟩
   refine zAssign ⟨?_⟩
   refine k11 _ ?_
   refine zk ⟨?_⟩
   refine v_ret ?_
   refine r0 _ ?_
   refine zf ⟨?_⟩
   have hm1 : 1 < m := by omega
   have ht := tmod_in (x := v9 * 256 + v15) (m := m) (by omega) hm1
   refine ret_viewX ?_
   exact ⟨_, _, _, by omega, by omega, rfl, rfl⟩
  ·intro hc1
   refine v_skip ?_
   refine n7 _ _ (weak_keep [1, 5] _) ?_
   refine zk ⟨?_⟩
   refine v_seqR [4] ?_; intro K12 k12
   refine zMove ⟨?_⟩
   refine zMove ⟨?_⟩
   refine zBinOp ⟨?_⟩
   refine zAssign ⟨?_⟩
   refine k12 _ ?_
   refine zk ⟨?_⟩
   refine v_ret ?_
   refine r0 _ ?_
   refine zf ⟨?_⟩
   have hm1 : 1 < m := by omega
   have ht := tmod_in (x := v9) (m := m) (by omega) hm1
   refine ret_viewX ?_
   exact ⟨_, _, _, by omega, by omega, rfl, rfl⟩
set_option maxHeartbeats 1000000 in
theorem one_con (code : List Int) (a s : Int) (m : Int) (hcode : ∀ x ∈ code, 0 ≤ x ∧ x ≤ 255) (hcl : code.length ≤ 9223372036854775807) (ha : 0 ≤ a ∧ a < 18000000000) : ConX Try.prog 79 [.ptr 0 0 0, .int .i64 m] [.box (.agg [.sl (code.map (V.int .u8)), .int .i64 a, .int .u64 s]) .shal] (fun r O' => ∃ (v : Bool) (a' s' : Int), (True) ∧ (a ≤ a' ∧ a' ≤ a + 2) ∧ r = .bool v ∧ O' = [.box (.agg [.sl (code.map (V.int .u8)), .int .i64 a', .int .u64 s']) .shal]) := by
 refine v_conX [.tmp 4] [(78, [0])] Try.func79 rfl rfl rfl (by simp [Try.ntmps79]) ?_
 intro Q0 n0 r0
 simp only [Try.ntmps79, envFrom, Nat.reduceAdd]
 have T := Tys.mk (And.intro Ty.t3 (And.intro Ty.t5 (And.intro Ty.t22 (And.intro Ty.t117 (And.intro Ty.t118 Ty.t120)))))
 have F := Fc.mk True.intro
 refine v_seqR [0,1] ?_; intro K1 k1
 refine zAssign ⟨?_⟩
 refine k1 _ ?_
 refine zk ⟨?_⟩
 refine v_seqR [4] ?_; intro K2 k2
 refine zMove ⟨?_⟩
 refine zMove ⟨?_⟩
 refine v_op ?_; intro K k
 simp only [zE, zM, aStepM, optable, set_some, Nat.reduceEqDiff, reduceIte, Nat.reduceLT, implies_true, forall_const, reduceCtorEq, V.ofValue, V.ofScalar, V.un, V.gd, aExec, lentIds, lendOf, ‹Tys _›.h, ‹Fc _›.h]
 repeat (refine andC ?_)
 refine aCall_lentXA (pick_con code a s (m) hcode hcl (by omega)) ?_
 rintro _ _ ⟨v7, a7, s7, h7, k7, rfl, rfl⟩
 refine ⟨_, _, rfl, by first | exact .inr (List.all_eq_true.1 rfl) | exact .inl ⟨rfl, by simp [Blk.kindIs, fillK_fd]⟩, ?_⟩
 refine k _ ?_; clear k K
 simp only [zY, zW, set_some, Nat.reduceEqDiff, reduceIte, rho_one, rho_s, rho2_s, rho2_0, rho2_1, V.ren, V.renL, List.set_cons_zero, List.set_cons_succ, rho, Nat.reduceAdd, Nat.add_zero]
 refine zBinOp ⟨?_⟩
 refine zAssign ⟨?_⟩
 refine k2 _ ?_
 refine zk ⟨?_⟩
 refine v_ret ?_
 refine r0 _ ?_
 refine zf ⟨?_⟩
 refine ret_viewX ?_
 exact ⟨_, _, _, trivial, by omega, rfl, rfl⟩
set_option maxHeartbeats 1000000 in
theorem among_con (code : List Int) (a s : Int) (l : List Int) (hl : 0 < l.length ∧ l.length ≤ 1048576) (hcode : ∀ x ∈ code, 0 ≤ x ∧ x ≤ 255) (hcl : code.length ≤ 9223372036854775807) (ha : 0 ≤ a ∧ a < 18000000000) : ConX Try.prog 81 [.ptr 0 0 0, .ref 1] [.box (.agg [.sl (code.map (V.int .u8)), .int .i64 a, .int .u64 s]) .shal, .arr (l.map (V.int .i64)) .flat] (fun r O' => ∃ (v : Int) (a' s' : Int), (v ∈ l) ∧ (a ≤ a' ∧ a' ≤ a + 2) ∧ r = .int .i64 v ∧ O' = [.box (.agg [.sl (code.map (V.int .u8)), .int .i64 a', .int .u64 s']) .shal, .arr (l.map (V.int .i64)) .flat]) := by
 refine v_conX [.tmp 4] [(78, [0])] Try.func81 rfl rfl rfl (by simp [Try.ntmps81]) ?_
 intro Q0 n0 r0
 simp only [Try.ntmps81, envFrom, Nat.reduceAdd]
 have T := Tys.mk (And.intro Ty.t3 (And.intro Ty.t5 (And.intro Ty.t22 (And.intro Ty.t31 (And.intro Ty.t117 (And.intro Ty.t118 Ty.t120))))))
 have F := Fc.mk True.intro
 refine v_seqR [0,1] ?_; intro K1 k1
 refine zAssign ⟨?_⟩
 refine k1 _ ?_
 refine zk ⟨?_⟩
 refine v_seqR [4] ?_; intro K2 k2
 refine zMove ⟨?_⟩
 refine zMove ⟨?_⟩
 refine zMove ⟨?_⟩
 refine zLen ⟨?_⟩
 refine v_op ?_; intro K k
 simp only [zE, zM, aStepM, optable, set_some, Nat.reduceEqDiff, reduceIte, Nat.reduceLT, implies_true, forall_const, reduceCtorEq, V.ofValue, V.ofScalar, V.un, V.gd, aExec, lentIds, lendOf, ‹Tys _›.h, ‹Fc _›.h]
 repeat (refine andC ?_)
 refine aCall_lentXA (pick_con code a s ((l.length : Int)) hcode hcl (by omega)) ?_
 rintro _ _ ⟨v9, a9, s9, h9, k9, rfl, rfl⟩
 obtain ⟨x, hx⟩ : ∃ x, l[v9.toNat]? = some x := ⟨l[v9.toNat]'(by omega), List.getElem?_eq_getElem (by omega)⟩
 refine ⟨_, _, rfl, by first | exact .inr (List.all_eq_true.1 rfl) | exact .inl ⟨rfl, by simp [Blk.kindIs, fillK_fd]⟩, ?_⟩
 refine k _ ?_; clear k K
 simp only [zY, zW, set_some, Nat.reduceEqDiff, reduceIte, rho_one, rho_s, rho2_s, rho2_0, rho2_1, V.ren, V.renL, List.set_cons_zero, List.set_cons_succ, rho, Nat.reduceAdd, Nat.add_zero]
 have F := Fc.mk (fun f => getD_map (f := f) hx)
 refine zIndexAddr ⟨?_⟩
 refine zLoad ⟨?_⟩
 refine zAssign ⟨?_⟩
 refine k2 _ ?_
 refine zk ⟨?_⟩
 refine v_ret ?_
 refine r0 _ ?_
 refine zf ⟨?_⟩
 refine ret_viewX ?_
 exact ⟨_, _, _, List.mem_of_getElem? hx, by omega, rfl, rfl⟩
end Go.Proofs.Ytmlicajgbgjphaa
