/- What functions compute (Inc). No condition. -/
import Derived.Test.YtdgenniiidgimaaTy
import Derived.Test.YtdgenniiidgimaaVmG
import Derived.Test.YtdgenniiidgimaaWChain
import Derived.Test.YtdgenniiidgimaaWNames
import Derived.Test.YtdgenniiidgimaaWCmp
import Derived.Test.YtdgenniiidgimaaWTurn
import Derived.Test.YtdgenniiidgimaaWHasS
import Derived.Test.YtdgenniiidgimaaWLem
import Derived.Test.YtdgenniiidgimaaWDisp
import Derived.Test.YtdgenniiidgimaaWBase
import Derived.Test.YtdgenniiidgimaaWFleet
import Derived.Test.YtdgenniiidgimaaWSlIncident
set_option linter.unusedSimpArgs false
set_option linter.unusedVariables false
set_option linter.defProp false
namespace Go.Proofs.Ytdgenniiidgimaa
open Go Go.Vm

def incOK (x : (Int × Int × Bool × List ByteArray)) : Bool := (decide (1 ≤ x.1) && decide (x.1 ≤ 999)) && (decide (0 ≤ x.2.1) && decide (x.2.1 ≤ 13)) && !decide (12 < (x.2.2.2.length : Int)) && !(x.2.2.1 && decide (0 < (x.2.2.2.length : Int))) && chainAt nameB strLt x.2.2.2 0
def clashB (pre : List (Int × Int × Bool × List ByteArray)) (x : (Int × Int × Bool × List ByteArray)) : Bool := x.2.2.2.any fun s => pre.any fun y => inS s y.2.2.2
def incP (l : List (Int × Int × Bool × List ByteArray)) (i : Nat) : Bool := match l[i]? with
  | none => true
  | some x => incOK x && (decide (i = 0) || match l[i - 1]? with | some y => decide (y.1 < x.1) | none => true) && !clashB (l.take i) x
def incsB (l : List (Int × Int × Bool × List ByteArray)) : Bool := (List.range l.length).all (incP l) && decide ((l.length : Int) ≤ 8)
theorem incs_bad {l : List (Int × Int × Bool × List ByteArray)} {i : Nat} (hi : i < l.length) (h : incP l i = false) : incsB l = false := by
  have : (List.range l.length).all (incP l) = false := by
    rw [List.all_eq_false]
    exact ⟨i, List.mem_range.2 hi, by rw [h]; simp⟩
  rw [incsB, this]; rfl
theorem incs_good {l : List (Int × Int × Bool × List ByteArray)} {i : Nat} (hi : l.length ≤ i) (h : ∀ j, j < i → incP l j = true) : incsB l = decide ((l.length : Int) ≤ 8) := by
  have : (List.range l.length).all (incP l) = true := by
    rw [List.all_eq_true]
    intro j hj
    exact h j (Nat.lt_of_lt_of_le (List.mem_range.1 hj) hi)
  rw [incsB, this]; rfl
theorem upto_step {P : Nat → Bool} {i : Nat} (h : ∀ j, j < i → P j = true) (hi : P i = true) : ∀ j, j < i + 1 → P j = true := by
  intro j hj
  rcases Nat.lt_or_ge j i with q | q
  · exact h j q
  · have : j = i := by omega
    subst this; exact hi
theorem incP_zero {l : List (Int × Int × Bool × List ByteArray)} {x : (Int × Int × Bool × List ByteArray)} (h : l[0]? = some x) : incP l 0 = (incOK x && !clashB (l.take 0) x) := by
  rw [incP, h]; simp
theorem incP_succ {l : List (Int × Int × Bool × List ByteArray)} {i : Nat} {x y : (Int × Int × Bool × List ByteArray)} (h0 : 0 < i) (hy : l[i - 1]? = some y) (h : l[i]? = some x) : incP l i = (incOK x && decide (y.1 < x.1) && !clashB (l.take i) x) := by
  rw [incP, h]
  simp only [hy, decide_eq_false (show ¬ i = 0 by omega), Bool.false_or]
def openF (l : List (Int × Int × Bool × List ByteArray)) (n : Int) : Int := firstP (fun x : (Int × Int × Bool × List ByteArray) => decide (x.1 = n) && !x.2.2.1) 0 l
def commF (l : List (Int × Int × Bool × List ByteArray)) (s : ByteArray) : Int := firstP (fun x : (Int × Int × Bool × List ByteArray) => inS s x.2.2.2) 0 l
theorem comm_any (l : List (Int × Int × Bool × List ByteArray)) (s : ByteArray) : decide (0 ≤ commF l s) = l.any fun y => inS s y.2.2.2 := first_any _ l 0
theorem any_swap {α β : Type} (f : α → β → Bool) (l : List α) (m : List β) : (l.any fun a => m.any fun b => f a b) = (m.any fun b => l.any fun a => f a b) := by
  rw [Bool.eq_iff_iff]
  simp only [List.any_eq_true]
  exact ⟨fun ⟨a, ha, b, hb, h⟩ => ⟨b, hb, a, ha, h⟩, fun ⟨b, hb, a, ha, h⟩ => ⟨a, ha, b, hb, h⟩⟩

set_option maxRecDepth 8000 in
set_option maxHeartbeats 1000000 in
theorem isIncident_con (x0 : Int) (x1 : Int) (x2 : Bool) (x3 : List ByteArray) (hsz : ∀ s ∈ x3, s.size ≤ 9223372036854775807) (hnl : x3.length ≤ 1048576) : Con Try.prog 209 [.agg [V.int .i64 x0, V.int .i64 x1, V.bool x2, V.sl (x3.map V.str)]] [] (.bool (incOK (x0, x1, x2, x3))) [] := by
 refine v_con [.tmp 2] [] Try.func209 rfl rfl rfl (by simp [Try.ntmps209]) ?_
 intro Q0 n0 r0
 simp only [Try.ntmps209, envFrom, Nat.reduceAdd]
 have T := Tys.mk (And.intro Ty.t3 (And.intro Ty.t4 (And.intro Ty.t9 (And.intro Ty.t93 Ty.t192))))
 have F := Fc.mk True.intro
 refine v_seq ?_; intro Q1 n1 e1 r1
 refine v_region ?_; intro K2 k2
 refine zBox ⟨?_⟩
 refine zAssign ⟨?_⟩
 refine k2 _ ?_
 refine n1 _ _ (weak_keep [1] _) ?_
 refine zk ⟨?_⟩
 refine v_seq ?_; intro Q3 n3 e3 r3
 refine v_seq ?_; intro Q4 n4 e4 r4
 refine v_region ?_; intro K5 k5
 refine zFieldAddr ⟨?_⟩
 refine zLoad ⟨?_⟩
 refine zc (inside_con _ _ _) ⟨?_⟩
 refine zUnOp ⟨?_⟩
 refine zMove ⟨?_⟩
 refine zgFieldAddr ⟨?_⟩
 refine zgLoad ⟨?_⟩
 refine zgc (inside_con _ _ _) ⟨?_⟩
 refine zgUnOp ⟨?_⟩
 refine zPick ⟨?_⟩
 refine zMove ⟨?_⟩
 refine zgFieldAddr ⟨?_⟩
 refine zgLoad ⟨?_⟩
 refine zgLen ⟨?_⟩
 refine zgBinOp ⟨?_⟩
 refine zPick ⟨?_⟩
 refine zMove ⟨?_⟩
 refine zgFieldAddr ⟨?_⟩
 refine zgLoad ⟨?_⟩
 refine zgMove ⟨?_⟩
 refine zgFieldAddr ⟨?_⟩
 refine zgLoad ⟨?_⟩
 refine zgLen ⟨?_⟩
 refine zgBinOp ⟨?_⟩
 refine zgPick ⟨?_⟩
 refine zPick ⟨?_⟩
 refine k5 _ ?_
 refine n4 _ _ (weak_keep [1, 30] _) ?_
 refine zk ⟨?_⟩
 refine v_condS _ rfl ?_ ?_
 ·intro hc0
  have hh : incOK (x0, x1, x2, x3) = false := by
   cases hq : incOK (x0, x1, x2, x3) with
   |false => rfl
   |true =>
    exfalso
    have hq2 : (((decide (1 ≤ x0) && decide (x0 ≤ 999)) && (decide (0 ≤ x1) && decide (x1 ≤ 13)) && !decide (12 < (x3.length : Int)) && !(x2 && decide (0 < (x3.length : Int)))) && chainAt nameB strLt x3 0) = true := hq
    rw [Bool.and_eq_true] at hq2
    have hq3 := hq2.1
    generalize (x3.length : Int) = m at hc0 hq3
    clear hq hq2
    cases x2 <;> simp at hc0 hq3 <;> omega
  refine v_seq ?_; intro Q7 n7 e7 r7
  refine v_region ?_; intro K8 k8
  refine zAssign ⟨?_⟩
  refine k8 _ ?_
  refine n7 _ _ (weak_keep [2] _) ?_
  refine zk ⟨?_⟩
  refine v_ret ?_
  refine r3 _ ?_
  refine r0 _ ?_
  refine zf ⟨?_⟩
  rw [hh]
  exact ret_pure rfl rfl (.inl rfl)
 ·intro hc0
  have hh : incOK (x0, x1, x2, x3) = chainAt nameB strLt x3 0 := by
   have hb : ((decide (1 ≤ x0) && decide (x0 ≤ 999)) && (decide (0 ≤ x1) && decide (x1 ≤ 13)) && !decide (12 < (x3.length : Int)) && !(x2 && decide (0 < (x3.length : Int)))) = true := by
    generalize (x3.length : Int) = m at hc0 ⊢
    cases x2 <;> simp at hc0 ⊢ <;> omega
   show (((decide (1 ≤ x0) && decide (x0 ≤ 999)) && (decide (0 ≤ x1) && decide (x1 ≤ 13)) && !decide (12 < (x3.length : Int)) && !(x2 && decide (0 < (x3.length : Int)))) && chainAt nameB strLt x3 0) = _
   rw [hb]; rfl
  refine v_skip ?_
  refine n3 _ _ (weak_keep [1] _) ?_
  refine zk ⟨?_⟩
  refine v_seq ?_; intro Q9 n9 e9 r9
  refine v_seq ?_; intro Q10 n10 e10 r10
  refine v_region ?_; intro K11 k11
  refine zFieldAddr ⟨?_⟩
  refine zLoad ⟨?_⟩
  refine zLen ⟨?_⟩
  refine zMove ⟨?_⟩
  refine k11 _ ?_
  refine n10 _ _ (weak_keep [1, 32, 33, 34] _) ?_
  refine zk ⟨?_⟩
  refine v_block ?_; intro Q12 n12 x12 e12 r12
  refine v_loop (fun i => ⟨[(1, .ptr 0 0 0), (32, .sl (x3.map V.str)), (33, .int .i64 x3.length), (34, .int .i64 (Nat.cast i))], [.box (.agg [V.int .i64 x0, V.int .i64 x1, V.bool x2, V.sl (x3.map V.str)]) .shal], false, 57, 0⟩) (fun i => i ≤ x3.length ∧ chainAt nameB strLt x3 i = chainAt nameB strLt x3 0) (fun i => x3.length - i) 0 ?_ ?_ ?_
  ·refine weak_bothS [1, 32, 33, 34] [0] ⟨?_⟩
   rfl
  ·exact ⟨Nat.zero_le _, rfl⟩
  ·rintro i hok13 Q13 n13 e13 r13
   obtain ⟨hi1, hR⟩ := hok13
   refine v_seq ?_; intro Q14 n14 e14 r14
   refine v_region ?_; intro K15 k15
   refine zBinOp ⟨?_⟩
   refine k15 _ ?_
   refine n14 _ _ (weak_keep [1, 32, 33, 34, 35] _) ?_
   refine zk ⟨?_⟩
   refine v_seq ?_; intro Q16 n16 e16 r16
   refine v_condS _ rfl ?_ ?_
   ·intro hc1
    have hlt : i < x3.length := by omega
    obtain ⟨s, hx⟩ : ∃ s, x3[i]? = some s := ⟨_, List.getElem?_eq_getElem hlt⟩
    have hsx := hsz s (List.mem_of_getElem? hx)
    rcases Nat.eq_zero_or_pos i with h0 | h0
    ·skip
     have hi0 : ¬ ((0 : Int) < (i : Int)) := by omega
     have hst : chainAt nameB strLt x3 i = (nameB s && chainAt nameB strLt x3 (i + 1)) := by subst h0; exact chain_zero hx
     refine v_skip ?_
     refine n16 _ _ (weak_keep [1, 32, 33, 34] _) ?_
     refine zk ⟨?_⟩
     refine v_seq ?_; intro Q18 n18 e18 r18
     refine v_block ?_; intro Q19 n19 x19 e19 r19
     refine v_seq ?_; intro Q20 n20 e20 r20
     refine v_region ?_; intro K21 k21
     have F := Fc.mk (And.intro (fun f => getD_map (f := f) hx) (And.intro hi0 (And.intro @decide_false @Bool.and_false)))
     refine zMove ⟨?_⟩
     refine zIndexAddr ⟨?_⟩
     refine zLoad ⟨?_⟩
     refine zAssign ⟨?_⟩
     refine zAssign ⟨?_⟩
     refine k21 _ ?_
     refine n20 _ _ (weak_keep [1, 3, 4, 32, 33, 34] _) ?_
     refine zk ⟨?_⟩
     refine v_seq ?_; intro Q22 n22 e22 r22
     refine v_region ?_; intro K23 k23
     refine zMove ⟨?_⟩
     refine zc (isName_con s hsx) ⟨?_⟩
     refine zUnOp ⟨?_⟩
     refine zMove ⟨?_⟩
     refine zgMove ⟨?_⟩
     refine zgBinOp ⟨?_⟩
     refine zgMove ⟨?_⟩
     refine zgFieldAddr ⟨?_⟩
     refine zgLoad ⟨?_⟩
     refine zgMove ⟨?_⟩
     refine zgBinOpW ⟨?_⟩
     refine zgIndexAddr ⟨?_⟩
     refine zgLoad ⟨?_⟩
     refine zgMove ⟨?_⟩
     refine zgBinOp ⟨?_⟩
     refine zgPick ⟨?_⟩
     refine zPick ⟨?_⟩
     refine k23 _ ?_
     refine n22 _ _ (weak_keep [1, 32, 33, 34, 55] _) ?_
     refine zk ⟨?_⟩
     refine v_condS _ rfl ?_ ?_
     ·intro hc2
      refine v_seq ?_; intro Q25 n25 e25 r25
      refine v_region ?_; intro K26 k26
      refine zAssign ⟨?_⟩
      refine k26 _ ?_
      refine n25 _ _ (weak_keep [2] _) ?_
      refine zk ⟨?_⟩
      refine v_ret ?_
      refine r19 _ ?_
      refine r18 _ ?_
      refine r13 _ ?_
      refine r12 _ ?_
      refine r9 _ ?_
      refine r0 _ ?_
      refine zf ⟨?_⟩
      rw [hh]
      exact ret_pure rfl (by rw [← hR, hst]; (try simp at hc2); first | (simp [hc2]; done) | (rcases hc2 with h | h <;> simp [h]; done) | (simp_all; done)) (.inl rfl)
     ·intro hc2
      refine v_skip ?_
      refine n19 _ ?_
      refine n18 _ _ (weak_keep [1, 32, 33, 34] _) ?_
      refine zk ⟨?_⟩
      refine v_region ?_; intro K27 k27
      refine zBinOpW ⟨?_⟩
      refine zMove ⟨?_⟩
      refine k27 _ ?_
      refine n13 _ (i + 1) ?_ ?_ ?_
      ·refine weak_bothS [1, 32, 33, 34] [0] ⟨?_⟩
       rfl
      ·exact ⟨by omega, by rw [← hR, hst]; (try simp at hc2); first | (simp [hc2]; done) | (simp_all; done)⟩
      ·show _ < _; omega
    ·skip
     obtain ⟨y, hy⟩ : ∃ y, x3[i - 1]? = some y := ⟨_, List.getElem?_eq_getElem (by omega)⟩
     have hi0 : (0 : Int) < i := by omega
     have hk : ((i : Int) - 1).toNat = i - 1 := by omega
     have hst := chain_succ (ok := nameB) (bf := strLt) h0 hy hx
     refine v_skip ?_
     refine n16 _ _ (weak_keep [1, 32, 33, 34] _) ?_
     refine zk ⟨?_⟩
     refine v_seq ?_; intro Q28 n28 e28 r28
     refine v_block ?_; intro Q29 n29 x29 e29 r29
     refine v_seq ?_; intro Q30 n30 e30 r30
     refine v_region ?_; intro K31 k31
     have F := Fc.mk (And.intro (fun f => getD_map (f := f) hx) (And.intro hi0 (And.intro hk (And.intro (fun f => getD_map (f := f) hy) (And.intro @decide_true @Bool.and_true)))))
     refine zMove ⟨?_⟩
     refine zIndexAddr ⟨?_⟩
     refine zLoad ⟨?_⟩
     refine zAssign ⟨?_⟩
     refine zAssign ⟨?_⟩
     refine k31 _ ?_
     refine n30 _ _ (weak_keep [1, 3, 4, 32, 33, 34] _) ?_
     refine zk ⟨?_⟩
     refine v_seq ?_; intro Q32 n32 e32 r32
     refine v_region ?_; intro K33 k33
     refine zMove ⟨?_⟩
     refine zc (isName_con s hsx) ⟨?_⟩
     refine zUnOp ⟨?_⟩
     refine zMove ⟨?_⟩
     refine zgMove ⟨?_⟩
     refine zgBinOp ⟨?_⟩
     refine zgMove ⟨?_⟩
     refine zgFieldAddr ⟨?_⟩
     refine zgLoad ⟨?_⟩
     refine zgMove ⟨?_⟩
     refine zgBinOpW ⟨?_⟩
     refine zgIndexAddr ⟨?_⟩
     refine zgLoad ⟨?_⟩
     refine zgMove ⟨?_⟩
     refine zgBinOp ⟨?_⟩
     refine zgPick ⟨?_⟩
     refine zPick ⟨?_⟩
     refine k33 _ ?_
     refine n32 _ _ (weak_keep [1, 32, 33, 34, 55] _) ?_
     refine zk ⟨?_⟩
     refine v_condS _ rfl ?_ ?_
     ·intro hc2
      refine v_seq ?_; intro Q35 n35 e35 r35
      refine v_region ?_; intro K36 k36
      refine zAssign ⟨?_⟩
      refine k36 _ ?_
      refine n35 _ _ (weak_keep [2] _) ?_
      refine zk ⟨?_⟩
      refine v_ret ?_
      refine r29 _ ?_
      refine r28 _ ?_
      refine r13 _ ?_
      refine r12 _ ?_
      refine r9 _ ?_
      refine r0 _ ?_
      refine zf ⟨?_⟩
      rw [hh]
      exact ret_pure rfl (by rw [← hR, hst]; (try simp at hc2); first | (simp [hc2]; done) | (rcases hc2 with h | h <;> simp [h]; done) | (simp_all; done)) (.inl rfl)
     ·intro hc2
      refine v_skip ?_
      refine n29 _ ?_
      refine n28 _ _ (weak_keep [1, 32, 33, 34] _) ?_
      refine zk ⟨?_⟩
      refine v_region ?_; intro K37 k37
      refine zBinOpW ⟨?_⟩
      refine zMove ⟨?_⟩
      refine k37 _ ?_
      refine n13 _ (i + 1) ?_ ?_ ?_
      ·refine weak_bothS [1, 32, 33, 34] [0] ⟨?_⟩
       rfl
      ·exact ⟨by omega, by rw [← hR, hst]; (try simp at hc2); first | (simp [hc2]; done) | (simp_all; done)⟩
      ·show _ < _; omega
   ·intro hc1
    refine v_exit ?_
    refine e16 _ _ ?_
    refine e13 _ _ ?_
    refine x12 _ ?_
    refine n9 _ _ (weak_keep [] _) ?_
    refine zk ⟨?_⟩
    refine v_seq ?_; intro Q38 n38 e38 r38
    refine v_region ?_; intro K39 k39
    refine zAssign ⟨?_⟩
    refine k39 _ ?_
    refine n38 _ _ (weak_keep [2] _) ?_
    refine zk ⟨?_⟩
    refine v_ret ?_
    refine r0 _ ?_
    refine zf ⟨?_⟩
    rw [hh]
    exact ret_pure rfl (by rw [← hR, chain_end (by omega)]) (.inl rfl)
set_option maxRecDepth 8000 in
set_option maxHeartbeats 1000000 in
theorem ixOne_con (x0 : Int) (x1 : Int) (x2 : Bool) (x3 : List ByteArray) (hsz : ∀ s ∈ x3, s.size ≤ 9223372036854775807) (hnl : x3.length ≤ 1048576) : Con Try.prog 208 [.agg [V.int .i64 x0, V.int .i64 x1, V.bool x2, V.sl (x3.map V.str)]] [] (.bool (incOK (x0, x1, x2, x3))) [] := by
 have hcs := chain_split (ok := nameB) (bf := strLt) (l := x3)
 refine v_con [.tmp 2] [] Try.func208 rfl rfl rfl (by simp [Try.ntmps208]) ?_
 intro Q0 n0 r0
 simp only [Try.ntmps208, envFrom, Nat.reduceAdd]
 have T := Tys.mk (And.intro Ty.t3 (And.intro Ty.t4 (And.intro Ty.t9 (And.intro Ty.t93 Ty.t192))))
 have F := Fc.mk True.intro
 refine v_seq ?_; intro Q1 n1 e1 r1
 refine v_region ?_; intro K2 k2
 refine zBox ⟨?_⟩
 refine zAssign ⟨?_⟩
 refine k2 _ ?_
 refine n1 _ _ (weak_keep [1] _) ?_
 refine zk ⟨?_⟩
 refine v_seq ?_; intro Q3 n3 e3 r3
 refine v_seq ?_; intro Q4 n4 e4 r4
 refine v_region ?_; intro K5 k5
 refine zFieldAddr ⟨?_⟩
 refine zLoad ⟨?_⟩
 refine zc (l1In_con _ _ _) ⟨?_⟩
 refine zUnOp ⟨?_⟩
 refine zMove ⟨?_⟩
 refine zgFieldAddr ⟨?_⟩
 refine zgLoad ⟨?_⟩
 refine zgc (apNode_con _) ⟨?_⟩
 refine zgUnOp ⟨?_⟩
 refine zPick ⟨?_⟩
 refine zMove ⟨?_⟩
 refine zgFieldAddr ⟨?_⟩
 refine zgLoad ⟨?_⟩
 refine zgLen ⟨?_⟩
 refine zgBinOp ⟨?_⟩
 refine zPick ⟨?_⟩
 refine zMove ⟨?_⟩
 refine zgFieldAddr ⟨?_⟩
 refine zgLoad ⟨?_⟩
 refine zgMove ⟨?_⟩
 refine zgFieldAddr ⟨?_⟩
 refine zgLoad ⟨?_⟩
 refine zgLen ⟨?_⟩
 refine zgBinOp ⟨?_⟩
 refine zgPick ⟨?_⟩
 refine zPick ⟨?_⟩
 refine zMove ⟨?_⟩
 refine zgFieldAddr ⟨?_⟩
 refine zgLoad ⟨?_⟩
 refine zgc (dsNames_con x3 hnl) ⟨?_⟩
 refine zgUnOp ⟨?_⟩
 refine v_op ?_; intro K k
 simp only [zE, zP, aStepM, optable, set_some, Nat.reduceEqDiff, reduceIte, Nat.reduceLT, implies_true, forall_const, reduceCtorEq, V.ofValue, V.ofScalar, V.un, V.gd, aExec, aop, pickV]
 repeat (refine And.intro (by first | (intro h; rw [h]; rfl) | omega | (intros; simp_all; done)) ?_)
 refine k _ ?_; clear k K
 refine k5 _ ?_
 refine n4 _ _ (weak_keep [1, 36] _) ?_
 refine zk ⟨?_⟩
 refine v_condS _ rfl ?_ ?_
 ·intro hc0
  have hh : incOK (x0, x1, x2, x3) = false := by
   cases hq : incOK (x0, x1, x2, x3) with
   |false => rfl
   |true =>
    exfalso
    have hq2 : (((decide (1 ≤ x0) && decide (x0 ≤ 999)) && (decide (0 ≤ x1) && decide (x1 ≤ 13)) && !decide (12 < (x3.length : Int)) && !(x2 && decide (0 < (x3.length : Int)))) && chainAt nameB strLt x3 0) = true := hq
    rw [Bool.and_eq_true] at hq2
    have hq3 := hq2.1
    have hq4 : chainAt (fun _ : ByteArray => true) strLt x3 0 = true := by have q := hq2.2; rw [hcs, Bool.and_eq_true] at q; exact q.1
    rw [hq4] at hc0
    generalize (x3.length : Int) = m at hc0 hq3
    clear hq hq2 hq4
    cases x2 <;> simp at hc0 hq3 <;> omega
  refine v_seq ?_; intro Q7 n7 e7 r7
  refine v_region ?_; intro K8 k8
  refine zAssign ⟨?_⟩
  refine k8 _ ?_
  refine n7 _ _ (weak_keep [2] _) ?_
  refine zk ⟨?_⟩
  refine v_ret ?_
  refine r3 _ ?_
  refine r0 _ ?_
  refine zf ⟨?_⟩
  rw [hh]
  exact ret_pure rfl rfl (.inl rfl)
 ·intro hc0
  have hb2 : chainAt (fun _ : ByteArray => true) strLt x3 0 = true := by
   cases q : chainAt (fun _ : ByteArray => true) strLt x3 0 with
   |true => rfl
   |false => (rw [q] at hc0; simp at hc0)
  have hh : incOK (x0, x1, x2, x3) = x3.all nameB := by
   have hb : ((decide (1 ≤ x0) && decide (x0 ≤ 999)) && (decide (0 ≤ x1) && decide (x1 ≤ 13)) && !decide (12 < (x3.length : Int)) && !(x2 && decide (0 < (x3.length : Int)))) = true := by
    rw [hb2] at hc0
    generalize (x3.length : Int) = m at hc0 ⊢
    cases x2 <;> simp at hc0 ⊢ <;> omega
   show (((decide (1 ≤ x0) && decide (x0 ≤ 999)) && (decide (0 ≤ x1) && decide (x1 ≤ 13)) && !decide (12 < (x3.length : Int)) && !(x2 && decide (0 < (x3.length : Int)))) && chainAt nameB strLt x3 0) = _
   rw [hb, hcs, hb2]; rfl
  refine v_skip ?_
  refine n3 _ _ (weak_keep [1] _) ?_
  refine zk ⟨?_⟩
  refine v_seq ?_; intro Q9 n9 e9 r9
  refine v_seq ?_; intro Q10 n10 e10 r10
  refine v_region ?_; intro K11 k11
  refine zFieldAddr ⟨?_⟩
  refine zLoad ⟨?_⟩
  refine zLen ⟨?_⟩
  refine zMove ⟨?_⟩
  refine k11 _ ?_
  refine n10 _ _ (weak_keep [38, 39, 40] _) ?_
  refine zk ⟨?_⟩
  refine v_block ?_; intro Q12 n12 x12 e12 r12
  refine v_loop (fun i => ⟨[(38, .sl (x3.map V.str)), (39, .int .i64 x3.length), (40, .int .i64 (Nat.cast i))], [], false, 48, 0⟩) (fun i => i ≤ x3.length ∧ (x3.drop i).all nameB = x3.all nameB) (fun i => x3.length - i) 0 ?_ ?_ ?_
  ·refine weak_bothS [38, 39, 40] [] ⟨?_⟩
   rfl
  ·exact ⟨Nat.zero_le _, rfl⟩
  ·rintro i hok13 Q13 n13 e13 r13
   obtain ⟨hi1, hR⟩ := hok13
   refine v_seq ?_; intro Q14 n14 e14 r14
   refine v_region ?_; intro K15 k15
   refine zBinOp ⟨?_⟩
   refine k15 _ ?_
   refine n14 _ _ (weak_keep [38, 39, 40, 41] _) ?_
   refine zk ⟨?_⟩
   refine v_seq ?_; intro Q16 n16 e16 r16
   refine v_condS _ rfl ?_ ?_
   ·intro hc1
    have hlt : i < x3.length := by omega
    obtain ⟨s, hx⟩ : ∃ s, x3[i]? = some s := ⟨_, List.getElem?_eq_getElem hlt⟩
    have hsx := hsz s (List.mem_of_getElem? hx)
    have hst := all_step (p := nameB) hx
    refine v_skip ?_
    refine n16 _ _ (weak_keep [38, 39, 40] _) ?_
    refine zk ⟨?_⟩
    refine v_seq ?_; intro Q18 n18 e18 r18
    refine v_block ?_; intro Q19 n19 x19 e19 r19
    refine v_seq ?_; intro Q20 n20 e20 r20
    refine v_region ?_; intro K21 k21
    have F := Fc.mk (fun f => getD_map (f := f) hx)
    refine zIndexAddr ⟨?_⟩
    refine zLoad ⟨?_⟩
    refine zAssign ⟨?_⟩
    refine k21 _ ?_
    refine n20 _ _ (weak_keep [4, 38, 39, 40] _) ?_
    refine zk ⟨?_⟩
    refine v_seq ?_; intro Q22 n22 e22 r22
    refine v_region ?_; intro K23 k23
    refine zMove ⟨?_⟩
    refine zc (apName_con s hsx) ⟨?_⟩
    refine zUnOp ⟨?_⟩
    refine k23 _ ?_
    refine n22 _ _ (weak_keep [38, 39, 40, 46] _) ?_
    refine zk ⟨?_⟩
    refine v_condS _ rfl ?_ ?_
    ·intro hc2
     refine v_seq ?_; intro Q25 n25 e25 r25
     refine v_region ?_; intro K26 k26
     refine zAssign ⟨?_⟩
     refine k26 _ ?_
     refine n25 _ _ (weak_keep [2] _) ?_
     refine zk ⟨?_⟩
     refine v_ret ?_
     refine r19 _ ?_
     refine r18 _ ?_
     refine r13 _ ?_
     refine r12 _ ?_
     refine r9 _ ?_
     refine r0 _ ?_
     refine zf ⟨?_⟩
     rw [hh]
     exact ret_pure rfl (by rw [← hR, hst]; simp [hc2]) (.inl rfl)
    ·intro hc2
     refine v_skip ?_
     refine n19 _ ?_
     refine n18 _ _ (weak_keep [38, 39, 40] _) ?_
     refine zk ⟨?_⟩
     refine v_region ?_; intro K27 k27
     refine zBinOpW ⟨?_⟩
     refine zMove ⟨?_⟩
     refine k27 _ ?_
     refine n13 _ (i + 1) ?_ ?_ ?_
     ·refine weak_bothS [38, 39, 40] [] ⟨?_⟩
      rfl
     ·exact ⟨by omega, by rw [← hR, hst]; simp [hc2]⟩
     ·show _ < _; omega
   ·intro hc1
    refine v_exit ?_
    refine e16 _ _ ?_
    refine e13 _ _ ?_
    refine x12 _ ?_
    refine n9 _ _ (weak_keep [] _) ?_
    refine zk ⟨?_⟩
    refine v_seq ?_; intro Q28 n28 e28 r28
    refine v_region ?_; intro K29 k29
    refine zAssign ⟨?_⟩
    refine k29 _ ?_
    refine n28 _ _ (weak_keep [2] _) ?_
    refine zk ⟨?_⟩
    refine v_ret ?_
    refine r0 _ ?_
    refine zf ⟨?_⟩
    rw [hh]
    exact ret_pure rfl (by rw [← hR, all_end (by omega)]) (.inl rfl)
set_option maxHeartbeats 1000000 in
theorem openAt1_con (x0 : Int) (x1 : Int) (x2 : Bool) (x3 : List ByteArray) (n : Int) : Con Try.prog 212 [.agg [V.int .i64 x0, V.int .i64 x1, V.bool x2, V.sl (x3.map V.str)], .pv [.int .i64 n] 0 0] [] (.bool (decide (x0 = n) && !x2)) [] := by
 refine v_con [.tmp 3] [] Try.func212 rfl rfl rfl (by simp [Try.ntmps212]) ?_
 intro Q0 n0 r0
 simp only [Try.ntmps212, envFrom, Nat.reduceAdd]
 have T := Tys.mk (And.intro Ty.t3 (And.intro Ty.t4 (And.intro Ty.t9 (And.intro Ty.t93 Ty.t192))))
 have F := Fc.mk True.intro
 refine v_seq ?_; intro Q1 n1 e1 r1
 refine v_region ?_; intro K2 k2
 refine zBox ⟨?_⟩
 refine zAssign ⟨?_⟩
 refine k2 _ ?_
 refine n1 _ _ (weak_keep [1, 2] _) ?_
 refine zk ⟨?_⟩
 refine v_seq ?_; intro Q3 n3 e3 r3
 refine v_region ?_; intro K4 k4
 refine zFieldAddr ⟨?_⟩
 refine zLoad ⟨?_⟩
 refine zLoad ⟨?_⟩
 refine zBinOp ⟨?_⟩
 refine zMove ⟨?_⟩
 refine zgFieldAddr ⟨?_⟩
 refine zgLoad ⟨?_⟩
 refine zgUnOp ⟨?_⟩
 refine zPick ⟨?_⟩
 refine zAssign ⟨?_⟩
 refine k4 _ ?_
 refine n3 _ _ (weak_keep [3] _) ?_
 refine zk ⟨?_⟩
 refine v_ret ?_
 refine r0 _ ?_
 refine zf ⟨?_⟩
 exact ret_pure rfl (by first | rfl | simp) (.inl rfl)
set_option maxHeartbeats 1000000 in
theorem openAt_con (l : List (Int × Int × Bool × List ByteArray)) (n : Int) (hl : l.length ≤ 1048576) : Con Try.prog 192 [.sl (l.map (fun t : Int × Int × Bool × List ByteArray => V.agg [V.int .i64 t.1, V.int .i64 t.2.1, V.bool t.2.2.1, V.sl (t.2.2.2.map V.str)])), .int .i64 n] [] (.int .i64 (openF l n)) [] := by
 refine v_con [.tmp 4] [] Try.func192 rfl rfl rfl (by simp [Try.ntmps192]) ?_
 intro Q0 n0 r0
 simp only [Try.ntmps192, envFrom, Nat.reduceAdd]
 have T := Tys.mk (And.intro Ty.t3 (And.intro Ty.t4 (And.intro Ty.t9 (And.intro Ty.t84 (And.intro Ty.t93 Ty.t192)))))
 have F := Fc.mk True.intro
 refine v_seq ?_; intro Q1 n1 e1 r1
 refine v_region ?_; intro K2 k2
 refine zBox ⟨?_⟩
 refine zAssign ⟨?_⟩
 refine k2 _ ?_
 refine n1 _ _ (weak_keep [0, 3] _) ?_
 refine zk ⟨?_⟩
 refine v_seq ?_; intro Q3 n3 e3 r3
 refine v_region ?_; intro K4 k4
 refine zMove ⟨?_⟩
 refine zMakeFunc ⟨?_⟩
 refine zc (indexFuncIncident_con l _ _ (fun x => decide (x.1 = n) && !x.2.2.1) hl (.pv _ .nil) (fun x0 x1 x2 x3 _ => openAt1_con x0 x1 x2 x3 n)) ⟨?_⟩
 refine zAssign ⟨?_⟩
 refine k4 _ ?_
 refine n3 _ _ (weak_keep [4] _) ?_
 refine zk ⟨?_⟩
 refine v_ret ?_
 refine r0 _ ?_
 refine zf ⟨?_⟩
 exact ret_pure rfl rfl (.inl rfl)
set_option maxHeartbeats 1000000 in
theorem committedAt1_con (x0 : Int) (x1 : Int) (x2 : Bool) (x3 : List ByteArray) (s : ByteArray) (hlx : x3.length ≤ 1048576) : Con Try.prog 211 [.agg [V.int .i64 x0, V.int .i64 x1, V.bool x2, V.sl (x3.map V.str)], .pv [.str s] 0 0] [] (.bool (inS s x3)) [] := by
 refine v_con [.tmp 3] [] Try.func211 rfl rfl rfl (by simp [Try.ntmps211]) ?_
 intro Q0 n0 r0
 simp only [Try.ntmps211, envFrom, Nat.reduceAdd]
 have T := Tys.mk (And.intro Ty.t3 (And.intro Ty.t4 (And.intro Ty.t9 (And.intro Ty.t93 Ty.t192))))
 have F := Fc.mk True.intro
 refine v_seq ?_; intro Q1 n1 e1 r1
 refine v_region ?_; intro K2 k2
 refine zBox ⟨?_⟩
 refine zAssign ⟨?_⟩
 refine k2 _ ?_
 refine n1 _ _ (weak_keep [1, 2] _) ?_
 refine zk ⟨?_⟩
 refine v_seq ?_; intro Q3 n3 e3 r3
 refine v_region ?_; intro K4 k4
 refine zFieldAddr ⟨?_⟩
 refine zLoad ⟨?_⟩
 refine zLoad ⟨?_⟩
 refine zc (slContainsS_con x3 s hlx) ⟨?_⟩
 refine zAssign ⟨?_⟩
 refine k4 _ ?_
 refine n3 _ _ (weak_keep [3] _) ?_
 refine zk ⟨?_⟩
 refine v_ret ?_
 refine r0 _ ?_
 refine zf ⟨?_⟩
 exact ret_pure rfl rfl (.inl rfl)
set_option maxHeartbeats 1000000 in
theorem committedAt_con (l : List (Int × Int × Bool × List ByteArray)) (s : ByteArray) (hl : l.length ≤ 1048576) (hli : ∀ x ∈ l, x.2.2.2.length ≤ 1048576) : Con Try.prog 191 [.sl (l.map (fun t : Int × Int × Bool × List ByteArray => V.agg [V.int .i64 t.1, V.int .i64 t.2.1, V.bool t.2.2.1, V.sl (t.2.2.2.map V.str)])), .str s] [] (.int .i64 (commF l s)) [] := by
 refine v_con [.tmp 4] [] Try.func191 rfl rfl rfl (by simp [Try.ntmps191]) ?_
 intro Q0 n0 r0
 simp only [Try.ntmps191, envFrom, Nat.reduceAdd]
 have T := Tys.mk (And.intro Ty.t3 (And.intro Ty.t4 (And.intro Ty.t9 (And.intro Ty.t84 (And.intro Ty.t93 Ty.t192)))))
 have F := Fc.mk True.intro
 refine v_seq ?_; intro Q1 n1 e1 r1
 refine v_region ?_; intro K2 k2
 refine zBox ⟨?_⟩
 refine zAssign ⟨?_⟩
 refine k2 _ ?_
 refine n1 _ _ (weak_keep [0, 3] _) ?_
 refine zk ⟨?_⟩
 refine v_seq ?_; intro Q3 n3 e3 r3
 refine v_region ?_; intro K4 k4
 refine zMove ⟨?_⟩
 refine zMakeFunc ⟨?_⟩
 refine zc (indexFuncIncident_con l _ _ (fun x => inS s x.2.2.2) hl (.pv _ .nil) (fun x0 x1 x2 x3 hm => committedAt1_con x0 x1 x2 x3 s (hli _ hm))) ⟨?_⟩
 refine zAssign ⟨?_⟩
 refine k4 _ ?_
 refine n3 _ _ (weak_keep [4] _) ?_
 refine zk ⟨?_⟩
 refine v_ret ?_
 refine r0 _ ?_
 refine zf ⟨?_⟩
 exact ret_pure rfl rfl (.inl rfl)
set_option maxHeartbeats 1000000 in
theorem ixFind_con (l : List (Int × Int × Bool × List ByteArray)) (n : Int) (hl : l.length ≤ 1048576) : Con Try.prog 186 [.sl (l.map (fun t : Int × Int × Bool × List ByteArray => V.agg [V.int .i64 t.1, V.int .i64 t.2.1, V.bool t.2.2.1, V.sl (t.2.2.2.map V.str)])), .int .i64 n] [] (.int .i64 (openF l n)) [] := by
 refine v_con [.tmp 4] [] Try.func186 rfl rfl rfl (by simp [Try.ntmps186]) ?_
 intro Q0 n0 r0
 simp only [Try.ntmps186, envFrom, Nat.reduceAdd]
 have T := Tys.mk (And.intro Ty.t3 (And.intro Ty.t4 (And.intro Ty.t9 (And.intro Ty.t84 (And.intro Ty.t93 Ty.t192)))))
 have F := Fc.mk True.intro
 refine v_seq ?_; intro Q1 n1 e1 r1
 refine v_region ?_; intro K2 k2
 refine zAssign ⟨?_⟩
 refine k2 _ ?_
 refine n1 _ _ (weak_keep [0, 1] _) ?_
 refine zk ⟨?_⟩
 refine v_seq ?_; intro Q3 n3 e3 r3
 refine v_seq ?_; intro Q4 n4 e4 r4
 refine v_region ?_; intro K5 k5
 refine zMove ⟨?_⟩
 refine zLen ⟨?_⟩
 refine zMove ⟨?_⟩
 refine k5 _ ?_
 refine n4 _ _ (weak_keep [1, 7, 8, 9] _) ?_
 refine zk ⟨?_⟩
 refine v_block ?_; intro Q6 n6 x6 e6 r6
 refine v_loop (fun i => ⟨[(1, .int .i64 n), (7, .sl (l.map (fun t : Int × Int × Bool × List ByteArray => V.agg [V.int .i64 t.1, V.int .i64 t.2.1, V.bool t.2.2.1, V.sl (t.2.2.2.map V.str)]))), (8, .int .i64 l.length), (9, .int .i64 (Nat.cast i))], [], false, 25, 0⟩) (fun i => i ≤ l.length ∧ firstP (fun x : (Int × Int × Bool × List ByteArray) => decide (x.1 = n) && !x.2.2.1) i (l.drop i) = firstP (fun x : (Int × Int × Bool × List ByteArray) => decide (x.1 = n) && !x.2.2.1) 0 l) (fun i => l.length - i) 0 ?_ ?_ ?_
 ·refine weak_of [1, 7, 8, 9] ?_
  simp only [keep_mk, keepE_nil, keepE_cons, look_cons, look_nil, Nat.reduceEqDiff, reduceIte]
  rfl
 ·exact ⟨Nat.zero_le _, rfl⟩
 ·rintro i hok7 Q7 n7 e7 r7
  obtain ⟨hi1, hR⟩ := hok7
  refine v_seq ?_; intro Q8 n8 e8 r8
  refine v_region ?_; intro K9 k9
  refine zBinOp ⟨?_⟩
  refine k9 _ ?_
  refine n8 _ _ (weak_keep [1, 7, 8, 9, 10] _) ?_
  refine zk ⟨?_⟩
  refine v_seq ?_; intro Q10 n10 e10 r10
  refine v_condS _ rfl ?_ ?_
  ·intro hc0
   have hlt : i < l.length := by omega
   obtain ⟨⟨x0, x1, x2, x3⟩, hx⟩ : ∃ x : Int × Int × Bool × List ByteArray, l[i]? = some x := ⟨l[i]'(by omega), List.getElem?_eq_getElem (by omega)⟩
   have hst := first_step (p := fun x : (Int × Int × Bool × List ByteArray) => decide (x.1 = n) && !x.2.2.1) hx
   refine v_skip ?_
   refine n10 _ _ (weak_keep [1, 7, 8, 9] _) ?_
   refine zk ⟨?_⟩
   refine v_seq ?_; intro Q12 n12 e12 r12
   refine v_block ?_; intro Q13 n13 x13 e13 r13
   refine v_seq ?_; intro Q14 n14 e14 r14
   refine v_region ?_; intro K15 k15
   have F := Fc.mk (fun f => getD_map (f := f) hx)
   refine zMove ⟨?_⟩
   refine zIndexAddr ⟨?_⟩
   refine zLoad ⟨?_⟩
   refine zAlloc ⟨?_⟩
   refine zAssign ⟨?_⟩
   refine zStore ⟨?_⟩
   refine k15 _ ?_
   refine n14 _ _ (weak_keep [1, 5, 6, 7, 8, 9] _) ?_
   refine zk ⟨?_⟩
   refine v_seq ?_; intro Q16 n16 e16 r16
   refine v_region ?_; intro K17 k17
   refine zFieldAddr ⟨?_⟩
   refine zLoad ⟨?_⟩
   refine zMove ⟨?_⟩
   refine zBinOp ⟨?_⟩
   refine zMove ⟨?_⟩
   refine zgFieldAddr ⟨?_⟩
   refine zgLoad ⟨?_⟩
   refine zgUnOp ⟨?_⟩
   refine zPick ⟨?_⟩
   refine k17 _ ?_
   refine n16 _ _ (weak_keep [1, 5, 7, 8, 9, 22] _) ?_
   refine zk ⟨?_⟩
   refine v_condS _ rfl ?_ ?_
   ·intro hc1
    refine v_seq ?_; intro Q19 n19 e19 r19
    refine v_region ?_; intro K20 k20
    refine zMove ⟨?_⟩
    refine zAssign ⟨?_⟩
    refine k20 _ ?_
    refine n19 _ _ (weak_keep [4] _) ?_
    refine zk ⟨?_⟩
    refine v_ret ?_
    refine r13 _ ?_
    refine r12 _ ?_
    refine r7 _ ?_
    refine r6 _ ?_
    refine r3 _ ?_
    refine r0 _ ?_
    refine zf ⟨?_⟩
    exact ret_pure rfl (by rw [openF, ← hR, hst, if_pos (by simpa using hc1)]) (.inl rfl)
   ·intro hc1
    refine v_skip ?_
    refine n13 _ ?_
    refine n12 _ _ (weak_keep [1, 7, 8, 9] _) ?_
    refine zk ⟨?_⟩
    refine v_region ?_; intro K21 k21
    refine zBinOpW ⟨?_⟩
    refine zMove ⟨?_⟩
    refine k21 _ ?_
    refine n7 _ (i + 1) ?_ ?_ ?_
    ·refine weak_bothS [1, 7, 8, 9] [] ⟨?_⟩
     rfl
    ·exact ⟨by omega, by rw [← hR, hst, if_neg (by simpa using hc1)]⟩
    ·show _ < _; omega
  ·intro hc0
   refine v_exit ?_
   refine e10 _ _ ?_
   refine e7 _ _ ?_
   refine x6 _ ?_
   refine n3 _ _ (weak_keep [] _) ?_
   refine zk ⟨?_⟩
   refine v_seq ?_; intro Q22 n22 e22 r22
   refine v_region ?_; intro K23 k23
   refine zAssign ⟨?_⟩
   refine k23 _ ?_
   refine n22 _ _ (weak_keep [4] _) ?_
   refine zk ⟨?_⟩
   refine v_ret ?_
   refine r0 _ ?_
   refine zf ⟨?_⟩
   exact ret_pure rfl (by rw [openF, ← hR, first_end (by omega)]) (.inl rfl)
set_option maxHeartbeats 1000000 in
theorem ixOf_con (l : List (Int × Int × Bool × List ByteArray)) (s : ByteArray) (hl : l.length ≤ 1048576) (hli : ∀ x ∈ l, x.2.2.2.length ≤ 1048576) : Con Try.prog 185 [.sl (l.map (fun t : Int × Int × Bool × List ByteArray => V.agg [V.int .i64 t.1, V.int .i64 t.2.1, V.bool t.2.2.1, V.sl (t.2.2.2.map V.str)])), .str s] [] (.int .i64 (commF l s)) [] := by
 refine v_con [.tmp 4] [] Try.func185 rfl rfl rfl (by simp [Try.ntmps185]) ?_
 intro Q0 n0 r0
 simp only [Try.ntmps185, envFrom, Nat.reduceAdd]
 have T := Tys.mk (And.intro Ty.t3 (And.intro Ty.t4 (And.intro Ty.t9 (And.intro Ty.t84 (And.intro Ty.t93 Ty.t192)))))
 have F := Fc.mk True.intro
 refine v_seq ?_; intro Q1 n1 e1 r1
 refine v_region ?_; intro K2 k2
 refine zAssign ⟨?_⟩
 refine k2 _ ?_
 refine n1 _ _ (weak_keep [0, 1] _) ?_
 refine zk ⟨?_⟩
 refine v_seq ?_; intro Q3 n3 e3 r3
 refine v_seq ?_; intro Q4 n4 e4 r4
 refine v_region ?_; intro K5 k5
 refine zMove ⟨?_⟩
 refine zLen ⟨?_⟩
 refine zMove ⟨?_⟩
 refine k5 _ ?_
 refine n4 _ _ (weak_keep [1, 7, 8, 9] _) ?_
 refine zk ⟨?_⟩
 refine v_block ?_; intro Q6 n6 x6 e6 r6
 refine v_loop (fun i => ⟨[(1, .str s), (7, .sl (l.map (fun t : Int × Int × Bool × List ByteArray => V.agg [V.int .i64 t.1, V.int .i64 t.2.1, V.bool t.2.2.1, V.sl (t.2.2.2.map V.str)]))), (8, .int .i64 l.length), (9, .int .i64 (Nat.cast i))], [], false, 20, 0⟩) (fun i => i ≤ l.length ∧ firstP (fun x : (Int × Int × Bool × List ByteArray) => inS s x.2.2.2) i (l.drop i) = firstP (fun x : (Int × Int × Bool × List ByteArray) => inS s x.2.2.2) 0 l) (fun i => l.length - i) 0 ?_ ?_ ?_
 ·refine weak_of [1, 7, 8, 9] ?_
  simp only [keep_mk, keepE_nil, keepE_cons, look_cons, look_nil, Nat.reduceEqDiff, reduceIte]
  rfl
 ·exact ⟨Nat.zero_le _, rfl⟩
 ·rintro i hok7 Q7 n7 e7 r7
  obtain ⟨hi1, hR⟩ := hok7
  refine v_seq ?_; intro Q8 n8 e8 r8
  refine v_region ?_; intro K9 k9
  refine zBinOp ⟨?_⟩
  refine k9 _ ?_
  refine n8 _ _ (weak_keep [1, 7, 8, 9, 10] _) ?_
  refine zk ⟨?_⟩
  refine v_seq ?_; intro Q10 n10 e10 r10
  refine v_condS _ rfl ?_ ?_
  ·intro hc0
   have hlt : i < l.length := by omega
   obtain ⟨⟨x0, x1, x2, x3⟩, hx⟩ : ∃ x : Int × Int × Bool × List ByteArray, l[i]? = some x := ⟨l[i]'(by omega), List.getElem?_eq_getElem (by omega)⟩
   have hlx := hli _ (List.mem_of_getElem? hx)
   simp only [] at hlx
   have hst := first_step (p := fun x : (Int × Int × Bool × List ByteArray) => inS s x.2.2.2) hx
   refine v_skip ?_
   refine n10 _ _ (weak_keep [1, 7, 8, 9] _) ?_
   refine zk ⟨?_⟩
   refine v_seq ?_; intro Q12 n12 e12 r12
   refine v_block ?_; intro Q13 n13 x13 e13 r13
   refine v_seq ?_; intro Q14 n14 e14 r14
   refine v_region ?_; intro K15 k15
   have F := Fc.mk (fun f => getD_map (f := f) hx)
   refine zMove ⟨?_⟩
   refine zIndexAddr ⟨?_⟩
   refine zLoad ⟨?_⟩
   refine zAlloc ⟨?_⟩
   refine zAssign ⟨?_⟩
   refine zStore ⟨?_⟩
   refine k15 _ ?_
   refine n14 _ _ (weak_keep [1, 5, 6, 7, 8, 9] _) ?_
   refine zk ⟨?_⟩
   refine v_seq ?_; intro Q16 n16 e16 r16
   refine v_region ?_; intro K17 k17
   refine zFieldAddr ⟨?_⟩
   refine zLoad ⟨?_⟩
   refine zMove ⟨?_⟩
   refine zc (dsHas_con x3 s hlx) ⟨?_⟩
   refine k17 _ ?_
   refine n16 _ _ (weak_keep [1, 5, 7, 8, 9, 17] _) ?_
   refine zk ⟨?_⟩
   refine v_condS _ rfl ?_ ?_
   ·intro hc1
    refine v_seq ?_; intro Q19 n19 e19 r19
    refine v_region ?_; intro K20 k20
    refine zMove ⟨?_⟩
    refine zAssign ⟨?_⟩
    refine k20 _ ?_
    refine n19 _ _ (weak_keep [4] _) ?_
    refine zk ⟨?_⟩
    refine v_ret ?_
    refine r13 _ ?_
    refine r12 _ ?_
    refine r7 _ ?_
    refine r6 _ ?_
    refine r3 _ ?_
    refine r0 _ ?_
    refine zf ⟨?_⟩
    exact ret_pure rfl (by rw [commF, ← hR, hst, if_pos hc1]) (.inl rfl)
   ·intro hc1
    refine v_skip ?_
    refine n13 _ ?_
    refine n12 _ _ (weak_keep [1, 7, 8, 9] _) ?_
    refine zk ⟨?_⟩
    refine v_region ?_; intro K21 k21
    refine zBinOpW ⟨?_⟩
    refine zMove ⟨?_⟩
    refine k21 _ ?_
    refine n7 _ (i + 1) ?_ ?_ ?_
    ·refine weak_bothS [1, 7, 8, 9] [] ⟨?_⟩
     rfl
    ·exact ⟨by omega, by rw [← hR, hst, if_neg (by simp [hc1])]⟩
    ·show _ < _; omega
  ·intro hc0
   refine v_exit ?_
   refine e10 _ _ ?_
   refine e7 _ _ ?_
   refine x6 _ ?_
   refine n3 _ _ (weak_keep [] _) ?_
   refine zk ⟨?_⟩
   refine v_seq ?_; intro Q22 n22 e22 r22
   refine v_region ?_; intro K23 k23
   refine zAssign ⟨?_⟩
   refine k23 _ ?_
   refine n22 _ _ (weak_keep [4] _) ?_
   refine zk ⟨?_⟩
   refine v_ret ?_
   refine r0 _ ?_
   refine zf ⟨?_⟩
   exact ret_pure rfl (by rw [commF, ← hR, first_end (by omega)]) (.inl rfl)
end Go.Proofs.Ytdgenniiidgimaa
