/- What functions compute. No condition. -/
import Derived.Test.YtbameklegpgkfaaDoorUty
import Derived.Test.YtbameklegpgkfaaDoorUmG
import Derived.Test.YtbameklegpgkfaaDoorX8
import Derived.Test.YtbameklegpgkfaaDoorX7
import Derived.Test.YtbameklegpgkfaaDoorX20
set_option linter.unusedSimpArgs false
set_option linter.unusedVariables false
set_option linter.defProp false
namespace Go.Proofs.YtbameklegpgkfaaDoor
open Go Go.Vm

def tText (x : (Int × ByteArray × Int × Int)) : ByteArray := numB x.1.toNat ++ (⟨#[47]⟩ : ByteArray) ++ x.2.1 ++ (⟨#[47]⟩ : ByteArray) ++ numB x.2.2.1.toNat ++ (⟨#[43]⟩ : ByteArray) ++ numB (tTime x).toNat ++ (⟨#[59]⟩ : ByteArray)
def tTexts (l : List (Int × ByteArray × Int × Int)) : ByteArray := l.foldl (fun s x => s ++ tText x) .empty
def tTextR (l : List (Int × ByteArray × Int × Int)) : ByteArray := if turnsB l = true then tTexts l else .empty
theorem tTexts_step {l : List (Int × ByteArray × Int × Int)} {i : Nat} {x : (Int × ByteArray × Int × Int)} (h : l[i]? = some x) : tTexts (l.take (i + 1)) = tTexts (l.take i) ++ tText x := by
  rw [tTexts, List.take_add_one, h, List.foldl_append]; rfl
theorem tText_facts {l : List (Int × ByteArray × Int × Int)} (h : turnsB l = true) {x : (Int × ByteArray × Int × Int)} (hx : x ∈ l) : (0 ≤ x.1 ∧ x.1 < 1000) ∧ (0 ≤ x.2.2.1 ∧ x.2.2.1 < 1000000) ∧ (tTime x = x.2.2.2 - x.2.2.1 ∧ 0 ≤ tTime x ∧ tTime x < 1000000) ∧ x.2.1.size ≤ 6 := by
  rw [turnsB, Bool.and_eq_true] at h
  have ho := chain_ok h.1 x hx
  simp only [tOne, nameB, Bool.and_eq_true, decide_eq_true_eq] at ho
  have e : tTime x = x.2.2.2 - x.2.2.1 := by
    simp only [tTime]
    rw [wrap64] <;> omega
  rw [e]
  omega
theorem tText_parts {x : (Int × ByteArray × Int × Int)} (h : (0 ≤ x.1 ∧ x.1 < 1000) ∧ (0 ≤ x.2.2.1 ∧ x.2.2.1 < 1000000) ∧ (tTime x = x.2.2.2 - x.2.2.1 ∧ 0 ≤ tTime x ∧ tTime x < 1000000) ∧ x.2.1.size ≤ 6) : (numB x.1.toNat).size ≤ 3 ∧ (numB x.2.2.1.toNat).size ≤ 6 ∧ (numB (tTime x).toNat).size ≤ 6 :=
  ⟨numB_size 3 _ (by omega) (by omega), numB_size 6 _ (by omega) (by omega), numB_size 6 _ (by omega) (by omega)⟩
theorem tText_size {x : (Int × ByteArray × Int × Int)} (h : (0 ≤ x.1 ∧ x.1 < 1000) ∧ (0 ≤ x.2.2.1 ∧ x.2.2.1 < 1000000) ∧ (tTime x = x.2.2.2 - x.2.2.1 ∧ 0 ≤ tTime x ∧ tTime x < 1000000) ∧ x.2.1.size ≤ 6) : (tText x).size ≤ 25 := by
  have h1 := tText_parts h
  have e : ∀ b : UInt8, (ByteArray.mk #[b]).size = 1 := fun _ => rfl
  simp only [tText, ByteArray.size_append, e]
  omega

set_option maxHeartbeats 1000000 in
theorem specTurnoutsText_con (l : List (Int × ByteArray × Int × Int)) (hl : l.length ≤ 1048576) (hls : ∀ t ∈ l, t.2.1.size ≤ 9223372036854775807) : Con Tryd.prog 47 [.sl (l.map (fun t : Int × ByteArray × Int × Int => V.agg [V.int .i64 t.1, V.str t.2.1, V.int .i64 t.2.2.1, V.int .i64 t.2.2.2]))] [] (.tup [.str (tTextR l), .bool (turnsB l)]) [] := by
 refine v_con [.tmp 2, .tmp 3] [] Tryd.func47 rfl rfl rfl (by simp [Tryd.ntmps47]) ?_
 intro Q0 n0 r0
 simp only [Tryd.ntmps47, envFrom, Nat.reduceAdd]
 have T := Tys.mk (And.intro Ty.t3 (And.intro Ty.t4 (And.intro Ty.t9 (And.intro Ty.t48 Ty.t62))))
 have F := Fc.mk True.intro
 refine v_seqR [0] ?_; intro K1 k1
 refine zAssign ⟨?_⟩
 refine zAssign ⟨?_⟩
 refine k1 _ ?_
 refine zk ⟨?_⟩
 refine v_seq ?_; intro Q2 n2 e2 r2
 refine v_seqR [0,9] ?_; intro K3 k3
 refine zMove ⟨?_⟩
 refine zc (dbGood_con l hl hls) ⟨?_⟩
 refine zUnOp ⟨?_⟩
 refine k3 _ ?_
 refine zk ⟨?_⟩
 refine v_condS _ rfl ?_ ?_
 ·intro hc0
  refine v_seqR [2,3] ?_; intro K5 k5
  refine zAssign ⟨?_⟩
  refine zAssign ⟨?_⟩
  refine k5 _ ?_
  refine zk ⟨?_⟩
  refine v_ret ?_
  refine r2 _ ?_
  refine r0 _ ?_
  refine zf ⟨?_⟩
  exact ret_pure rfl (by rw [tTextR, hc0]; rfl) (.inl rfl)
 ·intro hc0
  have hg : turnsB l = true := hc0
  have hll : l.length ≤ 15 := by rw [turnsB, Bool.and_eq_true, decide_eq_true_eq] at hg; omega
  refine v_skip ?_
  refine n2 _ _ (weak_keep [0] _) ?_
  refine zk ⟨?_⟩
  refine v_seqR [0,4] ?_; intro K6 k6
  refine zAssign ⟨?_⟩
  refine k6 _ ?_
  refine zk ⟨?_⟩
  refine v_seq ?_; intro Q7 n7 e7 r7
  refine v_seqR [4,10,11,12] ?_; intro K8 k8
  refine zMove ⟨?_⟩
  refine zLen ⟨?_⟩
  refine zMove ⟨?_⟩
  refine k8 _ ?_
  refine zk ⟨?_⟩
  refine v_block ?_; intro Q9 n9 x9 e9 r9
  refine v_loop (fun p => ⟨[(4, .str p.2), (10, .sl (l.map (fun t : Int × ByteArray × Int × Int => V.agg [V.int .i64 t.1, V.str t.2.1, V.int .i64 t.2.2.1, V.int .i64 t.2.2.2]))), (11, .int .i64 l.length), (12, .int .i64 (Nat.cast p.1))], [], false, 38, 0⟩) (fun p => p.1 ≤ l.length ∧ p.2.size ≤ 25 * p.1 ∧ p.2 = tTexts (l.take p.1)) (fun p => l.length - p.1) ((0, .empty) : Nat × ByteArray) ?_ ?_ ?_
  ·refine weak_of [4, 10, 11, 12] ?_
   simp only [keep_mk, keepE_nil, keepE_cons, look_cons, look_nil, Nat.reduceEqDiff, reduceIte]
   rfl
  ·exact ⟨Nat.zero_le _, Nat.le_refl _, rfl⟩
  ·rintro ⟨i, st⟩ hok10 Q10 n10 e10 r10
   obtain ⟨hi1, hsz, hR⟩ := hok10
   simp only [] at hi1 hsz hR ⊢
   refine v_seqR [4,10,11,12,13] ?_; intro K11 k11
   refine zBinOp ⟨?_⟩
   refine k11 _ ?_
   refine zk ⟨?_⟩
   refine v_seq ?_; intro Q12 n12 e12 r12
   refine v_condS _ rfl ?_ ?_
   ·intro hc1
    have hlt : i < l.length := by omega
    obtain ⟨⟨x0, x1, x2, x3⟩, hx⟩ : ∃ x : Int × ByteArray × Int × Int, l[i]? = some x := ⟨l[i]'(by omega), List.getElem?_eq_getElem (by omega)⟩
    have hf := tText_facts hg (List.mem_of_getElem? hx)
    have hp := tText_parts hf
    have hst := tTexts_step hx
    have hts := tText_size hf
    simp only [] at hf hp hts
    have hte : tTime (x0, x1, x2, x3) = x3 - x2 := hf.2.2.1.1
    have hp3 : (numB (IntKind.i64.wrap (x3 - x2)).toNat).size ≤ 6 := hp.2.2
    have hp4 : (numB (x3 - x2).toNat).size ≤ 6 := by rw [← hte]; exact hp.2.2
    have hz1 : (⟨#[47]⟩ : ByteArray).size = 1 := rfl
    have hz2 : (⟨#[43]⟩ : ByteArray).size = 1 := rfl
    have hz3 : (⟨#[59]⟩ : ByteArray).size = 1 := rfl
    refine v_skip ?_
    refine n12 _ _ (weak_keep [4, 10, 11, 12] _) ?_
    refine zk ⟨?_⟩
    refine v_seq ?_; intro Q14 n14 e14 r14
    refine v_block ?_; intro Q15 n15 x15 e15 r15
    refine v_seqR [4,6,10,11,12] ?_; intro K16 k16
    have F := Fc.mk (And.intro (fun f => getD_map (f := f) hx) (And.intro @ByteArray.size_append (And.intro hz1 (And.intro hz2 hz3))))
    refine zIndexAddr ⟨?_⟩
    refine zLoad ⟨?_⟩
    refine zAlloc ⟨?_⟩
    refine zStore ⟨?_⟩
    refine k16 _ ?_
    refine zk ⟨?_⟩
    refine v_draw (by kernel_rfl) ?_; intro K17 q17 k17
    show aAny _ _ _ _ 21 (Array.replicate 21 false) _
    refine zdMove q17 true 0 16 ?_
    refine zdFieldAddr q17 true 1 17 ?_
    refine zdLoad q17 true 2 18 ?_
    refine zdFieldAddr q17 true 5 21 ?_
    refine zdLoad q17 true 6 22 ?_
    refine zdFieldAddr q17 true 9 25 ?_
    refine zdLoad q17 true 10 26 ?_
    refine zdLoad q17 true 14 30 ?_
    refine zoc 3 (l1Num_con x0 (by omega)) ⟨?_⟩
    refine zdBinOpW q17 true 4 20 ?_
    refine zdBinOpW q17 true 7 23 ?_
    refine zdBinOpW q17 true 8 24 ?_
    refine zoc 11 (l1Num_con x2 (by omega)) ⟨?_⟩
    refine zdBinOpW q17 true 12 28 ?_
    refine zdBinOpW q17 true 13 29 ?_
    refine zoc 15 (dbTime_con x0 x1 x2 x3) ⟨?_⟩
    refine zoc 16 (l1Num_con (IntKind.i64.wrap (x3 - x2)) (by have := hf.2.2.1; simp only [tTime] at this; omega)) ⟨?_⟩
    refine zdBinOpW q17 true 17 33 ?_
    refine zdBinOpW q17 true 18 34 ?_
    refine zdBinOpW q17 true 19 35 ?_
    refine zoAssign 20 ⟨?_⟩
    refine aAny_done (by kernel_rfl) ?_
    refine k17 _ ?_
    refine n15 _ ?_
    refine n14 _ _ (weak_keep [4, 10, 11, 12] _) ?_
    refine zk ⟨?_⟩
    refine v_region ?_; intro K18 k18
    refine zBinOpW ⟨?_⟩
    refine zMove ⟨?_⟩
    refine k18 _ ?_
    refine n10 _ (i + 1, st ++ (numB x0.toNat ++ (⟨#[47]⟩ : ByteArray) ++ x1 ++ (⟨#[47]⟩ : ByteArray) ++ numB x2.toNat ++ (⟨#[43]⟩ : ByteArray) ++ numB (x3 - x2).toNat ++ (⟨#[59]⟩ : ByteArray))) ?_ ?_ ?_
    ·refine weak_bothS [4, 10, 11, 12] [] ⟨?_⟩
     rfl
    ·have hxe : tText (x0, x1, x2, x3) = (numB x0.toNat ++ (⟨#[47]⟩ : ByteArray) ++ x1 ++ (⟨#[47]⟩ : ByteArray) ++ numB x2.toNat ++ (⟨#[43]⟩ : ByteArray) ++ numB (x3 - x2).toNat ++ (⟨#[59]⟩ : ByteArray)) := by simp only [tText, hte]
     exact ⟨hlt, by show ByteArray.size (st ++ _) ≤ 25 * (i + 1); rw [ByteArray.size_append, ← hxe]; omega, by show st ++ _ = _; rw [hst, ← hR, hxe]⟩
    ·show _ < _; show l.length - (i + 1) < l.length - i; omega
   ·intro hc1
    refine v_exit ?_
    refine e12 _ _ ?_
    refine e10 _ _ ?_
    refine x9 _ ?_
    refine n7 _ _ (weak_keep [4] _) ?_
    refine zk ⟨?_⟩
    refine v_seqR [2,3] ?_; intro K19 k19
    refine zMove ⟨?_⟩
    refine zAssign ⟨?_⟩
    refine zAssign ⟨?_⟩
    refine k19 _ ?_
    refine zk ⟨?_⟩
    refine v_ret ?_
    refine r0 _ ?_
    refine zf ⟨?_⟩
    have hend : st = tTexts l := by rw [hR, List.take_of_length_le (by omega)]
    exact ret_pure rfl (by rw [tTextR, hg, hend]; rfl) (.inl rfl)
set_option maxHeartbeats 1000000 in
theorem implTurnoutsText_con (l : List (Int × ByteArray × Int × Int)) (hl : l.length ≤ 1048576) (hls : ∀ t ∈ l, t.2.1.size ≤ 9223372036854775807) : Con Tryd.prog 46 [.sl (l.map (fun t : Int × ByteArray × Int × Int => V.agg [V.int .i64 t.1, V.str t.2.1, V.int .i64 t.2.2.1, V.int .i64 t.2.2.2]))] [] (.tup [.str (tTextR l), .bool (turnsB l)]) [] := by
 refine v_con [.tmp 2, .tmp 3] [] Tryd.func46 rfl rfl rfl (by simp [Tryd.ntmps46]) ?_
 intro Q0 n0 r0
 simp only [Tryd.ntmps46, envFrom, Nat.reduceAdd]
 have T := Tys.mk (And.intro Ty.t3 (And.intro Ty.t4 (And.intro Ty.t9 (And.intro Ty.t48 Ty.t62))))
 have F := Fc.mk True.intro
 refine v_seqR [0] ?_; intro K1 k1
 refine zAssign ⟨?_⟩
 refine zAssign ⟨?_⟩
 refine k1 _ ?_
 refine zk ⟨?_⟩
 refine v_seq ?_; intro Q2 n2 e2 r2
 refine v_seqR [0,9] ?_; intro K3 k3
 refine zMove ⟨?_⟩
 refine zc (areTurnouts_con l hl hls) ⟨?_⟩
 refine zUnOp ⟨?_⟩
 refine k3 _ ?_
 refine zk ⟨?_⟩
 refine v_condS _ rfl ?_ ?_
 ·intro hc0
  refine v_seqR [2,3] ?_; intro K5 k5
  refine zAssign ⟨?_⟩
  refine zAssign ⟨?_⟩
  refine k5 _ ?_
  refine zk ⟨?_⟩
  refine v_ret ?_
  refine r2 _ ?_
  refine r0 _ ?_
  refine zf ⟨?_⟩
  exact ret_pure rfl (by rw [tTextR, hc0]; rfl) (.inl rfl)
 ·intro hc0
  have hg : turnsB l = true := hc0
  have hll : l.length ≤ 15 := by rw [turnsB, Bool.and_eq_true, decide_eq_true_eq] at hg; omega
  refine v_skip ?_
  refine n2 _ _ (weak_keep [0] _) ?_
  refine zk ⟨?_⟩
  refine v_seqR [0,4] ?_; intro K6 k6
  refine zAssign ⟨?_⟩
  refine k6 _ ?_
  refine zk ⟨?_⟩
  refine v_seq ?_; intro Q7 n7 e7 r7
  refine v_seqR [4,10,11,12] ?_; intro K8 k8
  refine zMove ⟨?_⟩
  refine zLen ⟨?_⟩
  refine zMove ⟨?_⟩
  refine k8 _ ?_
  refine zk ⟨?_⟩
  refine v_block ?_; intro Q9 n9 x9 e9 r9
  refine v_loop (fun p => ⟨[(4, .str p.2), (10, .sl (l.map (fun t : Int × ByteArray × Int × Int => V.agg [V.int .i64 t.1, V.str t.2.1, V.int .i64 t.2.2.1, V.int .i64 t.2.2.2]))), (11, .int .i64 l.length), (12, .int .i64 (Nat.cast p.1))], [], false, 41, 0⟩) (fun p => p.1 ≤ l.length ∧ p.2.size ≤ 25 * p.1 ∧ p.2 = tTexts (l.take p.1)) (fun p => l.length - p.1) ((0, .empty) : Nat × ByteArray) ?_ ?_ ?_
  ·refine weak_of [4, 10, 11, 12] ?_
   simp only [keep_mk, keepE_nil, keepE_cons, look_cons, look_nil, Nat.reduceEqDiff, reduceIte]
   rfl
  ·exact ⟨Nat.zero_le _, Nat.le_refl _, rfl⟩
  ·rintro ⟨i, st⟩ hok10 Q10 n10 e10 r10
   obtain ⟨hi1, hsz, hR⟩ := hok10
   simp only [] at hi1 hsz hR ⊢
   refine v_seqR [4,10,11,12,13] ?_; intro K11 k11
   refine zBinOp ⟨?_⟩
   refine k11 _ ?_
   refine zk ⟨?_⟩
   refine v_seq ?_; intro Q12 n12 e12 r12
   refine v_condS _ rfl ?_ ?_
   ·intro hc1
    have hlt : i < l.length := by omega
    obtain ⟨⟨x0, x1, x2, x3⟩, hx⟩ : ∃ x : Int × ByteArray × Int × Int, l[i]? = some x := ⟨l[i]'(by omega), List.getElem?_eq_getElem (by omega)⟩
    have hf := tText_facts hg (List.mem_of_getElem? hx)
    have hp := tText_parts hf
    have hst := tTexts_step hx
    have hts := tText_size hf
    simp only [] at hf hp hts
    have hte : tTime (x0, x1, x2, x3) = x3 - x2 := hf.2.2.1.1
    have hp3 : (numB (IntKind.i64.wrap (x3 - x2)).toNat).size ≤ 6 := hp.2.2
    have hp4 : (numB (x3 - x2).toNat).size ≤ 6 := by rw [← hte]; exact hp.2.2
    have hz1 : (⟨#[47]⟩ : ByteArray).size = 1 := rfl
    have hz2 : (⟨#[43]⟩ : ByteArray).size = 1 := rfl
    have hz3 : (⟨#[59]⟩ : ByteArray).size = 1 := rfl
    refine v_skip ?_
    refine n12 _ _ (weak_keep [4, 10, 11, 12] _) ?_
    refine zk ⟨?_⟩
    refine v_seq ?_; intro Q14 n14 e14 r14
    refine v_block ?_; intro Q15 n15 x15 e15 r15
    refine v_seqR [4,6,10,11,12] ?_; intro K16 k16
    have F := Fc.mk (And.intro (fun f => getD_map (f := f) hx) (And.intro @ByteArray.size_append (And.intro hz1 (And.intro hz2 hz3))))
    refine zIndexAddr ⟨?_⟩
    refine zLoad ⟨?_⟩
    refine zAlloc ⟨?_⟩
    refine zStore ⟨?_⟩
    refine k16 _ ?_
    refine zk ⟨?_⟩
    refine v_draw (by kernel_rfl) ?_; intro K17 q17 k17
    show aAny _ _ _ _ 24 (Array.replicate 24 false) _
    refine zdMove q17 true 0 16 ?_
    refine zdFieldAddr q17 true 1 17 ?_
    refine zdLoad q17 true 2 18 ?_
    refine zdFieldAddr q17 true 5 21 ?_
    refine zdLoad q17 true 6 22 ?_
    refine zdFieldAddr q17 true 9 25 ?_
    refine zdLoad q17 true 10 26 ?_
    refine zdFieldAddr q17 true 14 30 ?_
    refine zdLoad q17 true 15 31 ?_
    refine zdFieldAddr q17 true 16 32 ?_
    refine zdLoad q17 true 17 33 ?_
    refine zdBinOpW q17 true 18 34 ?_
    refine zoc 3 (itoa_con x0 (by omega)) ⟨?_⟩
    refine zdBinOpW q17 true 4 20 ?_
    refine zdBinOpW q17 true 7 23 ?_
    refine zdBinOpW q17 true 8 24 ?_
    refine zoc 11 (itoa_con x2 (by omega)) ⟨?_⟩
    refine zdBinOpW q17 true 12 28 ?_
    refine zdBinOpW q17 true 13 29 ?_
    refine zoc 19 (itoa_con (x3 - x2) (by omega)) ⟨?_⟩
    refine zdBinOpW q17 true 20 36 ?_
    refine zdBinOpW q17 true 21 37 ?_
    refine zdBinOpW q17 true 22 38 ?_
    refine zoAssign 23 ⟨?_⟩
    refine aAny_done (by kernel_rfl) ?_
    refine k17 _ ?_
    refine n15 _ ?_
    refine n14 _ _ (weak_keep [4, 10, 11, 12] _) ?_
    refine zk ⟨?_⟩
    refine v_region ?_; intro K18 k18
    refine zBinOpW ⟨?_⟩
    refine zMove ⟨?_⟩
    refine k18 _ ?_
    refine n10 _ (i + 1, st ++ (numB x0.toNat ++ (⟨#[47]⟩ : ByteArray) ++ x1 ++ (⟨#[47]⟩ : ByteArray) ++ numB x2.toNat ++ (⟨#[43]⟩ : ByteArray) ++ numB (x3 - x2).toNat ++ (⟨#[59]⟩ : ByteArray))) ?_ ?_ ?_
    ·refine weak_bothS [4, 10, 11, 12] [] ⟨?_⟩
     rfl
    ·have hxe : tText (x0, x1, x2, x3) = (numB x0.toNat ++ (⟨#[47]⟩ : ByteArray) ++ x1 ++ (⟨#[47]⟩ : ByteArray) ++ numB x2.toNat ++ (⟨#[43]⟩ : ByteArray) ++ numB (x3 - x2).toNat ++ (⟨#[59]⟩ : ByteArray)) := by simp only [tText, hte]
     exact ⟨hlt, by show ByteArray.size (st ++ _) ≤ 25 * (i + 1); rw [ByteArray.size_append, ← hxe]; omega, by show st ++ _ = _; rw [hst, ← hR, hxe]⟩
    ·show _ < _; show l.length - (i + 1) < l.length - i; omega
   ·intro hc1
    refine v_exit ?_
    refine e12 _ _ ?_
    refine e10 _ _ ?_
    refine x9 _ ?_
    refine n7 _ _ (weak_keep [4] _) ?_
    refine zk ⟨?_⟩
    refine v_seqR [2,3] ?_; intro K19 k19
    refine zMove ⟨?_⟩
    refine zAssign ⟨?_⟩
    refine zAssign ⟨?_⟩
    refine k19 _ ?_
    refine zk ⟨?_⟩
    refine v_ret ?_
    refine r0 _ ?_
    refine zf ⟨?_⟩
    have hend : st = tTexts l := by rw [hR, List.take_of_length_le (by omega)]
    exact ret_pure rfl (by rw [tTextR, hg, hend]; rfl) (.inl rfl)
end Go.Proofs.YtbameklegpgkfaaDoor
