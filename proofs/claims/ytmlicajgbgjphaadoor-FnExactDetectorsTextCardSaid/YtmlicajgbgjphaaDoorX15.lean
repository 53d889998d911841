/- What functions compute. No condition. -/
import Derived.Test.YtmlicajgbgjphaaDoorUty
import Derived.Test.YtmlicajgbgjphaaDoorUmG
import Derived.Test.YtmlicajgbgjphaaDoorX8
import Derived.Test.YtmlicajgbgjphaaDoorX7
import Derived.Test.YtmlicajgbgjphaaDoorX13
import Derived.Test.YtmlicajgbgjphaaDoorX11
import Derived.Test.YtmlicajgbgjphaaDoorX14
set_option linter.unusedSimpArgs false
set_option linter.unusedVariables false
set_option linter.defProp false
namespace Go.Proofs.YtmlicajgbgjphaaDoor
open Go Go.Vm

def tText (x : (Int × ByteArray × Int × Int)) : ByteArray := numB x.1.toNat ++ (⟨#[47]⟩ : ByteArray) ++ x.2.1 ++ (⟨#[47]⟩ : ByteArray) ++ numB x.2.2.1.toNat ++ (⟨#[43]⟩ : ByteArray) ++ numB (tTime x).toNat ++ (⟨#[59]⟩ : ByteArray)
def tTexts (l : List (Int × ByteArray × Int × Int)) : ByteArray := l.foldl (fun s x => s ++ tText x) .empty
def tTextR (l : List (Int × ByteArray × Int × Int)) : ByteArray := if turnsB l = true then tTexts l else .empty
theorem tTexts_step {l : List (Int × ByteArray × Int × Int)} {i : Nat} {x : (Int × ByteArray × Int × Int)} (h : l[i]? = some x) : tTexts (l.take (i + 1)) = tTexts (l.take i) ++ tText x := by
  rw [tTexts, List.take_add_one, h, List.foldl_append]; rfl
theorem tText_facts {l : List (Int × ByteArray × Int × Int)} (h : turnsB l = true) {x : (Int × ByteArray × Int × Int)} (hx : x ∈ l) : (0 ≤ x.1 ∧ x.1 < 1000) ∧ (0 ≤ x.2.2.1 ∧ x.2.2.1 < 1000000) ∧ (tTime x = x.2.2.2 - x.2.2.1 ∧ 0 ≤ tTime x ∧ tTime x < 1000000) ∧ x.2.1.size ≤ 6 := by
  rw [turnsB, Bool.and_eq_true] at h
  have ho := chain_ok h.1 x hx
  simp only [tOne, nameB, Bool.and_eq_true, decide_eq_true_eq] at ho
  have e : tTime x = x.2.2.2 - x.2.2.1 := by
    simp only [tTime]
    rw [wrap64] <;> omega
  rw [e]
  omega
theorem tText_parts {x : (Int × ByteArray × Int × Int)} (h : (0 ≤ x.1 ∧ x.1 < 1000) ∧ (0 ≤ x.2.2.1 ∧ x.2.2.1 < 1000000) ∧ (tTime x = x.2.2.2 - x.2.2.1 ∧ 0 ≤ tTime x ∧ tTime x < 1000000) ∧ x.2.1.size ≤ 6) : (numB x.1.toNat).size ≤ 3 ∧ (numB x.2.2.1.toNat).size ≤ 6 ∧ (numB (tTime x).toNat).size ≤ 6 :=
  ⟨numB_size 3 _ (by omega) (by omega), numB_size 6 _ (by omega) (by omega), numB_size 6 _ (by omega) (by omega)⟩
theorem tText_size {x : (Int × ByteArray × Int × Int)} (h : (0 ≤ x.1 ∧ x.1 < 1000) ∧ (0 ≤ x.2.2.1 ∧ x.2.2.1 < 1000000) ∧ (tTime x = x.2.2.2 - x.2.2.1 ∧ 0 ≤ tTime x ∧ tTime x < 1000000) ∧ x.2.1.size ≤ 6) : (tText x).size ≤ 25 := by
  have h1 := tText_parts h
  have e : ∀ b : UInt8, (ByteArray.mk #[b]).size = 1 := fun _ => rfl
  simp only [tText, ByteArray.size_append, e]
  omega

set_option maxHeartbeats 1000000 in
theorem specTurnoutsText_con (l : List (Int × ByteArray × Int × Int)) (hl : l.length ≤ 1048576) (hls : ∀ t ∈ l, t.2.1.size ≤ 9223372036854775807) : Con Tryd.prog 11 [.sl (l.map (fun t : Int × ByteArray × Int × Int => V.agg [V.int .i64 t.1, V.str t.2.1, V.int .i64 t.2.2.1, V.int .i64 t.2.2.2]))] [] (.tup [.str (tTextR l), .bool (turnsB l)]) [] := by
 refine v_con [.tmp 2, .tmp 3] [] Tryd.func11 rfl rfl rfl (by simp [Tryd.ntmps11]) ?_
 intro Q0 n0 r0
 simp only [Tryd.ntmps11, envFrom, Nat.reduceAdd]
 have T := Tys.mk (And.intro Ty.t3 (And.intro Ty.t4 (And.intro Ty.t9 (And.intro Ty.t26 Ty.t115))))
 have F := Fc.mk True.intro
 refine v_seqR [0] ?_; intro K1 k1
 refine zAssign ⟨?_⟩
 refine zAssign ⟨?_⟩
 refine k1 _ ?_
 refine zk ⟨?_⟩
 refine v_seq ?_; intro Q2 n2 e2 r2
 refine v_seqR [0,9] ?_; intro K3 k3
 refine zMove ⟨?_⟩
 refine zc (dbGood_con l hl hls) ⟨?_⟩
 refine zUnOp ⟨?_⟩
 refine k3 _ ?_
 refine zk ⟨?_⟩
 refine v_condS _ rfl ?_ ?_
 ·intro hc0
  refine v_seqR [2,3] ?_; intro K5 k5
  refine zAssign ⟨?_⟩
  refine zAssign ⟨?_⟩
  refine k5 _ ?_
  refine zk ⟨?_⟩
  refine v_ret ?_
  refine r2 _ ?_
  refine r0 _ ?_
  refine zf ⟨?_⟩
  exact ret_pure rfl (by rw [tTextR, hc0]; rfl) (.inl rfl)
 ·intro hc0
  have hg : turnsB l = true := hc0
  have hll : l.length ≤ 15 := by rw [turnsB, Bool.and_eq_true, decide_eq_true_eq] at hg; omega
  refine v_skip ?_
  refine n2 _ _ (weak_keep [0] _) ?_
  refine zk ⟨?_⟩
  refine v_seqR [0,4] ?_; intro K6 k6
  refine zAssign ⟨?_⟩
  refine k6 _ ?_
  refine zk ⟨?_⟩
  refine v_seq ?_; intro Q7 n7 e7 r7
  refine v_seqR [4,10,11,12] ?_; intro K8 k8
  refine zMove ⟨?_⟩
  refine zLen ⟨?_⟩
  refine zMove ⟨?_⟩
  refine k8 _ ?_
  refine zk ⟨?_⟩
  refine v_block ?_; intro Q9 n9 x9 e9 r9
  refine v_loop (fun p => ⟨[(4, .str p.2), (10, .sl (l.map (fun t : Int × ByteArray × Int × Int => V.agg [V.int .i64 t.1, V.str t.2.1, V.int .i64 t.2.2.1, V.int .i64 t.2.2.2]))), (11, .int .i64 l.length), (12, .int .i64 (Nat.cast p.1))], [], false, 38, 0⟩) (fun p => p.1 ≤ l.length ∧ p.2.size ≤ 25 * p.1 ∧ p.2 = tTexts (l.take p.1)) (fun p => l.length - p.1) ((0, .empty) : Nat × ByteArray) ?_ ?_ ?_
  ·refine weak_of [4, 10, 11, 12] ?_
   simp only [keep_mk, keepE_nil, keepE_cons, look_cons, look_nil, Nat.reduceEqDiff, reduceIte]
   rfl
  ·exact ⟨Nat.zero_le _, Nat.le_refl _, rfl⟩
  ·rintro ⟨i, st⟩ hok10 Q10 n10 e10 r10
   obtain ⟨hi1, hsz, hR⟩ := hok10
   simp only [] at hi1 hsz hR ⊢
   refine v_seqR [4,10,11,12,13] ?_; intro K11 k11
   refine zBinOp ⟨?_⟩
   refine k11 _ ?_
   refine zk ⟨?_⟩
   refine v_seq ?_; intro Q12 n12 e12 r12
   refine v_condS _ rfl ?_ ?_
   ·intro hc1
    have hlt : i < l.length := by omega
    obtain ⟨⟨x0, x1, x2, x3⟩, hx⟩ : ∃ x : Int × ByteArray × Int × Int, l[i]? = some x := ⟨l[i]'(by omega), List.getElem?_eq_getElem (by omega)⟩
    have hf := tText_facts hg (List.mem_of_getElem? hx)
    have hp := tText_parts hf
    have hst := tTexts_step hx
    have hts := tText_size hf
    simp only [] at hf hp hts
    have hte : tTime (x0, x1, x2, x3) = x3 - x2 := hf.2.2.1.1
    have hp3 : (numB (IntKind.i64.wrap (x3 - x2)).toNat).size ≤ 6 := hp.2.2
    have hp4 : (numB (x3 - x2).toNat).size ≤ 6 := by rw [← hte]; exact hp.2.2
    have hz1 : (⟨#[47]⟩ : ByteArray).size = 1 := rfl
    have hz2 : (⟨#[43]⟩ : ByteArray).size = 1 := rfl
    have hz3 : (⟨#[59]⟩ : ByteArray).size = 1 := rfl
    refine v_skip ?_
    refine n12 _ _ (weak_keep [4, 10, 11, 12] _) ?_
    refine zk ⟨?_⟩
    refine v_seq ?_; intro Q14 n14 e14 r14
    refine v_block ?_; intro Q15 n15 x15 e15 r15
    refine v_seqR [4,6,10,11,12] ?_; intro K16 k16
    have F := Fc.mk (And.intro (fun f => getD_map (f := f) hx) (And.intro @ByteArray.size_append (And.intro hz1 (And.intro hz2 hz3))))
    refine zIndexAddr ⟨?_⟩
    refine zLoad ⟨?_⟩
    refine zAlloc ⟨?_⟩
    refine zStore ⟨?_⟩
    refine k16 _ ?_
    refine zk ⟨?_⟩
    refine v_draw (by kernel_rfl) ?_; intro K17 q17 k17
    show aAny _ _ _ _ 21 (Array.replicate 21 false) _
    refine zdMove q17 true 0 16 ?_
    refine zdFieldAddr q17 true 1 17 ?_
    refine zdLoad q17 true 2 18 ?_
    refine zdFieldAddr q17 true 5 21 ?_
    refine zdLoad q17 true 6 22 ?_
    refine zdFieldAddr q17 true 9 25 ?_
    refine zdLoad q17 true 10 26 ?_
    refine zdLoad q17 true 14 30 ?_
    refine zoc 3 (l1Num_con x0 (by omega)) ⟨?_⟩
    refine zdBinOpW q17 true 4 20 ?_
    refine zdBinOpW q17 true 7 23 ?_
    refine zdBinOpW q17 true 8 24 ?_
    refine zoc 11 (l1Num_con x2 (by omega)) ⟨?_⟩
    refine zdBinOpW q17 true 12 28 ?_
    refine zdBinOpW q17 true 13 29 ?_
    refine zoc 15 (dbTime_con x0 x1 x2 x3) ⟨?_⟩
    refine zoc 16 (l1Num_con (IntKind.i64.wrap (x3 - x2)) (by have := hf.2.2.1; simp only [tTime] at this; omega)) ⟨?_⟩
    refine zdBinOpW q17 true 17 33 ?_
    refine zdBinOpW q17 true 18 34 ?_
    refine zdBinOpW q17 true 19 35 ?_
    refine zoAssign 20 ⟨?_⟩
    refine aAny_done (by kernel_rfl) ?_
    refine k17 _ ?_
    refine n15 _ ?_
    refine n14 _ _ (weak_keep [4, 10, 11, 12] _) ?_
    refine zk ⟨?_⟩
    refine v_region ?_; intro K18 k18
    refine zBinOpW ⟨?_⟩
    refine zMove ⟨?_⟩
    refine k18 _ ?_
    refine n10 _ (i + 1, st ++ (numB x0.toNat ++ (⟨#[47]⟩ : ByteArray) ++ x1 ++ (⟨#[47]⟩ : ByteArray) ++ numB x2.toNat ++ (⟨#[43]⟩ : ByteArray) ++ numB (x3 - x2).toNat ++ (⟨#[59]⟩ : ByteArray))) ?_ ?_ ?_
    ·refine weak_bothS [4, 10, 11, 12] [] ⟨?_⟩
     rfl
    ·have hxe : tText (x0, x1, x2, x3) = (numB x0.toNat ++ (⟨#[47]⟩ : ByteArray) ++ x1 ++ (⟨#[47]⟩ : ByteArray) ++ numB x2.toNat ++ (⟨#[43]⟩ : ByteArray) ++ numB (x3 - x2).toNat ++ (⟨#[59]⟩ : ByteArray)) := by simp only [tText, hte]
     exact ⟨hlt, by show ByteArray.size (st ++ _) ≤ 25 * (i + 1); rw [ByteArray.size_append, ← hxe]; omega, by show st ++ _ = _; rw [hst, ← hR, hxe]⟩
    ·show _ < _; show l.length - (i + 1) < l.length - i; omega
   ·intro hc1
    refine v_exit ?_
    refine e12 _ _ ?_
    refine e10 _ _ ?_
    refine x9 _ ?_
    refine n7 _ _ (weak_keep [4] _) ?_
    refine zk ⟨?_⟩
    refine v_seqR [2,3] ?_; intro K19 k19
    refine zMove ⟨?_⟩
    refine zAssign ⟨?_⟩
    refine zAssign ⟨?_⟩
    refine k19 _ ?_
    refine zk ⟨?_⟩
    refine v_ret ?_
    refine r0 _ ?_
    refine zf ⟨?_⟩
    have hend : st = tTexts l := by rw [hR, List.take_of_length_le (by omega)]
    exact ret_pure rfl (by rw [tTextR, hg, hend]; rfl) (.inl rfl)
set_option maxHeartbeats 1000000 in
theorem implTurnoutsText_con (l : List (Int × ByteArray × Int × Int)) (hl : l.length ≤ 1048576) (hls : ∀ t ∈ l, t.2.1.size ≤ 9223372036854775807) : Con Tryd.prog 13 [.sl (l.map (fun t : Int × ByteArray × Int × Int => V.agg [V.int .i64 t.1, V.str t.2.1, V.int .i64 t.2.2.1, V.int .i64 t.2.2.2]))] [] (.tup [.str (tTextR l), .bool (turnsB l)]) [] := by
 refine v_con [.tmp 2, .tmp 3] [] Tryd.func13 rfl rfl rfl (by simp [Tryd.ntmps13]) ?_
 intro Q0 n0 r0
 simp only [Tryd.ntmps13, envFrom, Nat.reduceAdd]
 have T := Tys.mk (And.intro Ty.t3 (And.intro Ty.t4 (And.intro Ty.t9 (And.intro Ty.t26 Ty.t115))))
 have F := Fc.mk True.intro
 refine v_seqR [0] ?_; intro K1 k1
 refine zAssign ⟨?_⟩
 refine zAssign ⟨?_⟩
 refine k1 _ ?_
 refine zk ⟨?_⟩
 refine v_seq ?_; intro Q2 n2 e2 r2
 refine v_seqR [0,9] ?_; intro K3 k3
 refine zMove ⟨?_⟩
 refine zc (areTurnouts_con l hl hls) ⟨?_⟩
 refine zUnOp ⟨?_⟩
 refine k3 _ ?_
 refine zk ⟨?_⟩
 refine v_condS _ rfl ?_ ?_
 ·intro hc0
  refine v_seqR [2,3] ?_; intro K5 k5
  refine zAssign ⟨?_⟩
  refine zAssign ⟨?_⟩
  refine k5 _ ?_
  refine zk ⟨?_⟩
  refine v_ret ?_
  refine r2 _ ?_
  refine r0 _ ?_
  refine zf ⟨?_⟩
  exact ret_pure rfl (by rw [tTextR, hc0]; rfl) (.inl rfl)
 ·intro hc0
  have hg : turnsB l = true := hc0
  have hll : l.length ≤ 15 := by rw [turnsB, Bool.and_eq_true, decide_eq_true_eq] at hg; omega
  refine v_skip ?_
  refine n2 _ _ (weak_keep [0] _) ?_
  refine zk ⟨?_⟩
  refine v_seqR [0,4] ?_; intro K6 k6
  refine zAssign ⟨?_⟩
  refine k6 _ ?_
  refine zk ⟨?_⟩
  refine v_seq ?_; intro Q7 n7 e7 r7
  refine v_seqR [4,10,11,12] ?_; intro K8 k8
  refine zMove ⟨?_⟩
  refine zLen ⟨?_⟩
  refine zMove ⟨?_⟩
  refine k8 _ ?_
  refine zk ⟨?_⟩
  refine v_block ?_; intro Q9 n9 x9 e9 r9
  refine v_loop (fun p => ⟨[(4, .str p.2), (10, .sl (l.map (fun t : Int × ByteArray × Int × Int => V.agg [V.int .i64 t.1, V.str t.2.1, V.int .i64 t.2.2.1, V.int .i64 t.2.2.2]))), (11, .int .i64 l.length), (12, .int .i64 (Nat.cast p.1))], [], false, 41, 0⟩) (fun p => p.1 ≤ l.length ∧ p.2.size ≤ 25 * p.1 ∧ p.2 = tTexts (l.take p.1)) (fun p => l.length - p.1) ((0, .empty) : Nat × ByteArray) ?_ ?_ ?_
  ·refine weak_of [4, 10, 11, 12] ?_
   simp only [keep_mk, keepE_nil, keepE_cons, look_cons, look_nil, Nat.reduceEqDiff, reduceIte]
   rfl
  ·exact ⟨Nat.zero_le _, Nat.le_refl _, rfl⟩
  ·rintro ⟨i, st⟩ hok10 Q10 n10 e10 r10
   obtain ⟨hi1, hsz, hR⟩ := hok10
   simp only [] at hi1 hsz hR ⊢
   refine v_seqR [4,10,11,12,13] ?_; intro K11 k11
   refine zBinOp ⟨?_⟩
   refine k11 _ ?_
   refine zk ⟨?_⟩
   refine v_seq ?_; intro Q12 n12 e12 r12
   refine v_condS _ rfl ?_ ?_
   ·intro hc1
    have hlt : i < l.length := by omega
    obtain ⟨⟨x0, x1, x2, x3⟩, hx⟩ : ∃ x : Int × ByteArray × Int × Int, l[i]? = some x := ⟨l[i]'(by omega), List.getElem?_eq_getElem (by omega)⟩
    have hf := tText_facts hg (List.mem_of_getElem? hx)
    have hp := tText_parts hf
    have hst := tTexts_step hx
    have hts := tText_size hf
    simp only [] at hf hp hts
    have hte : tTime (x0, x1, x2, x3) = x3 - x2 := hf.2.2.1.1
    have hp3 : (numB (IntKind.i64.wrap (x3 - x2)).toNat).size ≤ 6 := hp.2.2
    have hp4 : (numB (x3 - x2).toNat).size ≤ 6 := by rw [← hte]; exact hp.2.2
    have hz1 : (⟨#[47]⟩ : ByteArray).size = 1 := rfl
    have hz2 : (⟨#[43]⟩ : ByteArray).size = 1 := rfl
    have hz3 : (⟨#[59]⟩ : ByteArray).size = 1 := rfl
    refine v_skip ?_
    refine n12 _ _ (weak_keep [4, 10, 11, 12] _) ?_
    refine zk ⟨?_⟩
    refine v_seq ?_; intro Q14 n14 e14 r14
    refine v_block ?_; intro Q15 n15 x15 e15 r15
    refine v_seqR [4,6,10,11,12] ?_; intro K16 k16
    have F := Fc.mk (And.intro (fun f => getD_map (f := f) hx) (And.intro @ByteArray.size_append (And.intro hz1 (And.intro hz2 hz3))))
    refine zIndexAddr ⟨?_⟩
    refine zLoad ⟨?_⟩
    refine zAlloc ⟨?_⟩
    refine zStore ⟨?_⟩
    refine k16 _ ?_
    refine zk ⟨?_⟩
    refine v_draw (by kernel_rfl) ?_; intro K17 q17 k17
    show aAny _ _ _ _ 24 (Array.replicate 24 false) _
    refine zdMove q17 true 0 16 ?_
    refine zdFieldAddr q17 true 1 17 ?_
    refine zdLoad q17 true 2 18 ?_
    refine zdFieldAddr q17 true 5 21 ?_
    refine zdLoad q17 true 6 22 ?_
    refine zdFieldAddr q17 true 9 25 ?_
    refine zdLoad q17 true 10 26 ?_
    refine zdFieldAddr q17 true 14 30 ?_
    refine zdLoad q17 true 15 31 ?_
    refine zdFieldAddr q17 true 16 32 ?_
    refine zdLoad q17 true 17 33 ?_
    refine zdBinOpW q17 true 18 34 ?_
    refine zoc 3 (itoa_con x0 (by omega)) ⟨?_⟩
    refine zdBinOpW q17 true 4 20 ?_
    refine zdBinOpW q17 true 7 23 ?_
    refine zdBinOpW q17 true 8 24 ?_
    refine zoc 11 (itoa_con x2 (by omega)) ⟨?_⟩
    refine zdBinOpW q17 true 12 28 ?_
    refine zdBinOpW q17 true 13 29 ?_
    refine zoc 19 (itoa_con (x3 - x2) (by omega)) ⟨?_⟩
    refine zdBinOpW q17 true 20 36 ?_
    refine zdBinOpW q17 true 21 37 ?_
    refine zdBinOpW q17 true 22 38 ?_
    refine zoAssign 23 ⟨?_⟩
    refine aAny_done (by kernel_rfl) ?_
    refine k17 _ ?_
    refine n15 _ ?_
    refine n14 _ _ (weak_keep [4, 10, 11, 12] _) ?_
    refine zk ⟨?_⟩
    refine v_region ?_; intro K18 k18
    refine zBinOpW ⟨?_⟩
    refine zMove ⟨?_⟩
    refine k18 _ ?_
    refine n10 _ (i + 1, st ++ (numB x0.toNat ++ (⟨#[47]⟩ : ByteArray) ++ x1 ++ (⟨#[47]⟩ : ByteArray) ++ numB x2.toNat ++ (⟨#[43]⟩ : ByteArray) ++ numB (x3 - x2).toNat ++ (⟨#[59]⟩ : ByteArray))) ?_ ?_ ?_
    ·refine weak_bothS [4, 10, 11, 12] [] ⟨?_⟩
     rfl
    ·have hxe : tText (x0, x1, x2, x3) = (numB x0.toNat ++ (⟨#[47]⟩ : ByteArray) ++ x1 ++ (⟨#[47]⟩ : ByteArray) ++ numB x2.toNat ++ (⟨#[43]⟩ : ByteArray) ++ numB (x3 - x2).toNat ++ (⟨#[59]⟩ : ByteArray)) := by simp only [tText, hte]
     exact ⟨hlt, by show ByteArray.size (st ++ _) ≤ 25 * (i + 1); rw [ByteArray.size_append, ← hxe]; omega, by show st ++ _ = _; rw [hst, ← hR, hxe]⟩
    ·show _ < _; show l.length - (i + 1) < l.length - i; omega
   ·intro hc1
    refine v_exit ?_
    refine e12 _ _ ?_
    refine e10 _ _ ?_
    refine x9 _ ?_
    refine n7 _ _ (weak_keep [4] _) ?_
    refine zk ⟨?_⟩
    refine v_seqR [2,3] ?_; intro K19 k19
    refine zMove ⟨?_⟩
    refine zAssign ⟨?_⟩
    refine zAssign ⟨?_⟩
    refine k19 _ ?_
    refine zk ⟨?_⟩
    refine v_ret ?_
    refine r0 _ ?_
    refine zf ⟨?_⟩
    have hend : st = tTexts l := by rw [hR, List.take_of_length_le (by omega)]
    exact ret_pure rfl (by rw [tTextR, hg, hend]; rfl) (.inl rfl)
def kindB (k : Int) : ByteArray := if k = 0 then (⟨#[115]⟩ : ByteArray) else if k = 1 then (⟨#[104]⟩ : ByteArray) else (⟨#[109]⟩ : ByteArray)
def dBase (x : (Int × Int × Int × Bool)) : ByteArray := numB x.1.toNat ++ (⟨#[47]⟩ : ByteArray) ++ numB x.2.1.toNat ++ kindB x.2.2.1
def dStep (s : ByteArray) (x : (Int × Int × Int × Bool)) : ByteArray := if x.2.2.2 = true then s ++ dBase x ++ (⟨#[33]⟩ : ByteArray) ++ (⟨#[59]⟩ : ByteArray) else s ++ dBase x ++ (⟨#[59]⟩ : ByteArray)
def dTexts (l : List (Int × Int × Int × Bool)) : ByteArray := l.foldl dStep .empty
def dTextR (l : List (Int × Int × Int × Bool)) : ByteArray := if dsB l = true then dTexts l else .empty
theorem dTexts_step {l : List (Int × Int × Int × Bool)} {i : Nat} {x : (Int × Int × Int × Bool)} (h : l[i]? = some x) : dTexts (l.take (i + 1)) = dStep (dTexts (l.take i)) x := by
  rw [dTexts, List.take_add_one, h, List.foldl_append]; rfl
theorem kind_cases {k : Int} (h : 0 ≤ k ∧ k ≤ 2) : (⟨#[115, 104, 109]⟩ : ByteArray).extract k.toNat (k + 1).toNat = kindB k ∧ [V.str (⟨#[115]⟩ : ByteArray), V.str (⟨#[104]⟩ : ByteArray), V.str (⟨#[109]⟩ : ByteArray)].getD k.toNat .any = .str (kindB k) ∧ (kindB k).size = 1 := by
  have : k = 0 ∨ k = 1 ∨ k = 2 := by omega
  rcases this with rfl | rfl | rfl <;> exact ⟨rfl, rfl, rfl⟩
theorem dText_facts {l : List (Int × Int × Int × Bool)} (h : dsB l = true) {x : (Int × Int × Int × Bool)} (hx : x ∈ l) : (0 ≤ x.1 ∧ x.1 < 1000) ∧ (0 ≤ x.2.1 ∧ x.2.1 < 10) ∧ (0 ≤ x.2.2.1 ∧ x.2.2.1 ≤ 2) := by
  rw [dsB, Bool.and_eq_true] at h
  have ho := chain_ok h.1 x hx
  simp only [dOne, Bool.and_eq_true, decide_eq_true_eq] at ho
  omega
theorem dText_size {x : (Int × Int × Int × Bool)} (h : (0 ≤ x.1 ∧ x.1 < 1000) ∧ (0 ≤ x.2.1 ∧ x.2.1 < 10) ∧ (0 ≤ x.2.2.1 ∧ x.2.2.1 ≤ 2)) : (numB x.1.toNat).size ≤ 3 ∧ (numB x.2.1.toNat).size ≤ 1 ∧ (dBase x).size ≤ 6 := by
  have h1 := numB_size 3 x.1.toNat (by omega) (by omega)
  have h2 := numB_size 1 x.2.1.toNat (by omega) (by omega)
  have h3 := (kind_cases h.2.2).2.2
  have e : ∀ b : UInt8, (ByteArray.mk #[b]).size = 1 := fun _ => rfl
  refine ⟨h1, h2, ?_⟩
  simp only [dBase, ByteArray.size_append, e]
  omega

set_option maxHeartbeats 1000000 in
theorem specDetectorsText_con (l : List (Int × Int × Int × Bool)) (hl : l.length ≤ 1048576) : Con Tryd.prog 16 [.sl (l.map (fun t : Int × Int × Int × Bool => V.agg [V.int .i64 t.1, V.int .i64 t.2.1, V.int .i64 t.2.2.1, V.bool t.2.2.2]))] [] (.tup [.str (dTextR l), .bool (dsB l)]) [] := by
 refine v_con [.tmp 2, .tmp 3] [] Tryd.func16 rfl rfl rfl (by simp [Tryd.ntmps16]) ?_
 intro Q0 n0 r0
 simp only [Tryd.ntmps16, envFrom, Nat.reduceAdd]
 have T := Tys.mk (And.intro Ty.t3 (And.intro Ty.t4 (And.intro Ty.t9 (And.intro Ty.t33 Ty.t61))))
 have F := Fc.mk True.intro
 refine v_seqR [0] ?_; intro K1 k1
 refine zAssign ⟨?_⟩
 refine zAssign ⟨?_⟩
 refine k1 _ ?_
 refine zk ⟨?_⟩
 refine v_seq ?_; intro Q2 n2 e2 r2
 refine v_seqR [0,9] ?_; intro K3 k3
 refine zMove ⟨?_⟩
 refine zc (alGood_con l hl) ⟨?_⟩
 refine zUnOp ⟨?_⟩
 refine k3 _ ?_
 refine zk ⟨?_⟩
 refine v_condS _ rfl ?_ ?_
 ·intro hc0
  refine v_seqR [2,3] ?_; intro K5 k5
  refine zAssign ⟨?_⟩
  refine zAssign ⟨?_⟩
  refine k5 _ ?_
  refine zk ⟨?_⟩
  refine v_ret ?_
  refine r2 _ ?_
  refine r0 _ ?_
  refine zf ⟨?_⟩
  exact ret_pure rfl (by rw [dTextR, hc0]; rfl) (.inl rfl)
 ·intro hc0
  have hg : dsB l = true := hc0
  have hll : l.length ≤ 20 := by rw [dsB, Bool.and_eq_true, decide_eq_true_eq] at hg; omega
  refine v_skip ?_
  refine n2 _ _ (weak_keep [0] _) ?_
  refine zk ⟨?_⟩
  refine v_seqR [0,4] ?_; intro K6 k6
  refine zAssign ⟨?_⟩
  refine k6 _ ?_
  refine zk ⟨?_⟩
  refine v_seq ?_; intro Q7 n7 e7 r7
  refine v_seqR [4,10,11,12] ?_; intro K8 k8
  refine zMove ⟨?_⟩
  refine zLen ⟨?_⟩
  refine zMove ⟨?_⟩
  refine k8 _ ?_
  refine zk ⟨?_⟩
  refine v_block ?_; intro Q9 n9 x9 e9 r9
  refine v_loop (fun p => ⟨[(4, .str p.2), (10, .sl (l.map (fun t : Int × Int × Int × Bool => V.agg [V.int .i64 t.1, V.int .i64 t.2.1, V.int .i64 t.2.2.1, V.bool t.2.2.2]))), (11, .int .i64 l.length), (12, .int .i64 (Nat.cast p.1))], [], false, 41, 0⟩) (fun p => p.1 ≤ l.length ∧ p.2.size ≤ 8 * p.1 ∧ p.2 = dTexts (l.take p.1)) (fun p => l.length - p.1) ((0, .empty) : Nat × ByteArray) ?_ ?_ ?_
  ·refine weak_of [4, 10, 11, 12] ?_
   simp only [keep_mk, keepE_nil, keepE_cons, look_cons, look_nil, Nat.reduceEqDiff, reduceIte]
   rfl
  ·exact ⟨Nat.zero_le _, Nat.le_refl _, rfl⟩
  ·rintro ⟨i, st⟩ hok10 Q10 n10 e10 r10
   obtain ⟨hi1, hsz, hR⟩ := hok10
   simp only [] at hi1 hsz hR ⊢
   refine v_seqR [4,10,11,12,13] ?_; intro K11 k11
   refine zBinOp ⟨?_⟩
   refine k11 _ ?_
   refine zk ⟨?_⟩
   refine v_seq ?_; intro Q12 n12 e12 r12
   refine v_condS _ rfl ?_ ?_
   ·intro hc1
    have hlt : i < l.length := by omega
    obtain ⟨⟨x0, x1, x2, x3⟩, hx⟩ : ∃ x : Int × Int × Int × Bool, l[i]? = some x := ⟨l[i]'(by omega), List.getElem?_eq_getElem (by omega)⟩
    have hf := dText_facts hg (List.mem_of_getElem? hx)
    have hp := dText_size hf
    have hst := dTexts_step hx
    have hk := kind_cases hf.2.2
    simp only [] at hf hp hk
    obtain ⟨hk1, hk2, hk3⟩ := hk
    have hz1 : (⟨#[47]⟩ : ByteArray).size = 1 := rfl
    have hz2 : (⟨#[33]⟩ : ByteArray).size = 1 := rfl
    have hz3 : (⟨#[59]⟩ : ByteArray).size = 1 := rfl
    have hz4 : (⟨#[115, 104, 109]⟩ : ByteArray).size = 3 := rfl
    refine v_skip ?_
    refine n12 _ _ (weak_keep [4, 10, 11, 12] _) ?_
    refine zk ⟨?_⟩
    refine v_seq ?_; intro Q14 n14 e14 r14
    refine v_block ?_; intro Q15 n15 x15 e15 r15
    refine v_seqR [4,6,10,11,12] ?_; intro K16 k16
    have F := Fc.mk (And.intro (fun f => getD_map (f := f) hx) (And.intro @ByteArray.size_append (And.intro hz1 (And.intro hz2 (And.intro hz3 (And.intro hz4 (And.intro hk3 hk1)))))))
    refine zIndexAddr ⟨?_⟩
    refine zLoad ⟨?_⟩
    refine zAlloc ⟨?_⟩
    refine zStore ⟨?_⟩
    refine k16 _ ?_
    refine zk ⟨?_⟩
    refine v_seq ?_; intro Q17 n17 e17 r17
    refine v_draw (by kernel_rfl) ?_; intro K18 q18 k18
    show aAny _ _ _ _ 18 (Array.replicate 18 false) _
    refine zdMove q18 true 0 16 ?_
    refine zdFieldAddr q18 true 1 17 ?_
    refine zdLoad q18 true 2 18 ?_
    refine zdFieldAddr q18 true 5 21 ?_
    refine zdLoad q18 true 6 22 ?_
    refine zdFieldAddr q18 true 9 25 ?_
    refine zdLoad q18 true 10 26 ?_
    refine zdFieldAddr q18 true 11 27 ?_
    refine zdLoad q18 true 12 28 ?_
    refine zdBinOpW q18 true 13 29 ?_
    refine zdSlice q18 true 14 30 ?_
    refine zoc 3 (l1Num_con x0 (by omega)) ⟨?_⟩
    refine zdBinOpW q18 true 4 20 ?_
    refine zoc 7 (l1Num_con x1 (by omega)) ⟨?_⟩
    refine zdBinOpW q18 true 8 24 ?_
    refine zdBinOpW q18 true 15 31 ?_
    refine zdBinOpW q18 true 16 32 ?_
    refine zoAssign 17 ⟨?_⟩
    refine aAny_done (by kernel_rfl) ?_
    refine k18 _ ?_
    refine n17 _ _ (weak_keep [4, 6, 10, 11, 12] _) ?_
    refine zk ⟨?_⟩
    refine v_seq ?_; intro Q19 n19 e19 r19
    refine v_seqR [4,10,11,12,34] ?_; intro K20 k20
    refine zFieldAddr ⟨?_⟩
    refine zLoad ⟨?_⟩
    refine k20 _ ?_
    refine zk ⟨?_⟩
    refine v_condS _ rfl ?_ ?_
    ·intro hc2
     refine v_region ?_; intro K22 k22
     refine zMove ⟨?_⟩
     refine zBinOpW ⟨?_⟩
     refine zAssign ⟨?_⟩
     refine k22 _ ?_
     refine n19 _ _ (weak_keep [4, 10, 11, 12] _) ?_
     refine zk ⟨?_⟩
     refine v_region ?_; intro K23 k23
     refine zMove ⟨?_⟩
     refine zBinOpW ⟨?_⟩
     refine zAssign ⟨?_⟩
     refine k23 _ ?_
     refine n15 _ ?_
     refine n14 _ _ (weak_keep [4, 10, 11, 12] _) ?_
     refine zk ⟨?_⟩
     refine v_region ?_; intro K24 k24
     refine zBinOpW ⟨?_⟩
     refine zMove ⟨?_⟩
     refine k24 _ ?_
     refine n10 _ (i + 1, st ++ dBase (x0, x1, x2, x3) ++ (⟨#[33]⟩ : ByteArray) ++ (⟨#[59]⟩ : ByteArray)) ?_ ?_ ?_
     ·refine weak_bothS [4, 10, 11, 12] [] ⟨?_⟩
      rfl
     ·exact ⟨hlt, by show ByteArray.size (_ ++ _) ≤ 8 * (i + 1); simp only [ByteArray.size_append, hz2, hz3]; omega, by show _ ++ _ = _; rw [hst, ← hR, dStep, if_pos hc2]⟩
     ·show _ < _; show l.length - (i + 1) < l.length - i; omega
    ·intro hc2
     refine v_skip ?_
     refine n19 _ _ (weak_keep [4, 10, 11, 12] _) ?_
     refine zk ⟨?_⟩
     refine v_region ?_; intro K25 k25
     refine zMove ⟨?_⟩
     refine zBinOpW ⟨?_⟩
     refine zAssign ⟨?_⟩
     refine k25 _ ?_
     refine n15 _ ?_
     refine n14 _ _ (weak_keep [4, 10, 11, 12] _) ?_
     refine zk ⟨?_⟩
     refine v_region ?_; intro K26 k26
     refine zBinOpW ⟨?_⟩
     refine zMove ⟨?_⟩
     refine k26 _ ?_
     refine n10 _ (i + 1, st ++ dBase (x0, x1, x2, x3) ++ (⟨#[59]⟩ : ByteArray)) ?_ ?_ ?_
     ·refine weak_bothS [4, 10, 11, 12] [] ⟨?_⟩
      rfl
     ·exact ⟨hlt, by show ByteArray.size (_ ++ _) ≤ 8 * (i + 1); simp only [ByteArray.size_append, hz2, hz3]; omega, by show _ ++ _ = _; rw [hst, ← hR, dStep, if_neg (by simp [hc2])]⟩
     ·show _ < _; show l.length - (i + 1) < l.length - i; omega
   ·intro hc1
    refine v_exit ?_
    refine e12 _ _ ?_
    refine e10 _ _ ?_
    refine x9 _ ?_
    refine n7 _ _ (weak_keep [4] _) ?_
    refine zk ⟨?_⟩
    refine v_seqR [2,3] ?_; intro K27 k27
    refine zMove ⟨?_⟩
    refine zAssign ⟨?_⟩
    refine zAssign ⟨?_⟩
    refine k27 _ ?_
    refine zk ⟨?_⟩
    refine v_ret ?_
    refine r0 _ ?_
    refine zf ⟨?_⟩
    have hend : st = dTexts l := by rw [hR, List.take_of_length_le (by omega)]
    exact ret_pure rfl (by rw [dTextR, hg, hend]; rfl) (.inl rfl)
set_option maxHeartbeats 1000000 in
theorem implDetectorsText_con (l : List (Int × Int × Int × Bool)) (hl : l.length ≤ 1048576) : Con Tryd.prog 18 [.sl (l.map (fun t : Int × Int × Int × Bool => V.agg [V.int .i64 t.1, V.int .i64 t.2.1, V.int .i64 t.2.2.1, V.bool t.2.2.2]))] [] (.tup [.str (dTextR l), .bool (dsB l)]) [] := by
 refine v_con [.tmp 2, .tmp 3] [] Tryd.func18 rfl rfl rfl (by simp [Tryd.ntmps18]) ?_
 intro Q0 n0 r0
 simp only [Tryd.ntmps18, envFrom, Nat.reduceAdd]
 have T := Tys.mk (And.intro Ty.t3 (And.intro Ty.t4 (And.intro Ty.t9 (And.intro Ty.t33 (And.intro Ty.t48 (And.intro Ty.t61 Ty.t137))))))
 have F := Fc.mk True.intro
 refine v_seqR [0] ?_; intro K1 k1
 refine zAssign ⟨?_⟩
 refine zAssign ⟨?_⟩
 refine k1 _ ?_
 refine zk ⟨?_⟩
 refine v_seq ?_; intro Q2 n2 e2 r2
 refine v_seqR [0,9] ?_; intro K3 k3
 refine zMove ⟨?_⟩
 refine zc (areDetectors_con l hl) ⟨?_⟩
 refine zUnOp ⟨?_⟩
 refine k3 _ ?_
 refine zk ⟨?_⟩
 refine v_condS _ rfl ?_ ?_
 ·intro hc0
  refine v_seqR [2,3] ?_; intro K5 k5
  refine zAssign ⟨?_⟩
  refine zAssign ⟨?_⟩
  refine k5 _ ?_
  refine zk ⟨?_⟩
  refine v_ret ?_
  refine r2 _ ?_
  refine r0 _ ?_
  refine zf ⟨?_⟩
  exact ret_pure rfl (by rw [dTextR, hc0]; rfl) (.inl rfl)
 ·intro hc0
  have hg : dsB l = true := hc0
  have hll : l.length ≤ 20 := by rw [dsB, Bool.and_eq_true, decide_eq_true_eq] at hg; omega
  refine v_skip ?_
  refine n2 _ _ (weak_keep [0] _) ?_
  refine zk ⟨?_⟩
  refine v_seqR [0,4] ?_; intro K6 k6
  refine zAssign ⟨?_⟩
  refine k6 _ ?_
  refine zk ⟨?_⟩
  refine v_seq ?_; intro Q7 n7 e7 r7
  refine v_seqR [4,10,11,12] ?_; intro K8 k8
  refine zMove ⟨?_⟩
  refine zLen ⟨?_⟩
  refine zMove ⟨?_⟩
  refine k8 _ ?_
  refine zk ⟨?_⟩
  refine v_block ?_; intro Q9 n9 x9 e9 r9
  refine v_loop (fun p => ⟨[(4, .str p.2), (10, .sl (l.map (fun t : Int × Int × Int × Bool => V.agg [V.int .i64 t.1, V.int .i64 t.2.1, V.int .i64 t.2.2.1, V.bool t.2.2.2]))), (11, .int .i64 l.length), (12, .int .i64 (Nat.cast p.1))], [], false, 37, 0⟩) (fun p => p.1 ≤ l.length ∧ p.2.size ≤ 8 * p.1 ∧ p.2 = dTexts (l.take p.1)) (fun p => l.length - p.1) ((0, .empty) : Nat × ByteArray) ?_ ?_ ?_
  ·refine weak_of [4, 10, 11, 12] ?_
   simp only [keep_mk, keepE_nil, keepE_cons, look_cons, look_nil, Nat.reduceEqDiff, reduceIte]
   rfl
  ·exact ⟨Nat.zero_le _, Nat.le_refl _, rfl⟩
  ·rintro ⟨i, st⟩ hok10 Q10 n10 e10 r10
   obtain ⟨hi1, hsz, hR⟩ := hok10
   simp only [] at hi1 hsz hR ⊢
   refine v_seqR [4,10,11,12,13] ?_; intro K11 k11
   refine zBinOp ⟨?_⟩
   refine k11 _ ?_
   refine zk ⟨?_⟩
   refine v_seq ?_; intro Q12 n12 e12 r12
   refine v_condS _ rfl ?_ ?_
   ·intro hc1
    have hlt : i < l.length := by omega
    obtain ⟨⟨x0, x1, x2, x3⟩, hx⟩ : ∃ x : Int × Int × Int × Bool, l[i]? = some x := ⟨l[i]'(by omega), List.getElem?_eq_getElem (by omega)⟩
    have hf := dText_facts hg (List.mem_of_getElem? hx)
    have hp := dText_size hf
    have hst := dTexts_step hx
    have hk := kind_cases hf.2.2
    simp only [] at hf hp hk
    obtain ⟨hk1, hk2, hk3⟩ := hk
    have hz1 : (⟨#[47]⟩ : ByteArray).size = 1 := rfl
    have hz2 : (⟨#[33]⟩ : ByteArray).size = 1 := rfl
    have hz3 : (⟨#[59]⟩ : ByteArray).size = 1 := rfl
    have hz4 : (⟨#[115, 104, 109]⟩ : ByteArray).size = 3 := rfl
    refine v_skip ?_
    refine n12 _ _ (weak_keep [4, 10, 11, 12] _) ?_
    refine zk ⟨?_⟩
    refine v_seq ?_; intro Q14 n14 e14 r14
    refine v_block ?_; intro Q15 n15 x15 e15 r15
    refine v_seqR [4,6,10,11,12] ?_; intro K16 k16
    have F := Fc.mk (And.intro (fun f => getD_map (f := f) hx) (And.intro @ByteArray.size_append (And.intro hz1 (And.intro hz2 (And.intro hz3 (And.intro hz4 (And.intro hk3 hk2)))))))
    refine zIndexAddr ⟨?_⟩
    refine zLoad ⟨?_⟩
    refine zAlloc ⟨?_⟩
    refine zStore ⟨?_⟩
    refine k16 _ ?_
    refine zk ⟨?_⟩
    refine v_seq ?_; intro Q17 n17 e17 r17
    refine v_draw (by kernel_rfl) ?_; intro K18 q18 k18
    show aAny _ _ _ _ 14 (Array.replicate 14 false) _
    refine zdMove q18 true 0 16 ?_
    refine zdFieldAddr q18 true 1 17 ?_
    refine zdLoad q18 true 2 18 ?_
    refine zdFieldAddr q18 true 3 19 ?_
    refine zdLoad q18 true 4 20 ?_
    refine zdBuild q18 true 7 23 ?_
    refine zdFieldAddr q18 true 8 24 ?_
    refine zdLoad q18 true 9 25 ?_
    refine zdIndex q18 true 10 26 ?_
    refine zoBuildSlice 5 ⟨?_⟩
    refine zoc 6 ((by have q := joinNumbers_con [x0, x1] (⟨#[47]⟩ : ByteArray) (by simp) (by simp; omega) (by decide); rw [show numS [x0, x1] = [numB x0.toNat, numB x1.toNat] from rfl, joinB_two] at q; exact q)) ⟨?_⟩
    refine zdBinOpW q18 true 11 27 ?_
    refine zdBinOpW q18 true 12 28 ?_
    refine zoAssign 13 ⟨?_⟩
    refine aAny_done (by kernel_rfl) ?_
    refine k18 _ ?_
    refine n17 _ _ (weak_keep [4, 6, 10, 11, 12] _) ?_
    refine zk ⟨?_⟩
    refine v_seq ?_; intro Q19 n19 e19 r19
    refine v_seqR [4,10,11,12,30] ?_; intro K20 k20
    refine zFieldAddr ⟨?_⟩
    refine zLoad ⟨?_⟩
    refine k20 _ ?_
    refine zk ⟨?_⟩
    refine v_condS _ rfl ?_ ?_
    ·intro hc2
     refine v_region ?_; intro K22 k22
     refine zMove ⟨?_⟩
     refine zBinOpW ⟨?_⟩
     refine zAssign ⟨?_⟩
     refine k22 _ ?_
     refine n19 _ _ (weak_keep [4, 10, 11, 12] _) ?_
     refine zk ⟨?_⟩
     refine v_region ?_; intro K23 k23
     refine zMove ⟨?_⟩
     refine zBinOpW ⟨?_⟩
     refine zAssign ⟨?_⟩
     refine k23 _ ?_
     refine n15 _ ?_
     refine n14 _ _ (weak_keep [4, 10, 11, 12] _) ?_
     refine zk ⟨?_⟩
     refine v_region ?_; intro K24 k24
     refine zBinOpW ⟨?_⟩
     refine zMove ⟨?_⟩
     refine k24 _ ?_
     refine n10 _ (i + 1, st ++ dBase (x0, x1, x2, x3) ++ (⟨#[33]⟩ : ByteArray) ++ (⟨#[59]⟩ : ByteArray)) ?_ ?_ ?_
     ·refine weak_bothS [4, 10, 11, 12] [] ⟨?_⟩
      rfl
     ·exact ⟨hlt, by show ByteArray.size (_ ++ _) ≤ 8 * (i + 1); simp only [ByteArray.size_append, hz2, hz3]; omega, by show _ ++ _ = _; rw [hst, ← hR, dStep, if_pos hc2]⟩
     ·show _ < _; show l.length - (i + 1) < l.length - i; omega
    ·intro hc2
     refine v_skip ?_
     refine n19 _ _ (weak_keep [4, 10, 11, 12] _) ?_
     refine zk ⟨?_⟩
     refine v_region ?_; intro K25 k25
     refine zMove ⟨?_⟩
     refine zBinOpW ⟨?_⟩
     refine zAssign ⟨?_⟩
     refine k25 _ ?_
     refine n15 _ ?_
     refine n14 _ _ (weak_keep [4, 10, 11, 12] _) ?_
     refine zk ⟨?_⟩
     refine v_region ?_; intro K26 k26
     refine zBinOpW ⟨?_⟩
     refine zMove ⟨?_⟩
     refine k26 _ ?_
     refine n10 _ (i + 1, st ++ dBase (x0, x1, x2, x3) ++ (⟨#[59]⟩ : ByteArray)) ?_ ?_ ?_
     ·refine weak_bothS [4, 10, 11, 12] [] ⟨?_⟩
      rfl
     ·exact ⟨hlt, by show ByteArray.size (_ ++ _) ≤ 8 * (i + 1); simp only [ByteArray.size_append, hz2, hz3]; omega, by show _ ++ _ = _; rw [hst, ← hR, dStep, if_neg (by simp [hc2])]⟩
     ·show _ < _; show l.length - (i + 1) < l.length - i; omega
   ·intro hc1
    refine v_exit ?_
    refine e12 _ _ ?_
    refine e10 _ _ ?_
    refine x9 _ ?_
    refine n7 _ _ (weak_keep [4] _) ?_
    refine zk ⟨?_⟩
    refine v_seqR [2,3] ?_; intro K27 k27
    refine zMove ⟨?_⟩
    refine zAssign ⟨?_⟩
    refine zAssign ⟨?_⟩
    refine k27 _ ?_
    refine zk ⟨?_⟩
    refine v_ret ?_
    refine r0 _ ?_
    refine zf ⟨?_⟩
    have hend : st = dTexts l := by rw [hR, List.take_of_length_le (by omega)]
    exact ret_pure rfl (by rw [dTextR, hg, hend]; rfl) (.inl rfl)
end Go.Proofs.YtmlicajgbgjphaaDoor
