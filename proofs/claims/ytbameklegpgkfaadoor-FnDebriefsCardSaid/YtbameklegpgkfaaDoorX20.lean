/- What functions compute. No condition. -/
import Derived.Test.YtbameklegpgkfaaDoorUty
import Derived.Test.YtbameklegpgkfaaDoorUmG
import Derived.Test.YtbameklegpgkfaaDoorShelf
set_option linter.unusedSimpArgs false
set_option linter.unusedVariables false
set_option linter.defProp false
namespace Go.Proofs.YtbameklegpgkfaaDoor
open Go Go.Vm

theorem str_digit {n : Nat} (h : n < 10) : strOf [IntKind.u8.wrap (48 + (n : Int))] = ⟨#[UInt8.ofNat (48 + n)]⟩ := by
  have e : IntKind.u8.wrap (48 + (n : Int)) = ((48 + n : Nat) : Int) := by
    simp only [IntKind.wrap, IntKind.bits, IntKind.signed]
    simp
    omega
  rw [e]
  rfl

set_option maxHeartbeats 1000000 in
theorem l1Num_step (n : Nat) (hn : n < 1000000000) (ih : ∀ m, m < n → Con Tryd.prog 100 [.int .i64 (Nat.cast m)] [] (.str (numB m)) []) : Con Tryd.prog 100 [.int .i64 (Nat.cast n)] [] (.str (numB n)) [] := by
 refine v_con [.tmp 2] [] Tryd.func100 rfl rfl rfl (by simp [Tryd.ntmps100]) ?_
 intro Q0 n0 r0
 simp only [Tryd.ntmps100, envFrom, Nat.reduceAdd]
 have T := Tys.mk (And.intro Ty.t3 (And.intro Ty.t5 (And.intro Ty.t9 Ty.t22)))
 have F := Fc.mk True.intro
 refine v_seqR [0] ?_; intro K1 k1
 refine zAssign ⟨?_⟩
 refine k1 _ ?_
 refine zk ⟨?_⟩
 refine v_seq ?_; intro Q2 n2 e2 r2
 refine v_seqR [0,4] ?_; intro K3 k3
 refine zMove ⟨?_⟩
 refine zBinOp ⟨?_⟩
 refine k3 _ ?_
 refine zk ⟨?_⟩
 refine v_condS _ rfl ?_ ?_
 ·intro hc0
  have h10 : n < 10 := by omega
  refine v_seqR [2] ?_; intro K5 k5
  refine zMove ⟨?_⟩
  refine zBinOpW ⟨?_⟩
  refine zConvert ⟨?_⟩
  refine zBuildSlice ⟨?_⟩
  refine zConvert ⟨?_⟩
  refine zAssign ⟨?_⟩
  refine k5 _ ?_
  refine zk ⟨?_⟩
  refine v_ret ?_
  refine r2 _ ?_
  refine r0 _ ?_
  refine zf ⟨?_⟩
  exact ret_pure rfl (by rw [str_digit h10, numB_lt h10]) (.inl rfl)
 ·intro hc0
  have h10 : ¬ n < 10 := by omega
  have hq : (n : Int).tdiv 10 = ((n / 10 : Nat) : Int) := rfl
  have hm : (n : Int).tmod 10 = ((n % 10 : Nat) : Int) := rfl
  have hm10 : n % 10 < 10 := Nat.mod_lt _ (by omega)
  have hsz : (numB (n / 10)).size ≤ 9 := numB_size 9 (n / 10) (by omega) (by omega)
  have hst := str_digit hm10
  have hz : ∀ b : UInt8, (ByteArray.mk #[b]).size = 1 := fun _ => rfl
  refine v_skip ?_
  refine n2 _ _ (weak_keep [0] _) ?_
  refine zk ⟨?_⟩
  refine v_seq ?_; intro Q6 n6 e6 r6
  refine v_draw (by kernel_rfl) ?_; intro K7 q7 k7
  show aAny _ _ _ _ 11 (Array.replicate 11 false) _
  have F := Fc.mk (And.intro hq (And.intro hm (And.intro hst hz)))
  refine zdMove q7 true 0 10 ?_
  refine zdBinOpW q7 true 1 11 ?_
  refine zdMove q7 true 3 13 ?_
  refine zdBinOp q7 true 4 14 ?_
  refine zdBinOpW q7 true 5 15 ?_
  refine zdConvert q7 true 6 16 ?_
  refine aAny_two 2 7 rfl rfl (by kernel_rfl) ?_ ?_
  ·refine zsc (ih (n / 10) (by omega)) ⟨?_⟩
   refine zoBuildSlice 7 ⟨?_⟩
   refine zdConvertY q7 true 8 18 ?_
   refine zdBinOpW q7 true 9 19 ?_
   refine zoAssign 10 ⟨?_⟩
   refine aAny_done (by kernel_rfl) ?_
   refine k7 _ ?_
   refine n6 _ _ (weak_keep [2] _) ?_
   refine zk ⟨?_⟩
   refine v_ret ?_
   refine r0 _ ?_
   refine zf ⟨?_⟩
   exact ret_pure rfl (by rw [numB_ge h10]) (.inl rfl)
  ·refine zsBuildSlice ⟨?_⟩
   refine zdConvertY q7 true 8 18 ?_
   refine zoc 2 (ih (n / 10) (by omega)) ⟨?_⟩
   refine zdBinOpW q7 true 9 19 ?_
   refine zoAssign 10 ⟨?_⟩
   refine aAny_done (by kernel_rfl) ?_
   refine k7 _ ?_
   refine n6 _ _ (weak_keep [2] _) ?_
   refine zk ⟨?_⟩
   refine v_ret ?_
   refine r0 _ ?_
   refine zf ⟨?_⟩
   exact ret_pure rfl (by rw [numB_ge h10]) (.inl rfl)
theorem l1Num_con (n : Int) (h : 0 ≤ n ∧ n < 1000000000) : Con Tryd.prog 100 [.int .i64 n] [] (.str (numB n.toNat)) [] := by
  have key : ∀ k : Nat, k < 1000000000 → Con Tryd.prog 100 [.int .i64 (Nat.cast k)] [] (.str (numB k)) [] := by
    intro k
    induction k using Nat.strongRecOn with
    | ind k ih => exact fun hk => l1Num_step k hk fun m hm => ih m hm (by omega)
  obtain ⟨m, hm⟩ : ∃ m : Nat, n = (m : Int) := ⟨n.toNat, by omega⟩
  subst hm
  rw [Int.toNat_natCast]
  exact key m (by omega)

theorem Tryd.pow10 : (Tryd.prog.globalNamed "internal/strconv.uint64pow10").isSome = true := by kernel_rfl
theorem itoa_con (n : Int) (h : 0 ≤ n ∧ n < 1000000000) : Con Tryd.prog 113 [.int .i64 n] [] (.str (numB n.toNat)) [] := by
  rw [← itoa_nat h.1]
  obtain ⟨g, hg⟩ := Option.isSome_iff_exists.1 Tryd.pow10
  exact con_int1 ⟨_, Tryd.func113, rfl, rfl⟩ (fun w μ => .str _) (fun w ht => Tryd.strconv_Itoa n (by omega) (by omega) w (tabIs_of hg ht))

end Go.Proofs.YtbameklegpgkfaaDoor
