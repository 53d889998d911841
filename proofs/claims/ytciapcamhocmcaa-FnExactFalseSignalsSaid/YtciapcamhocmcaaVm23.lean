/- The value machine, part 23: contracts of functions that only reckon. -/
import Derived.Test.YtciapcamhocmcaaVm20
set_option linter.unusedSimpArgs false
set_option linter.unusedVariables false
namespace Go.Vm
open Go

/-- A function of two texts, known by its calls. -/
theorem con_str2 {P : Program} {f : FuncId} {a b : ByteArray} {r : V} {rv : Value} (hf : ∃ fn, P.funcs[f]? = some fn ∧ (fn.name == "runtime.NumGoroutine") = false ∧ fn.body.isNone = false) (hr : ∀ w μ, Rep w μ r rv [])
    (h : ∀ w, Calls P f #[.string a, .string b] w fun e w' => e = .returned rv ∧ w' = w) : Con P f [.str a, .str b] [] r [] := by
  refine ⟨hf, fun w vals μ ow vis hi => ?_⟩
  have h0 : vals.getD 0 undef = .string a := by
    obtain ⟨bl, r0, _⟩ := hi.arg 0 _ rfl
    generalize vals.getD 0 undef = x at r0 ⊢
    cases r0; rfl
  have h1 : vals.getD 1 undef = .string b := by
    obtain ⟨bl, r0, _⟩ := hi.arg 1 _ rfl
    generalize vals.getD 1 undef = x at r0 ⊢
    cases r0; rfl
  have hs : vals.size = 2 := hi.sz
  have hv : vals = #[.string a, .string b] := by
    apply Array.ext
    · simpa using hs
    · intro i hi1 hi2
      have hi3 : i < 2 := by simpa using hi2
      have e : vals.getD i undef = vals[i] := by simp [Array.getD, hi1]
      rcases Nat.lt_or_ge i 1 with q | q
      · have : i = 0 := by omega
        subst this; rw [← e, h0]; rfl
      · have : i = 1 := by omega
        subst this; rw [← e, h1]; rfl
  subst hv
  refine (h w).mono ?_
  rintro e w' ⟨rfl, rfl⟩
  exact ⟨rv, μ, ow, rfl, ⟨⟨[], hr _ _, by simp⟩, by simp, by simp, MLe.refl _, Nat.le_refl _, hi.dom, hi.owl, fun b hb => .inl hb, ⟨Nat.le_refl _, fun _ _ _ => rfl, rfl, rfl, rfl, fun _ _ => rfl⟩⟩⟩

end Go.Vm
