/- The plain law behind FnExactSameStates: whatever the arguments, true; no condition beside the arguments' kinds. -/
import Derived.Test.YtammpmadchekeaaGsFnExactSameStates
import Derived.Test.YtammpmadchekeaaUSzState
import Derived.Test.YtammpmadchekeaaUSameS
namespace Go.Proofs.Ytammpmadchekeaa.Pure
open Go.RowKit Go.Proofs.Ytammpmadchekeaa.Pr Go.Proofs.Ytammpmadchekeaa.Ni Go.Proofs.YtammpmadchekeaaW.PrintWords Go.Proofs.YtammpmadchekeaaW.PrintMore
theorem FnExactSameStates : laws_FnExactSameStates.Pure := by
  rintro ⟨n, t, v⟩ ⟨m, u, x⟩ ⟨_, ⟨ht, _⟩, ⟨hv, _⟩⟩ ⟨_, ⟨hu, _⟩, ⟨hx, _⟩⟩
  simp only [maxLen] at ht hv hu hx
  refine ⟨2 ^ 70, ?_⟩
  unfold laws_FnExactSameStates.f
  obtain ⟨r, hr, h⟩ := szState_f n t v (by omega) (by omega) 1048576 (by omega) (by omega)
  rw [hr, Option.bind_some]
  rcases h with h | ⟨h0, h1, h2, h3⟩
  · rw [if_pos h]
  rw [if_neg (by omega)]
  obtain ⟨r2, hr2, h⟩ := szState_f m u x (by omega) (by omega) r (by omega) (by omega)
  rw [hr2, Option.bind_some]
  rcases h with h | ⟨h4, h5, h6, h7⟩
  · rw [if_pos h]
  rw [if_neg (by omega)]
  simp only [toState_f n t v (by omega) (by omega) (2 ^ 70) (by omega), toState_f m u x (by omega) (by omega) (2 ^ 70) (by omega), spec_SameStates.f, impl_SameStates.f, l08Same_f t u (by omega) (2 ^ 70) (by omega), l08Same_f v x (by omega) (2 ^ 70) (by omega), sEqual_f t u (by omega) (2 ^ 70) (by omega), sEqual_f v x (by omega) (2 ^ 70) (by omega),
    eqState_refl n t v (by omega) (by omega) (2 ^ 70) (by omega), eqState_refl m u x (by omega) (by omega) (2 ^ 70) (by omega), Option.bind_some, if_true]
  by_cases e1 : n = m
  · simp only [e1, if_true]
    by_cases e2 : t = u
    · simp [e2]
    · simp [e2]
  · simp [e1]
end Go.Proofs.Ytammpmadchekeaa.Pure
