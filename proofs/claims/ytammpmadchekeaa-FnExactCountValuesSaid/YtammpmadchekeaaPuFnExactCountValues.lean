/- The program's CountValues returns what the reference's returns, for all arguments: the plain law; no condition. -/
import Derived.Test.YtammpmadchekeaaGsFnExactCountValues
import Derived.Test.YtammpmadchekeaaUIntS
import Derived.Test.YtammpmadchekeaaUCountV
namespace Go.Proofs.Ytammpmadchekeaa.Pure
open Go.RowKit Go.Proofs.Ytammpmadchekeaa.Pr Go.Proofs.Ytammpmadchekeaa.Ni Go.Proofs.YtammpmadchekeaaW.PrintWords
theorem FnExactCountValues : laws_FnExactCountValues.Pure := by
  intro l hl
  refine ⟨2 ^ 64, ?_⟩
  unfold laws_FnExactCountValues.f
  by_cases h : (l.length : Int) > 1048576
  · rw [if_pos h]
  · rw [if_neg h]
    simp only [toIntS_f l (by omega) _ (Nat.le_refl _), spec_CountValues_f l (by omega) _ (Nat.le_refl _), impl_CountValues_f l (by omega) _ (Nat.le_refl _), eqIntS_refl l (by omega) _ (Nat.le_refl _), Option.bind_some, if_true]
end Go.Proofs.Ytammpmadchekeaa.Pure
