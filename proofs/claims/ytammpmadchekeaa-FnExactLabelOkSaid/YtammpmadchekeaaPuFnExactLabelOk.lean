/- The program's LabelOk returns what the reference's returns, for all arguments: the plain law; no condition. -/
import Derived.Test.YtammpmadchekeaaGsFnExactLabelOk
import Derived.Test.YtammpmadchekeaaUIntS
import Derived.Test.YtammpmadchekeaaULabel
namespace Go.Proofs.Ytammpmadchekeaa.Pure
open Go.RowKit Go.Proofs.Ytammpmadchekeaa.Pr Go.Proofs.Ytammpmadchekeaa.Ni Go.Proofs.YtammpmadchekeaaW.PrintWords
theorem FnExactLabelOk : laws_FnExactLabelOk.Pure := by
  intro l hl
  refine ⟨2 ^ 64, ?_⟩
  unfold laws_FnExactLabelOk.f
  by_cases h : (l.length : Int) > 1048576
  · rw [if_pos h]
  · rw [if_neg h]
    simp only [toIntS_f l (by omega) _ (Nat.le_refl _), spec_LabelOk_f l (by omega) _ (Nat.le_refl _), impl_LabelOk_f l (by omega) _ (Nat.le_refl _), eqIntS_refl l (by omega) _ (Nat.le_refl _), Option.bind_some, if_true, bne_self_eq_false, if_false, Bool.false_eq_true]
end Go.Proofs.Ytammpmadchekeaa.Pure
