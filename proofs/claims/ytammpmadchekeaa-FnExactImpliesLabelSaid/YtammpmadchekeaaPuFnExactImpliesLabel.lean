/- The plain law behind FnExactImpliesLabel: whatever the arguments, true; no condition beside the arguments' kinds. -/
import Derived.Test.YtammpmadchekeaaGsFnExactImpliesLabel
import Derived.Test.YtammpmadchekeaaUIntS
import Derived.Test.YtammpmadchekeaaUHas
namespace Go.Proofs.Ytammpmadchekeaa.Pure
open Go.RowKit Go.Proofs.Ytammpmadchekeaa.Pr Go.Proofs.Ytammpmadchekeaa.Ni Go.Proofs.YtammpmadchekeaaW.PrintWords Go.Proofs.YtammpmadchekeaaW.PrintMore
theorem FnExactImpliesLabel : laws_FnExactImpliesLabel.Pure := by
  intro l m hl hm
  refine ⟨2 ^ 70, ?_⟩
  unfold laws_FnExactImpliesLabel.f
  by_cases h : (l.length : Int) > 1048576
  · rw [if_pos h]
  rw [if_neg h]
  by_cases h2 : (m.length : Int) > 1048576
  · rw [if_pos h2]
  rw [if_neg h2]
  simp only [toIntS_f l (by omega) (2 ^ 70) (by omega), toIntS_f m (by omega) (2 ^ 70) (by omega), spec_ImpliesLabel_f l m (by omega) (by omega) (2 ^ 70) (by omega), impl_ImpliesLabel_f l m (by omega) (by omega) (2 ^ 70) (by omega), eqIntS_refl l (by omega) (2 ^ 70) (by omega), eqIntS_refl m (by omega) (2 ^ 70) (by omega), Option.bind_some, if_true, bne_self_eq_false, if_false, Bool.false_eq_true]
end Go.Proofs.Ytammpmadchekeaa.Pure
