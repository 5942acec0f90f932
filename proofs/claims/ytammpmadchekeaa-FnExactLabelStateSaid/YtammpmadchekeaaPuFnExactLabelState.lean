/- The plain law behind FnExactLabelState: whatever the arguments, true; no condition beside the arguments' kinds. -/
import Derived.Test.YtammpmadchekeaaGsFnExactLabelState
import Derived.Test.YtammpmadchekeaaUIntS
import Derived.Test.YtammpmadchekeaaULabSt
namespace Go.Proofs.Ytammpmadchekeaa.Pure
open Go.RowKit Go.Proofs.Ytammpmadchekeaa.Pr Go.Proofs.Ytammpmadchekeaa.Ni Go.Proofs.YtammpmadchekeaaW.PrintWords Go.Proofs.YtammpmadchekeaaW.PrintMore
theorem FnExactLabelState : laws_FnExactLabelState.Pure := by
  intro l m hl hm
  refine ⟨2 ^ 70, ?_⟩
  unfold laws_FnExactLabelState.f
  by_cases h : (l.length : Int) > 1048576
  · rw [if_pos h]
  rw [if_neg h]
  by_cases h2 : (m.length : Int) > 1048576
  · rw [if_pos h2]
  rw [if_neg h2]
  simp only [toIntS_f l (by omega) (2 ^ 70) (by omega), toIntS_f m (by omega) (2 ^ 70) (by omega), spec_LabelState_f l m (by omega) (by omega) (2 ^ 70) (by omega), impl_LabelState_f l m (by omega) (2 ^ 70) (by omega), eqIntS_refl l (by omega) (2 ^ 70) (by omega), eqIntS_refl m (by omega) (2 ^ 70) (by omega), Option.bind_some, if_true]
end Go.Proofs.Ytammpmadchekeaa.Pure
