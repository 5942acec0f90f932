/- The plain law behind FnExactValuesOk: whatever the arguments, true; no condition beside the arguments' kinds. -/
import Derived.Test.YtammpmadchekeaaGsFnExactValuesOk
import Derived.Test.YtammpmadchekeaaUIntS
import Derived.Test.YtammpmadchekeaaUVals
namespace Go.Proofs.Ytammpmadchekeaa.Pure
open Go.RowKit Go.Proofs.Ytammpmadchekeaa.Pr Go.Proofs.Ytammpmadchekeaa.Ni Go.Proofs.YtammpmadchekeaaW.PrintWords Go.Proofs.YtammpmadchekeaaW.PrintMore
theorem FnExactValuesOk : laws_FnExactValuesOk.Pure := by
  intro l hl
  refine ⟨2 ^ 70, ?_⟩
  unfold laws_FnExactValuesOk.f
  by_cases h : (l.length : Int) > 1048576
  · rw [if_pos h]
  · rw [if_neg h]
    simp only [toIntS_f l (by omega) (2 ^ 70) (by omega), spec_ValuesOk_f l (by omega) (2 ^ 70) (by omega), impl_ValuesOk.f, eqIntS_refl l (by omega) (2 ^ 70) (by omega), Option.bind_some, if_true, bne_self_eq_false, if_false, Bool.false_eq_true]
end Go.Proofs.Ytammpmadchekeaa.Pure
