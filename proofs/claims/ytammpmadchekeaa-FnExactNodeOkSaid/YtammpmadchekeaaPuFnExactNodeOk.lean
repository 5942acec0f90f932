/- The plain law behind FnExactNodeOk: whatever the arguments, true; no condition beside the arguments' kinds. -/
import Derived.Test.YtammpmadchekeaaGsFnExactNodeOk
import Derived.Test.YtammpmadchekeaaUSzNode
import Derived.Test.YtammpmadchekeaaUNodeOk
namespace Go.Proofs.Ytammpmadchekeaa.Pure
open Go.RowKit Go.Proofs.Ytammpmadchekeaa.Pr Go.Proofs.Ytammpmadchekeaa.Ni Go.Proofs.YtammpmadchekeaaW.PrintWords Go.Proofs.YtammpmadchekeaaW.PrintMore
theorem FnExactNodeOk : laws_FnExactNodeOk.Pure := by
  rintro ⟨s, l, n⟩ ⟨hs, ⟨hl, _⟩, _⟩
  simp only [maxLen] at hs hl
  refine ⟨2 ^ 70, ?_⟩
  unfold laws_FnExactNodeOk.f
  obtain ⟨r, hr, h⟩ := szNode_f s l n (by omega) (by omega) 1048576 (by omega) (by omega)
  rw [hr, Option.bind_some]
  rcases h with h | ⟨h0, h1, h2, h3⟩
  · rw [if_pos h]
  rw [if_neg (by omega)]
  simp only [toNode_f s l n (by omega) (2 ^ 70) (by omega), spec_NodeOk_f s l n (by omega) (by omega) (2 ^ 70) (by omega), impl_NodeOk_f s l n (by omega) (by omega) (2 ^ 70) (by omega), eqNode_refl s l n (by omega) (2 ^ 70) (by omega), Option.bind_some, if_true, bne_self_eq_false, if_false, Bool.false_eq_true]
end Go.Proofs.Ytammpmadchekeaa.Pure
