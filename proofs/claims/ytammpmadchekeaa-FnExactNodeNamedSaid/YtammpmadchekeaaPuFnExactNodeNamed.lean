/- The plain law behind FnExactNodeNamed: whatever the arguments, true; no condition beside the arguments' kinds. -/
import Derived.Test.YtammpmadchekeaaGsFnExactNodeNamed
import Derived.Test.YtammpmadchekeaaUShowS
import Derived.Test.YtammpmadchekeaaUNamed
namespace Go.Proofs.Ytammpmadchekeaa.Pure
open Go.RowKit Go.Proofs.Ytammpmadchekeaa.Pr Go.Proofs.Ytammpmadchekeaa.Ni Go.Proofs.YtammpmadchekeaaW.PrintWords Go.Proofs.YtammpmadchekeaaW.PrintMore
theorem FnExactNodeNamed : laws_FnExactNodeNamed.Pure := by
  rintro ⟨ns, ts, z⟩ s ⟨⟨hn, hb⟩, ⟨ht, _⟩, _⟩ hs
  simp only [maxLen] at hn ht
  refine ⟨2 ^ 70, ?_⟩
  unfold laws_FnExactNodeNamed.f
  by_cases h0 : (s.size : Int) > 1048576
  · rw [if_pos h0]
  rw [if_neg h0]
  obtain ⟨r, hr, h⟩ := szShow_f ns ts z hn (fun n hn => by have := hb n hn; exact ⟨by simpa [maxLen] using this.1, by simpa [maxLen] using this.2.1.1⟩) ht (2 ^ 70) (by omega) 1048576 (by omega) (by omega)
  rw [hr, Option.bind_some]
  rcases h with h | ⟨_, _, h⟩
  · rw [if_pos h]
  rw [if_neg (by omega)]
  have hc := h.cv
  simp only [toShow_f ns ts z h (2 ^ 70) (by omega), spec_NodeNamed_f (ns.map cvN) (ts.map cvT) z s (by have := hc.1; omega) (2 ^ 70) (by omega), impl_NodeNamed.f, eqShow_refl _ _ _ hc (2 ^ 70) (by omega), Option.bind_some, if_true, namedI]
end Go.Proofs.Ytammpmadchekeaa.Pure
