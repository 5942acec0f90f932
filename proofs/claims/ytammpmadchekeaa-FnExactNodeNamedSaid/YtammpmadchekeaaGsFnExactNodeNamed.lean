/- What a call of each function below returns, over this translation; the conditions stand in each theorem. Laid by a program of this session. -/
import Derived.Test.YtammpmadchekeaaGo
import Derived.Test.YtammpmadchekeaaGf11
namespace Go.Proofs.Ytammpmadchekeaa.Pr
open Go.RowKit Go.Proofs.YtammpmadchekeaaW.PrintWords Go.Proofs.YtammpmadchekeaaW.PrintLast Go.Proofs.YtammpmadchekeaaW.PrintMore
attribute [local go_sem] max2_int min2_int max_two min_two max_three min_three max_four min_four
set_option linter.unusedVariables false
set_option linter.unusedSimpArgs false

def laws_FnExactNodeNamed.Pure : Prop := ∀ (y0 : S49) (y1 : ByteArray), okS49 y0 → (fun s_ : ByteArray => s_.size ≤ maxLen) y1 → ∃ k, laws_FnExactNodeNamed.f k y0.f0 y0.f1 y0.f2 y1 = some true
end Go.Proofs.Ytammpmadchekeaa.Pr
