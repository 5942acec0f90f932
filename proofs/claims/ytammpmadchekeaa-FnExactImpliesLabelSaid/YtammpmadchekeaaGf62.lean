/- What a call of each function below returns, over this translation; the conditions stand in each theorem. Laid by a program of this session. -/
import Derived.Test.YtammpmadchekeaaG0
import Derived.Test.YtammpmadchekeaaQNice
import Derived.Test.YtammpmadchekeaaGf84
namespace Go.Proofs.Ytammpmadchekeaa.Pr
open Go.RowKit Go.Proofs.YtammpmadchekeaaW.PrintWords Go.Proofs.YtammpmadchekeaaW.PrintLast Go.Proofs.YtammpmadchekeaaW.PrintMore
attribute [local go_sem] max2_int min2_int max_two min_two max_three min_three max_four min_four
set_option linter.unusedVariables false
set_option linter.unusedSimpArgs false

/-! ### slices_Contains_int_int: function 62 (by hand) -/
open Go.Proofs.Ytammpmadchekeaa.Ni
-- IMPORT Derived.Test.YtammpmadchekeaaQNice
def slices_Contains_int_int.f (l0 : List Int) (a1 : Int) : Option Bool := some (l0.any fun y => decide (a1 = y))
theorem slices_Contains_int_int.calls (A0 : Option Addr) (c0 : Nat) (l0 : List Int) (a1 : Int) (r : Bool) (w : World) (hr0 : Kd.C (Kd.int .i64) w A0 l0.length l0) (hc0 : l0.length ≤ c0) (h : slices_Contains_int_int.f l0 a1 = some r) :
    Calls Try.prog 62 #[.slice A0 l0.length c0, .int .i64 a1] w fun e w' => e = .returned (.bool r) ∧ Below w.heap.size w w' := by
  obtain rfl := Option.some.inj h
  have HI := Aside0.mk (slices_Index_int_int.calls A0 c0 l0 a1 (idxOf (fun y => decide (a1 = y)) l0) w hr0 hc0 rfl)
  have HE := Aside0.mk (idxOf_any (fun y => decide (a1 = y)) l0)
  clear hr0 hc0 h
  go_enter Try.func62, Try.ntmps62
  go_wp2_with (go_at_call 84; refine HI.out.mono ?_; rintro e w' ⟨rfl, hb⟩)
  go_ret
  exact ⟨by rw [← HE.out]; rfl, hb⟩
theorem slices_Contains_int_int.hand (A0 : Option Addr) (c0 : Nat) (l0 : List Int) (a1 : Int) (w : World) (hr0 : Kd.C (Kd.int .i64) w A0 l0.length l0) (hc0 : l0.length ≤ c0) :
    Calls Try.prog 62 #[.slice A0 l0.length c0, .int .i64 a1] w fun e w' => e = .returned (.bool (l0.any fun y => decide (a1 = y))) ∧ Below w.heap.size w w' := slices_Contains_int_int.calls A0 c0 l0 a1 _ w hr0 hc0 rfl

end Go.Proofs.Ytammpmadchekeaa.Pr
