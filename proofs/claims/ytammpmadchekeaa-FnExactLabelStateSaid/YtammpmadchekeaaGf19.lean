/- What a call of each function below returns, over this translation; the conditions stand in each theorem. Laid by a program of this session. -/
import Derived.Test.YtammpmadchekeaaG0
import Derived.Test.YtammpmadchekeaaQNice
import Derived.Test.YtammpmadchekeaaGf50
import Derived.Test.YtammpmadchekeaaGf51
namespace Go.Proofs.Ytammpmadchekeaa.Pr
open Go.RowKit Go.Proofs.YtammpmadchekeaaW.PrintWords Go.Proofs.YtammpmadchekeaaW.PrintLast Go.Proofs.YtammpmadchekeaaW.PrintMore
attribute [local go_sem] max2_int min2_int max_two min_two max_three min_three max_four min_four
set_option linter.unusedVariables false
set_option linter.unusedSimpArgs false

/-! ### impl_ValuesOk: function 19 (by hand) -/
open Go.Proofs.Ytammpmadchekeaa.Ni
-- IMPORT Derived.Test.YtammpmadchekeaaQNice
def impl_ValuesOk.f (l0 : List Int) : Option Bool := some (valsB l0)
theorem impl_ValuesOk.calls (A0 : Option Addr) (c0 : Nat) (l0 : List Int) (r : Bool) (w : World) (hr0 : Kd.C (Kd.int .i64) w A0 l0.length l0) (hc0 : l0.length ≤ c0) (h : impl_ValuesOk.f l0 = some r) :
    Calls Try.prog 19 #[.slice A0 l0.length c0] w fun e w' => e = .returned (.bool r) ∧ Below w.heap.size w w' := by
  obtain rfl : valsB l0 = r := Option.some.inj h
  have hv : l0.length = 3 → (!(l0.any fun n => decide (n < -1) || decide (n > 1))) = valsB l0 := fun hl => by
    unfold valsB
    rw [decide_eq_true hl, Bool.true_and, List.not_any_eq_all_not]
    congr 1
    funext n
    rw [Bool.eq_iff_iff]
    simp
  have hn : ¬ l0.length = 3 → valsB l0 = false := fun hl => by simp [valsB, hl]
  have HV := Aside0.mk hv
  have HN := Aside0.mk hn
  have HC := Aside0.mk (slices_ContainsFunc_int_int.any (fun n => decide (n < -1) || decide (n > 1)) 51 #[] (enters_of Try.func51 (by kernel_rfl) rfl) A0 c0 l0 w hr0
    (fun W x _ _ => (impl_ValuesOk_1.calls x (decide (x < -1) || decide (x > 1)) W (by
      unfold impl_ValuesOk_1.f
      by_cases h1 : x < -1
      · rw [if_pos h1, decide_eq_true h1]; rfl
      · rw [if_neg h1, decide_eq_false h1]; rfl)).mono fun e w' ⟨he, hd⟩ => ⟨he, hd.below⟩))
  clear hv hn h hr0 hc0
  by_cases hl : l0.length = 3
  · have h3 : ((l0.length : Int) == 3) = true := by rw [beq_iff_eq]; omega
    have HL := Aside0.mk hl
    clear hl
    go_enter Try.func19, Try.ntmps19
    go_wp2_with (go_at_call 50; refine HC.out.mono ?_; rintro e w' ⟨rfl, hb⟩)
    go_ret
    exact ⟨by rw [← HV.out HL.out]; rfl, hb⟩
  · have h3 : ((l0.length : Int) == 3) = false := by rw [beq_eq_false_iff_ne]; omega
    have HL := Aside0.mk hl
    clear hl
    go_enter Try.func19, Try.ntmps19
    go_wp2
    go_ret
    exact ⟨by rw [HN.out HL.out]; rfl, Below.refl _ _⟩

end Go.Proofs.Ytammpmadchekeaa.Pr
