/- NodeOk of the program and of the reference, plainly. -/
import Derived.Test.YtammpmadchekeaaUName
import Derived.Test.YtammpmadchekeaaULabel
import Derived.Test.YtammpmadchekeaaGf36
import Derived.Test.YtammpmadchekeaaGf38
namespace Go.Proofs.Ytammpmadchekeaa.Pr
open Go.RowKit Go.Proofs.YtammpmadchekeaaW.PrintWords Go.Proofs.Ytammpmadchekeaa.Ni
def nodeB (s : ByteArray) (l : List Int) (n : Int) : Bool := nameB s && labB l && (decide (0 ≤ n) && decide (n ≤ 3))
theorem spec_NodeOk_f (s : ByteArray) (l : List Int) (n : Int) (hs : s.size ≤ 9223372036854775807) (hl : l.length ≤ 9223372036854775807) (k : Nat) (hk : 2 ^ 64 ≤ k) : spec_NodeOk.f k s l n = some (nodeB s l n) := by
  unfold spec_NodeOk.f nodeB spec_l01In.f
  rw [spec_IsName_f s hs k hk, Option.bind_some, spec_LabelOk_f l hl k hk]
  cases nameB s
  · rfl
  · rw [if_pos rfl, Option.bind_some]
    cases labB l
    · rfl
    · rw [if_pos rfl]
      by_cases h : n ≥ 0
      · rw [if_pos h, decide_eq_true (show (0 : Int) ≤ n from h)]; rfl
      · rw [if_neg h, decide_eq_false (show ¬ (0 : Int) ≤ n from h)]; rfl
theorem impl_NodeOk_f (s : ByteArray) (l : List Int) (n : Int) (hs : s.size ≤ 9223372036854775807) (hl : l.length ≤ 9223372036854775807) (k : Nat) (hk : 2 ^ 64 ≤ k) : impl_NodeOk.f k s l n = some (nodeB s l n) := by
  unfold impl_NodeOk.f nodeB
  rw [impl_IsName_f s hs k hk, Option.bind_some, impl_LabelOk_f l hl k hk]
  cases nameB s
  · rfl
  · rw [if_pos rfl, Option.bind_some]
    cases labB l
    · rfl
    · rw [if_pos rfl]
      by_cases h : n ≥ 0
      · rw [if_pos h, decide_eq_true (show (0 : Int) ≤ n from h)]; rfl
      · rw [if_neg h, decide_eq_false (show ¬ (0 : Int) ≤ n from h)]; rfl
end Go.Proofs.Ytammpmadchekeaa.Pr
