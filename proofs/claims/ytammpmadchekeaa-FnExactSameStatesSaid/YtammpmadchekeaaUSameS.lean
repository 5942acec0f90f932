/- Equality of lists of numbers, plainly. -/
import Derived.Test.YtammpmadchekeaaQNice
import Derived.Test.YtammpmadchekeaaGf58
import Derived.Test.YtammpmadchekeaaGf59
namespace Go.Proofs.Ytammpmadchekeaa.Pr
open Go.RowKit Go.Proofs.YtammpmadchekeaaW.PrintWords Go.Proofs.Ytammpmadchekeaa.Ni
theorem l08Same_f (l m : List Int) (hl : l.length ≤ 9223372036854775807) (k : Nat) (hk : 2 ^ 64 ≤ k) : spec_l08Same.f k l m = some (decide (l = m)) := by
  unfold spec_l08Same.f
  by_cases e : l.length = m.length
  · rw [if_pos (by omega)]
    have key := loop_up l.length (fun k i => spec_l08Same.l0 k m l l.length (i : Int) = some (decide (l.drop i = m.drop i))) 0
      (fun k _ => by
        simp only [spec_l08Same.l0]
        rw [if_neg (by omega), List.drop_of_length_le (Nat.le_refl _), List.drop_of_length_le (by omega)]
        simp)
      (fun k i _ hi ih => by
        simp only [spec_l08Same.l0]
        rw [if_pos (by omega), if_pos (by omega), if_pos (by omega), if_pos (by omega), rd_nat, rd_nat, wrap_nat hi (by omega), drop_cons hi 0, drop_cons (show i < m.length by omega) 0]
        by_cases h : l.getD i 0 = m.getD i 0
        · rw [if_pos h, ih, h]; simp
        · rw [if_neg h]
          simp only [List.cons.injEq, h, false_and, decide_false]) 0 k (Nat.zero_le _) (by omega)
    simpa using key
  · rw [if_neg (by omega)]
    have : l ≠ m := fun h => e (by rw [h])
    simp [this]
theorem sEqual_f (l m : List Int) (hl : l.length ≤ 9223372036854775807) (k : Nat) (hk : 2 ^ 64 ≤ k) : slices_Equal_int_int.f k l m = some (decide (l = m)) := by
  unfold slices_Equal_int_int.f
  by_cases e : l.length = m.length
  · rw [if_pos (by omega)]
    have key := loop_up l.length (fun k i => slices_Equal_int_int.l0 k l m l.length (i : Int) = some (decide (l.drop i = m.drop i))) 0
      (fun k _ => by
        simp only [slices_Equal_int_int.l0]
        rw [if_neg (by omega), List.drop_of_length_le (Nat.le_refl _), List.drop_of_length_le (by omega)]
        simp)
      (fun k i _ hi ih => by
        simp only [slices_Equal_int_int.l0]
        rw [if_pos (by omega), if_pos (by omega), if_pos (by omega), if_pos (by omega), rd_nat, rd_nat, wrap_nat hi (by omega), drop_cons hi 0, drop_cons (show i < m.length by omega) 0]
        by_cases h : l.getD i 0 = m.getD i 0
        · rw [if_pos h, ih, h]; simp
        · rw [if_neg h]
          simp only [List.cons.injEq, h, false_and, decide_false]) 0 k (Nat.zero_le _) (by omega)
    simpa using key
  · rw [if_neg (by omega)]
    have : l ≠ m := fun h => e (by rw [h])
    simp [this]
end Go.Proofs.Ytammpmadchekeaa.Pr
