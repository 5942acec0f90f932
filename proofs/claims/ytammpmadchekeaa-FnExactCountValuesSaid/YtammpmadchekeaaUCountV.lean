/- CountValues of the program and of the reference, plainly. -/
import Derived.Test.YtammpmadchekeaaQNice
import Derived.Test.YtammpmadchekeaaGf14
import Derived.Test.YtammpmadchekeaaGf16
namespace Go.Proofs.Ytammpmadchekeaa.Pr
open Go.RowKit Go.Proofs.YtammpmadchekeaaW.PrintWords Go.Proofs.Ytammpmadchekeaa.Ni
theorem cnt0_cons (x : Int) (t : List Int) : cnt0 (x :: t) = (if x = 0 then 1 else 0) + cnt0 t := by
  unfold cnt0
  by_cases h : x = 0
  · simp [h]; omega
  · simp [h]
theorem cnt0_bd (l : List Int) : 0 ≤ cnt0 l ∧ cnt0 l ≤ l.length := by
  unfold cnt0
  have := List.length_filter_le (fun x : Int => x == 0) l
  omega
theorem spec_CountValues_f (l : List Int) (hl : l.length ≤ 9223372036854775807) (k : Nat) (hk : 2 ^ 64 ≤ k) : spec_CountValues.f k l = some (cnt0 l) := by
  have key := loop_up l.length (fun k i => ∀ a : Int, 0 ≤ a → a ≤ i → spec_CountValues.l0 k a l l.length (i : Int) = some (a + cnt0 (l.drop i))) 0
    (fun k _ a _ _ => by simp [spec_CountValues.l0, cnt0])
    (fun k i _ hi ih a h0 h1 => by
      simp only [spec_CountValues.l0]
      rw [if_pos (by omega), if_pos (by omega), if_pos (by omega), rd_nat, wrap_nat hi (by omega), drop_cons hi 0, cnt0_cons]
      by_cases h : l.getD i 0 = 0
      · rw [if_pos h, if_pos h, wrap_succ h0 (by omega), ih (a + 1) (by omega) (by omega)]
        congr 1; omega
      · rw [if_neg h, if_neg h, ih a h0 (by omega)]
        congr 1; omega) 0 k (Nat.zero_le _) (by omega)
  unfold spec_CountValues.f
  have := key 0 (by omega) (by omega)
  simpa using this
theorem impl_CountValues_f (l : List Int) (hl : l.length ≤ 9223372036854775807) (k : Nat) (hk : 2 ^ 64 ≤ k) : impl_CountValues.f k l = some (cnt0 l) := by
  have key := loop_up l.length (fun k i => ∀ a : Int, 0 ≤ a → a ≤ i → impl_CountValues.l0 k a l l.length (i : Int) = some (a + cnt0 (l.drop i))) 0
    (fun k _ a _ _ => by simp [impl_CountValues.l0, cnt0])
    (fun k i _ hi ih a h0 h1 => by
      simp only [impl_CountValues.l0]
      rw [if_pos (by omega), if_pos (by omega), if_pos (by omega), rd_nat, wrap_nat hi (by omega), drop_cons hi 0, cnt0_cons]
      by_cases h : l.getD i 0 = 0
      · rw [if_pos h, if_pos h, wrap_succ h0 (by omega), ih (a + 1) (by omega) (by omega)]
        congr 1; omega
      · rw [if_neg h, if_neg h, ih a h0 (by omega)]
        congr 1; omega) 0 k (Nat.zero_le _) (by omega)
  unfold impl_CountValues.f
  have := key 0 (by omega) (by omega)
  simpa using this
end Go.Proofs.Ytammpmadchekeaa.Pr
