/- ValuesOk of the reference, plainly. -/
import Derived.Test.YtammpmadchekeaaQNice
import Derived.Test.YtammpmadchekeaaGf18
namespace Go.Proofs.Ytammpmadchekeaa.Pr
open Go.RowKit Go.Proofs.YtammpmadchekeaaW.PrintWords Go.Proofs.Ytammpmadchekeaa.Ni
theorem spec_ValuesOk_f (l : List Int) (hl : l.length ≤ 9223372036854775807) (k : Nat) (hk : 2 ^ 64 ≤ k) : spec_ValuesOk.f k l = some (valsB l) := by
  have key := loop_up l.length (fun k i => spec_ValuesOk.l0 k l l l.length (i : Int) = some (decide (l.length = 3) && (l.drop i).all (fun n => decide (-1 ≤ n) && decide (n ≤ 1)))) 0
    (fun k _ => by
      simp only [spec_ValuesOk.l0]
      rw [if_neg (by omega), List.drop_of_length_le (Nat.le_refl _), List.all_nil, Bool.and_true]
      congr 1
      rw [Bool.eq_iff_iff, beq_iff_eq, decide_eq_true_eq]; omega)
    (fun k i _ hi ih => by
      simp only [spec_ValuesOk.l0]
      rw [if_pos (by omega), if_pos (by omega), if_pos (by omega), rd_nat, wrap_nat hi (by omega), drop_cons hi 0, List.all_cons]
      unfold spec_l01In.f
      by_cases h1 : l.getD i 0 ≥ -1
      · rw [if_pos h1, Option.bind_some]
        by_cases h2 : l.getD i 0 ≤ 1
        · rw [if_pos (by simpa using h2), ih, decide_eq_true (show (-1 : Int) ≤ l.getD i 0 from h1), decide_eq_true h2, Bool.true_and, Bool.true_and]
        · rw [if_neg (by simpa using h2), decide_eq_false h2, Bool.and_false, Bool.false_and, Bool.and_false]
      · rw [if_neg h1, Option.bind_some, if_neg (by decide), decide_eq_false (show ¬ (-1 : Int) ≤ l.getD i 0 from h1), Bool.false_and, Bool.false_and, Bool.and_false]) 0 k (Nat.zero_le _) (by omega)
  unfold spec_ValuesOk.f valsB
  simpa using key
end Go.Proofs.Ytammpmadchekeaa.Pr
