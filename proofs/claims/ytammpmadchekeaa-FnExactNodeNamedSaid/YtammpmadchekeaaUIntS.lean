/- toIntS copies, eqIntS compares: plainly. -/
import Derived.Test.YtammpmadchekeaaQNice
import Derived.Test.YtammpmadchekeaaGf15
import Derived.Test.YtammpmadchekeaaGf17
namespace Go.Proofs.Ytammpmadchekeaa.Pr
open Go.RowKit Go.Proofs.YtammpmadchekeaaW.PrintWords Go.Proofs.Ytammpmadchekeaa.Ni
theorem toIntS_f (l : List Int) (hl : l.length ≤ 35184372088832) (k : Nat) (hk : 2 ^ 64 ≤ k) : laws_toIntS.f k l = some l := by
  have key := loop_up l.length (fun k i => laws_toIntS.l0 k l (l.take i ++ List.replicate (l.length - i) 0) (i : Int) = some l) 0
    (fun k _ => by simp [laws_toIntS.l0])
    (fun k i _ hi ih => by
      simp only [laws_toIntS.l0]
      rw [if_pos (by omega), if_pos (by omega), if_pos (by simp; omega), wrap_nat hi (by omega), Int.toNat_natCast, set_step l 0 0 i hi _ (rd_nat l i)]
      exact ih) 0 k (Nat.zero_le _) (by omega)
  unfold laws_toIntS.f
  rw [if_pos (by omega), if_pos (by omega), Int.toNat_natCast]
  simpa using key
theorem eqIntS_f (l m : List Int) (hl : l.length ≤ 9223372036854775807) (k : Nat) (hk : 2 ^ 64 ≤ k) : laws_eqIntS.f k l m = some (decide (l = m)) := by
  unfold laws_eqIntS.f
  by_cases e : l.length = m.length
  · rw [if_pos (by omega)]
    have key := loop_up l.length (fun k i => laws_eqIntS.l0 k l m (i : Int) = some (decide (l.drop i = m.drop i))) 0
      (fun k _ => by
        simp only [laws_eqIntS.l0]
        rw [if_neg (by omega), List.drop_of_length_le (Nat.le_refl _), List.drop_of_length_le (by omega)]
        simp)
      (fun k i _ hi ih => by
        simp only [laws_eqIntS.l0]
        rw [if_pos (by omega), if_pos (by omega), if_pos (by omega), rd_nat, rd_nat, wrap_nat hi (by omega), drop_cons hi 0, drop_cons (show i < m.length by omega) 0]
        by_cases h : l.getD i 0 = m.getD i 0
        · rw [if_pos h, ih, h]; simp
        · rw [if_neg h]
          simp only [List.cons.injEq, h, false_and, decide_false]) 0 k (Nat.zero_le _) (by omega)
    simpa using key
  · rw [if_neg (by omega)]
    have : l ≠ m := fun h => e (by rw [h])
    simp [this]
theorem eqIntS_refl (l : List Int) (hl : l.length ≤ 9223372036854775807) (k : Nat) (hk : 2 ^ 64 ≤ k) : laws_eqIntS.f k l l = some true := by
  rw [eqIntS_f l l hl k hk]; simp
end Go.Proofs.Ytammpmadchekeaa.Pr
