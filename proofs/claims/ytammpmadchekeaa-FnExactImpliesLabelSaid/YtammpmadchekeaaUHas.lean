/- Membership and implication of labels, plainly. -/
import Derived.Test.YtammpmadchekeaaQNice
import Derived.Test.YtammpmadchekeaaULabel
import Derived.Test.YtammpmadchekeaaGf60
import Derived.Test.YtammpmadchekeaaGf31
import Derived.Test.YtammpmadchekeaaGf32
namespace Go.Proofs.Ytammpmadchekeaa.Pr
open Go.RowKit Go.Proofs.YtammpmadchekeaaW.PrintWords Go.Proofs.Ytammpmadchekeaa.Ni
theorem l07Has_f (l : List Int) (x : Int) (hl : l.length ≤ 9223372036854775807) (k : Nat) (hk : 2 ^ 64 ≤ k) : spec_l07Has.f k l x = some (l.any fun y => decide (x = y)) := by
  have key := loop_up l.length (fun k i => spec_l07Has.l0 k x l l.length (i : Int) = some ((l.drop i).any fun y => decide (x = y))) 0
    (fun k _ => by simp [spec_l07Has.l0])
    (fun k i _ hi ih => by
      simp only [spec_l07Has.l0]
      rw [if_pos (by omega), if_pos (by omega), if_pos (by omega), rd_nat, wrap_nat hi (by omega), drop_cons hi 0, List.any_cons]
      by_cases h : l.getD i 0 = x
      · rw [if_pos h, decide_eq_true h.symm]; rfl
      · rw [if_neg h, ih, decide_eq_false (fun e => h e.symm)]; rfl) 0 k (Nat.zero_le _) (by omega)
  unfold spec_l07Has.f
  simpa using key
def impB (a b : List Int) : Bool := labB a && labB b && b.all fun x => a.any fun y => decide (x = y)
theorem spec_ImpliesLabel_f (a b : List Int) (ha : a.length ≤ 9223372036854775807) (hb : b.length ≤ 9223372036854775807) (k : Nat) (hk : 2 ^ 65 ≤ k) : spec_ImpliesLabel.f k a b = some (impB a b) := by
  have key : ∀ k, 2 ^ 64 + b.length < k → spec_ImpliesLabel.l0 k a b b.length 0 = some (b.all fun x => a.any fun y => decide (x = y)) := by
    intro k hk
    have := loop_up b.length (fun k i => spec_ImpliesLabel.l0 k a b b.length (i : Int) = some ((b.drop i).all fun x => a.any fun y => decide (x = y))) (2 ^ 64)
      (fun k _ => by simp [spec_ImpliesLabel.l0])
      (fun k i hk hi ih => by
        simp only [spec_ImpliesLabel.l0]
        rw [if_pos (by omega), if_pos (by omega), if_pos (by omega), rd_nat, wrap_nat hi (by omega), drop_cons hi 0, List.all_cons, l07Has_f a _ ha k hk, Option.bind_some]
        cases h : a.any fun y => decide (b.getD i 0 = y)
        · rfl
        · rw [if_pos rfl, ih]; rfl) 0 k (Nat.zero_le _) (by omega)
    simpa using this
  unfold spec_ImpliesLabel.f impB
  obtain ⟨m, rfl⟩ : ∃ m, k = m + 1 := ⟨k - 1, by omega⟩
  rw [spec_LabelOk_f a ha _ (by omega), Option.bind_some, spec_LabelOk_f b hb _ (by omega)]
  cases labB a
  · rfl
  · rw [if_pos rfl, Option.bind_some]
    cases labB b
    · rfl
    · simp only [spec_ImpliesLabel.j0, Bool.not_true, Bool.false_eq_true, if_false]
      rw [key m (by omega)]; rfl
theorem impl_ImpliesLabel_f (a b : List Int) (ha : a.length ≤ 9223372036854775807) (hb : b.length ≤ 9223372036854775807) (k : Nat) (hk : 2 ^ 64 ≤ k) : impl_ImpliesLabel.f k a b = some (impB a b) := by
  unfold impl_ImpliesLabel.f impB
  rw [impl_LabelOk_f a ha k hk, Option.bind_some, impl_LabelOk_f b hb k hk]
  cases labB a
  · rfl
  · rw [if_pos rfl, Option.bind_some]
    cases labB b <;> rfl
end Go.Proofs.Ytammpmadchekeaa.Pr
