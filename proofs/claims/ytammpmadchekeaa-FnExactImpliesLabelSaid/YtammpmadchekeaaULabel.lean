/- LabelOk of the program and of the reference, plainly. -/
import Derived.Test.YtammpmadchekeaaQNice
import Derived.Test.YtammpmadchekeaaGf20
import Derived.Test.YtammpmadchekeaaGf21
namespace Go.Proofs.Ytammpmadchekeaa.Pr
open Go.RowKit Go.Proofs.YtammpmadchekeaaW.PrintWords Go.Proofs.YtammpmadchekeaaW.PrintMore Go.Proofs.Ytammpmadchekeaa.Ni
theorem l07Prop_f {x : Int} (h : litOk x = true) : spec_l07Prop.f x = some (prp x) := by
  have := (litOk_iff x).1 h
  unfold spec_l07Prop.f prp
  split
  · rw [wrap_id (by omega) (by omega)]
  · rfl
theorem propOf_f {x : Int} (h : litOk x = true) : impl_propOf.f x = some (prp x) := by
  have := (litOk_iff x).1 h
  unfold impl_propOf.f prp mx
  rw [wrap_id (by omega) (by omega)]
  congr 1
  split <;> split <;> omega
theorem spec_LabelOk_f (l : List Int) (hl : l.length ≤ 9223372036854775807) (k : Nat) (hk : 2 ^ 64 ≤ k) : spec_LabelOk.f k l = some (labB l) := by
  have key := loop_up l.length (fun k i => (0 < i → litOk (l.getD (i - 1) 0) = true) → spec_LabelOk.l0 k l l l.length (i : Int) = some (labFrom (if i = 0 then 0 else prp (l.getD (i - 1) 0)) (l.drop i))) 0
    (fun k _ _ => by simp [spec_LabelOk.l0, labFrom])
    (fun k i _ hi ih hb => by
      simp only [spec_LabelOk.l0]
      rw [if_pos (by omega), if_pos (by omega), if_pos (by omega), rd_nat, wrap_nat hi (by omega), drop_cons hi 0]
      unfold labFrom
      have ih' := fun h => ih (fun _ => h)
      simp only [Nat.add_sub_cancel, Nat.add_eq_zero_iff, Nat.one_ne_zero, and_false, if_false] at ih'
      by_cases h0 : l.getD i 0 = 0
      · rw [if_pos h0, h0]; simp [litOk]
      rw [if_neg h0]
      unfold spec_l01In.f
      by_cases h1 : l.getD i 0 ≥ -3
      · rw [if_pos h1, Option.bind_some]
        by_cases h2 : l.getD i 0 ≤ 3
        · have hok : litOk (l.getD i 0) = true := (litOk_iff _).2 ⟨h0, h1, h2⟩
          have hp := prp_pos hok
          rw [if_pos (by simpa using h2)]
          by_cases hi0 : i = 0
          · subst hi0
            rw [if_neg (by omega), ih' hok, hok]
            simp only [Bool.true_and, if_true]
            rw [decide_eq_true (show (0 : Int) < prp (l.getD 0 0) by omega)]
            rfl
          · rw [if_pos (by omega), wrap_pred (by omega) (by omega), if_pos (by omega), if_pos (by omega), rd_nat, l07Prop_f (hb (by omega)), Option.bind_some, l07Prop_f hok, Option.bind_some, if_neg hi0, hok]
            by_cases hlt : prp (l.getD (i - 1) 0) < prp (l.getD i 0)
            · rw [if_neg (by omega), ih' hok, decide_eq_true hlt]; rfl
            · rw [if_pos (by omega), decide_eq_false hlt]; rfl
        · rw [if_neg (by simpa using h2)]
          rw [show litOk (l.getD i 0) = false from Bool.eq_false_iff.2 fun h => by have := (litOk_iff _).1 h; omega]; rfl
      · rw [if_neg h1, Option.bind_some, if_neg (by decide)]
        rw [show litOk (l.getD i 0) = false from Bool.eq_false_iff.2 fun h => by have := (litOk_iff _).1 h; omega]; rfl) 0 k (Nat.zero_le _) (by omega)
  unfold spec_LabelOk.f labB
  have := key (fun h => absurd h (by omega))
  simpa using this
theorem impl_LabelOk_f (l : List Int) (hl : l.length ≤ 9223372036854775807) (k : Nat) (hk : 2 ^ 64 ≤ k) : impl_LabelOk.f k l = some (labB l) := by
  have key := loop_up l.length (fun k i => (0 < i → litOk (l.getD (i - 1) 0) = true) → impl_LabelOk.l0 k l l l.length (i : Int) = some (labFrom (if i = 0 then 0 else prp (l.getD (i - 1) 0)) (l.drop i))) 0
    (fun k _ _ => by simp [impl_LabelOk.l0, labFrom])
    (fun k i _ hi ih hb => by
      simp only [impl_LabelOk.l0]
      rw [if_pos (by omega), if_pos (by omega), if_pos (by omega), rd_nat, wrap_nat hi (by omega), drop_cons hi 0]
      unfold labFrom
      have ih' := fun h => ih (fun _ => h)
      simp only [Nat.add_sub_cancel, Nat.add_eq_zero_iff, Nat.one_ne_zero, and_false, if_false] at ih'
      by_cases h0 : l.getD i 0 = 0
      · rw [if_pos h0, h0]; simp [litOk]
      rw [if_neg h0]
      by_cases h1 : l.getD i 0 ≥ -3
      · rw [if_neg (by omega)]
        by_cases h2 : l.getD i 0 ≤ 3
        · have hok : litOk (l.getD i 0) = true := (litOk_iff _).2 ⟨h0, h1, h2⟩
          have hp := prp_pos hok
          rw [if_neg (by omega)]
          by_cases hi0 : i = 0
          · subst hi0
            rw [if_neg (by omega), ih' hok, hok]
            simp only [Bool.true_and, if_true]
            rw [decide_eq_true (show (0 : Int) < prp (l.getD 0 0) by omega)]
            rfl
          · rw [if_pos (by omega), wrap_pred (by omega) (by omega), if_pos (by omega), if_pos (by omega), rd_nat, propOf_f (hb (by omega)), Option.bind_some, propOf_f hok, Option.bind_some, if_neg hi0, hok]
            by_cases hlt : prp (l.getD (i - 1) 0) < prp (l.getD i 0)
            · rw [if_neg (by omega), ih' hok, decide_eq_true hlt]; rfl
            · rw [if_pos (by omega), decide_eq_false hlt]; rfl
        · rw [if_pos (by omega)]
          rw [show litOk (l.getD i 0) = false from Bool.eq_false_iff.2 fun h => by have := (litOk_iff _).1 h; omega]; rfl
      · rw [if_pos (by omega)]
        rw [show litOk (l.getD i 0) = false from Bool.eq_false_iff.2 fun h => by have := (litOk_iff _).1 h; omega]; rfl) 0 k (Nat.zero_le _) (by omega)
  unfold impl_LabelOk.f labB
  have := key (fun h => absurd h (by omega))
  simpa using this
end Go.Proofs.Ytammpmadchekeaa.Pr
