/- IsName of the program and of the reference, plainly. -/
import Derived.Test.YtammpmadchekeaaQNice
import Derived.Test.YtammpmadchekeaaGf65
import Derived.Test.YtammpmadchekeaaGf66
namespace Go.Proofs.Ytammpmadchekeaa.Pr
open Go.RowKit Go.Proofs.YtammpmadchekeaaW.PrintWords Go.Proofs.Ytammpmadchekeaa.Ni
def chB (s : ByteArray) (i : Nat) : Bool := (decide (97 ≤ bt s i) && decide (bt s i ≤ 122)) || (decide (0 < i) && decide (48 ≤ bt s i) && decide (bt s i ≤ 57))
def chsB (s : ByteArray) (i : Nat) : Nat → Bool
  | 0 => true
  | d + 1 => chB s i && chsB s (i + 1) d
def nameB (s : ByteArray) : Bool := chsB s 0 s.size && (decide (1 ≤ s.size) && decide (s.size ≤ 8))
theorem spec_IsName_f (s : ByteArray) (hs : s.size ≤ 9223372036854775807) (k : Nat) (hk : 2 ^ 64 ≤ k) : spec_IsName.f k s = some (nameB s) := by
  have key := loop_up s.size (fun k i => spec_IsName.l0 k s (i : Int) = some (chsB s i (s.size - i) && (decide (1 ≤ s.size) && decide (s.size ≤ 8)))) 0
    (fun k _ => by
      simp only [spec_IsName.l0]
      rw [if_neg (by omega), Nat.sub_self]
      unfold spec_l01In.f chsB
      by_cases h1 : 1 ≤ s.size
      · rw [if_pos (by omega), decide_eq_true h1]
        simp only [Option.bind_some, Bool.true_and]
        congr 1
        rw [Bool.eq_iff_iff]; simp; omega
      · rw [if_neg (by omega), decide_eq_false h1]; rfl)
    (fun k i _ hi ih => by
      simp only [spec_IsName.l0]
      rw [if_pos (by omega), if_pos (by omega), wrap_nat hi (by omega), ih, show chsB s i (s.size - i) = (chB s i && chsB s (i + 1) (s.size - (i + 1))) by rw [show s.size - i = (s.size - (i + 1)) + 1 by omega]; rfl]
      have hF : chB s i = false → (chB s i && chsB s (i + 1) (s.size - (i + 1)) && (decide (1 ≤ s.size) && decide (s.size ≤ 8))) = false := fun h => by rw [h]; rfl
      have hT : chB s i = true → (chB s i && chsB s (i + 1) (s.size - (i + 1)) && (decide (1 ≤ s.size) && decide (s.size ≤ 8))) = (chsB s (i + 1) (s.size - (i + 1)) && (decide (1 ≤ s.size) && decide (s.size ≤ 8))) := fun h => by rw [h, Bool.true_and]
      generalize hc : bt s (i : Int) = c at *
      have hch : chB s i = ((decide (97 ≤ c) && decide (c ≤ 122)) || (decide (0 < i) && decide (48 ≤ c) && decide (c ≤ 57))) := by unfold chB; rw [hc]
      by_cases a1 : c ≥ 97
      · rw [if_pos a1]
        by_cases a2 : c ≤ 122
        · rw [if_pos a2, hT (by rw [hch]; simp; omega)]
        · rw [if_neg a2, hF (by rw [hch]; simp; omega)]
          split
          · rfl
          · split
            · rfl
            · rw [if_pos (by omega)]
      · rw [if_neg a1]
        by_cases b0 : (i : Int) = 0
        · rw [if_pos b0, hF (by rw [hch]; simp; omega)]
        · rw [if_neg b0]
          by_cases b1 : c < 48
          · rw [if_pos b1, hF (by rw [hch]; simp; omega)]
          · rw [if_neg b1]
            by_cases b2 : c > 57
            · rw [if_pos b2, hF (by rw [hch]; simp; omega)]
            · rw [if_neg b2, hT (by rw [hch]; simp; omega)]) 0 k (Nat.zero_le _) (by omega)
  unfold spec_IsName.f nameB
  simpa using key
theorem impl_IsName_f (s : ByteArray) (hs : s.size ≤ 9223372036854775807) (k : Nat) (hk : 2 ^ 64 ≤ k) : impl_IsName.f k s = some (nameB s) := by
  have key := loop_up s.size (fun k i => impl_IsName.l0 k s (i : Int) = some (chsB s i (s.size - i) && (decide (1 ≤ s.size) && decide (s.size ≤ 8)))) 0
    (fun k _ => by
      simp only [impl_IsName.l0]
      rw [if_neg (by omega), Nat.sub_self]
      unfold chsB
      by_cases h1 : 1 ≤ s.size
      · rw [if_pos (by omega), decide_eq_true h1]
        simp only [Bool.true_and]
        congr 1
        rw [Bool.eq_iff_iff]; simp; omega
      · rw [if_neg (by omega), decide_eq_false h1]; rfl)
    (fun k i _ hi ih => by
      simp only [impl_IsName.l0]
      rw [if_pos (by omega), if_pos (by omega), wrap_nat hi (by omega), ih, show chsB s i (s.size - i) = (chB s i && chsB s (i + 1) (s.size - (i + 1))) by rw [show s.size - i = (s.size - (i + 1)) + 1 by omega]; rfl]
      have hF : chB s i = false → (chB s i && chsB s (i + 1) (s.size - (i + 1)) && (decide (1 ≤ s.size) && decide (s.size ≤ 8))) = false := fun h => by rw [h]; rfl
      have hT : chB s i = true → (chB s i && chsB s (i + 1) (s.size - (i + 1)) && (decide (1 ≤ s.size) && decide (s.size ≤ 8))) = (chsB s (i + 1) (s.size - (i + 1)) && (decide (1 ≤ s.size) && decide (s.size ≤ 8))) := fun h => by rw [h, Bool.true_and]
      generalize hc : bt s (i : Int) = c at *
      have hch : chB s i = ((decide (97 ≤ c) && decide (c ≤ 122)) || (decide (0 < i) && decide (48 ≤ c) && decide (c ≤ 57))) := by unfold chB; rw [hc]
      by_cases a1 : c ≥ 97
      · rw [if_pos a1, if_pos (by omega)]
        by_cases a2 : c ≤ 122
        · rw [if_pos a2, hT (by rw [hch]; simp; omega)]
        · rw [if_neg a2, if_neg (by omega), hF (by rw [hch]; simp; omega)]
      · rw [if_neg a1]
        by_cases b1 : c ≥ 48
        · rw [if_pos b1]
          by_cases b2 : c ≤ 57
          · rw [if_pos b2]
            by_cases b0 : (i : Int) = 0
            · rw [if_pos b0, hF (by rw [hch]; simp; omega)]
            · rw [if_neg b0, hT (by rw [hch]; simp; omega)]
          · rw [if_neg b2, hF (by rw [hch]; simp; omega)]
        · rw [if_neg b1, hF (by rw [hch]; simp; omega)]) 0 k (Nat.zero_le _) (by omega)
  unfold impl_IsName.f nameB
  simpa using key
end Go.Proofs.Ytammpmadchekeaa.Pr
