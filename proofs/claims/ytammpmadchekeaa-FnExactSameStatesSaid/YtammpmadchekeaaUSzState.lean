/- Sizes, copies and comparisons of states, plainly. -/
import Derived.Test.YtammpmadchekeaaQNice
import Derived.Test.YtammpmadchekeaaUIntS
import Derived.Test.YtammpmadchekeaaGf26
import Derived.Test.YtammpmadchekeaaGf28
import Derived.Test.YtammpmadchekeaaGf30
namespace Go.Proofs.Ytammpmadchekeaa.Pr
open Go.RowKit Go.Proofs.YtammpmadchekeaaW.PrintWords Go.Proofs.Ytammpmadchekeaa.Ni
theorem szState_f (n : Int) (t v : List Int) (ht : t.length ≤ 9223372036854775807) (hv : v.length ≤ 9223372036854775807) (a : Int) (h0 : 0 ≤ a) (h1 : a ≤ 1048576) :
    ∃ r, laws_szState.f n t v a = some r ∧ (r < 0 ∨ (0 ≤ r ∧ r ≤ a ∧ t.length ≤ 1048576 ∧ v.length ≤ 1048576)) := by
  have sz : ∀ (l : List Int), l.length ≤ 9223372036854775807 → ∀ a : Int, 0 ≤ a → a ≤ 1048576 → laws_szIntS.f l a = some (if a - l.length < 0 then -1 else a - l.length) := by
    intro l hl a h0 h1
    unfold laws_szIntS.f
    rw [wrap_id (by omega) (by omega)]
    split <;> rfl
  unfold laws_szState.f
  rw [sz t ht a h0 h1, Option.bind_some]
  by_cases h : a - (t.length : Int) < 0
  · rw [if_pos h, if_pos (by omega)]; exact ⟨_, rfl, .inl (by omega)⟩
  · rw [if_neg h, if_neg h, sz v hv _ (by omega) (by omega), Option.bind_some]
    by_cases h2 : a - (t.length : Int) - v.length < 0
    · rw [if_pos h2, if_pos (by omega)]; exact ⟨_, rfl, .inl (by omega)⟩
    · rw [if_neg h2, if_neg h2]; exact ⟨_, rfl, .inr ⟨by omega, by omega, by omega, by omega⟩⟩
theorem toState_f (n : Int) (t v : List Int) (ht : t.length ≤ 35184372088832) (hv : v.length ≤ 35184372088832) (k : Nat) (hk : 2 ^ 64 ≤ k) : laws_toState.f k n t v = some (n, t, v) := by
  unfold laws_toState.f
  rw [toIntS_f t ht k hk, Option.bind_some, toIntS_f v hv k hk]; rfl
theorem eqState_refl (n : Int) (t v : List Int) (ht : t.length ≤ 9223372036854775807) (hv : v.length ≤ 9223372036854775807) (k : Nat) (hk : 2 ^ 64 ≤ k) : laws_eqState.f k n t v n t v = some true := by
  unfold laws_eqState.f
  rw [if_pos rfl, eqIntS_refl t ht k hk, Option.bind_some, if_pos rfl, eqIntS_refl v hv k hk, Option.bind_some, if_pos rfl]
end Go.Proofs.Ytammpmadchekeaa.Pr
