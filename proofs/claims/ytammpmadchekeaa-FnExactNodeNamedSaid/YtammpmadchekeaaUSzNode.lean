/- Sizes, copies and comparisons of nodes and states, plainly. -/
import Derived.Test.YtammpmadchekeaaQNice
import Derived.Test.YtammpmadchekeaaUIntS
import Derived.Test.YtammpmadchekeaaGf35
import Derived.Test.YtammpmadchekeaaGf37
import Derived.Test.YtammpmadchekeaaGf39
namespace Go.Proofs.Ytammpmadchekeaa.Pr
open Go.RowKit Go.Proofs.YtammpmadchekeaaW.PrintWords Go.Proofs.Ytammpmadchekeaa.Ni
theorem szIntS_f (l : List Int) (hl : l.length ≤ 9223372036854775807) (a : Int) (h0 : 0 ≤ a) (h1 : a ≤ 1048576) : laws_szIntS.f l a = some (if a - l.length < 0 then -1 else a - l.length) := by
  unfold laws_szIntS.f
  rw [wrap_id (by omega) (by omega)]
  split <;> rfl
theorem szNode_f (s : ByteArray) (l : List Int) (n : Int) (hs : s.size ≤ 9223372036854775807) (hl : l.length ≤ 9223372036854775807) (a : Int) (h0 : 0 ≤ a) (h1 : a ≤ 1048576) :
    ∃ r, laws_szNode.f s l n a = some r ∧ (r < 0 ∨ (0 ≤ r ∧ r ≤ a ∧ s.size ≤ 1048576 ∧ l.length ≤ 1048576)) := by
  unfold laws_szNode.f
  rw [wrap_id (by omega) (by omega)]
  by_cases h : a - (s.size : Int) < 0
  · rw [if_pos h]; exact ⟨_, rfl, .inl (by omega)⟩
  · rw [if_neg h, szIntS_f l hl _ (by omega) (by omega), Option.bind_some]
    by_cases h2 : a - (s.size : Int) - l.length < 0
    · rw [if_pos h2, if_pos (by omega)]; exact ⟨_, rfl, .inl (by omega)⟩
    · rw [if_neg h2, if_neg h2]; exact ⟨_, rfl, .inr ⟨by omega, by omega, by omega, by omega⟩⟩
theorem toNode_f (s : ByteArray) (l : List Int) (n : Int) (hl : l.length ≤ 35184372088832) (k : Nat) (hk : 2 ^ 64 ≤ k) : laws_toNode.f k s l n = some (s, l, n) := by
  unfold laws_toNode.f
  rw [toIntS_f l hl k hk]; rfl
theorem eqNode_refl (s : ByteArray) (l : List Int) (n : Int) (hl : l.length ≤ 9223372036854775807) (k : Nat) (hk : 2 ^ 64 ≤ k) : laws_eqNode.f k s l n s l n = some true := by
  unfold laws_eqNode.f
  rw [if_pos rfl, eqIntS_refl l hl k hk, Option.bind_some, if_pos rfl, if_pos rfl]
end Go.Proofs.Ytammpmadchekeaa.Pr
