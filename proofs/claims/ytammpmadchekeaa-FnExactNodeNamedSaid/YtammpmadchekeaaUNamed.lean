/- NodeNamed, plainly. -/
import Derived.Test.YtammpmadchekeaaUShowTy
import Derived.Test.YtammpmadchekeaaGf41
import Derived.Test.YtammpmadchekeaaGf43
namespace Go.Proofs.Ytammpmadchekeaa.Pr
open Go.RowKit Go.Proofs.YtammpmadchekeaaW.PrintWords Go.Proofs.Ytammpmadchekeaa.Ni
def namedI (ns : List PNode) (s : ByteArray) : Int := idxOf (fun n => decide (n.f0.toList = s.toList)) ns
theorem spec_NodeNamed_f (ns : List PNode) (ts : List PTie) (z : Int) (s : ByteArray) (hl : ns.length ≤ 9223372036854775807) (k : Nat) (hk : 2 ^ 64 ≤ k) : spec_NodeNamed.f k ns ts z s = some (namedI ns s) := by
  have key := loop_up ns.length (fun k i => (∀ j y, j < i → ns[j]? = some y → decide (y.f0.toList = s.toList) = false) → spec_NodeNamed.l0 k s ns ns.length (i : Int) = some (namedI ns s)) 0
    (fun k _ hb => by
      simp only [spec_NodeNamed.l0]
      rw [if_neg (by omega), namedI, idxOf_miss _ _ hb])
    (fun k i _ hi ih hb => by
      simp only [spec_NodeNamed.l0]
      rw [if_pos (by omega), if_pos (by omega), if_pos (by omega), rdN_nat, wrap_nat hi (by omega)]
      by_cases h : (ns.getD i z42).f0.toList = s.toList
      · rw [if_pos h, namedI, idxOf_hit _ ns i _ (getD_some hi z42) (decide_eq_true h) hb]
      · rw [if_neg h, ih]
        intro j y hj hy
        by_cases e : j = i
        · subst e
          rw [getD_some hi z42] at hy
          cases hy
          exact decide_eq_false h
        · exact hb j y (by omega) hy) 0 k (Nat.zero_le _) (by omega)
  unfold spec_NodeNamed.f
  exact key (fun j y hj => absurd hj (by omega))
end Go.Proofs.Ytammpmadchekeaa.Pr
