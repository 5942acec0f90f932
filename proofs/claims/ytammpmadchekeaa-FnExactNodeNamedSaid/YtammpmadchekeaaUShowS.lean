/- Sizes, copies and comparisons of shows, plainly. -/
import Derived.Test.YtammpmadchekeaaUShowTy
import Derived.Test.YtammpmadchekeaaUSzNode
import Derived.Test.YtammpmadchekeaaGf40
import Derived.Test.YtammpmadchekeaaGf42
import Derived.Test.YtammpmadchekeaaGf44
namespace Go.Proofs.Ytammpmadchekeaa.Pr
open Go.RowKit Go.Proofs.YtammpmadchekeaaW.PrintWords Go.Proofs.Ytammpmadchekeaa.Ni
theorem szNodeS_l (l : List LNode) (hl : l.length ≤ 9223372036854775807) (hb : ∀ n ∈ l, n.f0.size ≤ 9223372036854775807 ∧ n.f1.length ≤ 9223372036854775807) (k : Nat) (hk : 2 ^ 64 ≤ k) :
    ∀ a : Int, 0 ≤ a → a ≤ 1048576 → ∃ r, laws_szNodeS.l0 k l a 0 = some r ∧ (r < 0 ∨ (0 ≤ r ∧ r ≤ a ∧ ∀ n ∈ l, n.f0.size ≤ 1048576 ∧ n.f1.length ≤ 1048576)) := by
  have key := loop_up l.length (fun k i => ∀ a : Int, 0 ≤ a → a ≤ 1048576 → ∃ r, laws_szNodeS.l0 k l a (i : Int) = some r ∧ (r < 0 ∨ (0 ≤ r ∧ r ≤ a ∧ ∀ n ∈ l.drop i, n.f0.size ≤ 1048576 ∧ n.f1.length ≤ 1048576))) 0
    (fun k _ a h0 h1 => ⟨a, by simp [laws_szNodeS.l0], .inr ⟨h0, Int.le_refl _, by simp⟩⟩)
    (fun k i _ hi ih a h0 h1 => by
      simp only [laws_szNodeS.l0]
      rw [if_pos (by omega), if_pos (by omega), rdLN_nat, wrap_nat hi (by omega)]
      have hm := hb _ (getD_mem hi z39)
      obtain ⟨r, hr, h⟩ := szNode_f (l.getD i z39).f0 (l.getD i z39).f1 (l.getD i z39).f2 hm.1 hm.2 a h0 h1
      rw [hr, Option.bind_some]
      rcases h with h | ⟨h2, h3, h4, h5⟩
      · rw [if_pos h]; exact ⟨_, rfl, .inl (by omega)⟩
      · rw [if_neg (by omega)]
        obtain ⟨q, hq, h⟩ := ih r h2 (by omega)
        refine ⟨q, hq, ?_⟩
        rcases h with h | ⟨h6, h7, h8⟩
        · exact .inl h
        · refine .inr ⟨h6, by omega, ?_⟩
          rw [drop_cons hi z39]
          intro n hn
          rcases List.mem_cons.1 hn with rfl | hn
          · exact ⟨h4, h5⟩
          · exact h8 n hn) 0 k (Nat.zero_le _) (by omega)
  intro a h0 h1
  simpa using key a h0 h1
theorem szShow_f (ns : List LNode) (ts : List LTie) (z : Int) (hn : ns.length ≤ 9223372036854775807) (hb : ∀ n ∈ ns, n.f0.size ≤ 9223372036854775807 ∧ n.f1.length ≤ 9223372036854775807) (ht : ts.length ≤ 9223372036854775807) (k : Nat) (hk : 2 ^ 64 ≤ k) (a : Int) (h0 : 0 ≤ a) (h1 : a ≤ 1048576) :
    ∃ r, laws_szShow.f k ns ts z a = some r ∧ (r < 0 ∨ (0 ≤ r ∧ r ≤ a ∧ SmallShow ns ts)) := by
  unfold laws_szShow.f laws_szNodeS.f
  rw [wrap_id (by omega) (by omega)]
  by_cases h : a - (ns.length : Int) < 0
  · rw [if_pos h, Option.bind_some, if_pos (by omega)]; exact ⟨_, rfl, .inl (by omega)⟩
  · rw [if_neg h]
    obtain ⟨r, hr, h⟩ := szNodeS_l ns hn hb k hk (a - ns.length) (by omega) (by omega)
    rw [hr, Option.bind_some]
    rcases h with h | ⟨h2, h3, h4⟩
    · rw [if_pos h]; exact ⟨_, rfl, .inl (by omega)⟩
    · rw [if_neg (by omega)]
      unfold laws_szTieS.f
      rw [wrap_id (by omega) (by omega)]
      by_cases h5 : r - (ts.length : Int) < 0
      · rw [if_pos h5, Option.bind_some, if_pos (by omega)]; exact ⟨_, rfl, .inl (by omega)⟩
      · rw [if_neg h5, Option.bind_some, if_neg h5]; exact ⟨_, rfl, .inr ⟨by omega, by omega, by omega, by omega, h4⟩⟩
theorem toNodeS_f (l : List LNode) (hl : l.length ≤ 1048576) (hb : ∀ n ∈ l, n.f0.size ≤ 1048576 ∧ n.f1.length ≤ 1048576) (k : Nat) (hk : 2 ^ 65 ≤ k) : laws_toNodeS.f k l = some (l.map cvN) := by
  have key := loop_up l.length (fun k i => laws_toNodeS.l0 k l ((l.map cvN).take i ++ List.replicate ((l.map cvN).length - i) z42) (i : Int) = some (l.map cvN)) (2 ^ 64)
    (fun k _ => by simp [laws_toNodeS.l0]; rw [List.take_of_length_le (by simp)])
    (fun k i hk hi ih => by
      simp only [laws_toNodeS.l0]
      have hm := hb _ (getD_mem hi z39)
      rw [if_pos (by omega), if_pos (by omega), rdLN_nat, toNode_f _ _ _ (by omega) k hk, Option.bind_some, if_pos (by simp; omega), wrap_nat hi (by omega), Int.toNat_natCast, set_step (l.map cvN) _ z42 i (by simpa using hi) _ (by rw [getD_map cvN l i z39 z42 zN]; rfl)]
      exact ih) 0 k (Nat.zero_le _) (by omega)
  unfold laws_toNodeS.f
  rw [if_pos (by omega), if_pos (by omega), Int.toNat_natCast]
  simpa using key
theorem toTieS_f (l : List LTie) (hl : l.length ≤ 1048576) (k : Nat) (hk : 2 ^ 64 ≤ k) : laws_toTieS.f k l = some (l.map cvT) := by
  have key := loop_up l.length (fun k i => laws_toTieS.l0 k l ((l.map cvT).take i ++ List.replicate ((l.map cvT).length - i) z77) (i : Int) = some (l.map cvT)) 0
    (fun k _ => by simp [laws_toTieS.l0]; rw [List.take_of_length_le (by simp)])
    (fun k i hk hi ih => by
      simp only [laws_toTieS.l0, laws_toTie.f]
      rw [if_pos (by omega), if_pos (by omega), rdLT_nat, Option.bind_some, if_pos (by simp; omega), wrap_nat hi (by omega), Int.toNat_natCast, set_step (l.map cvT) _ z77 i (by simpa using hi) _ (by rw [getD_map cvT l i z84 z77 zT]; rfl)]
      exact ih) 0 k (Nat.zero_le _) (by omega)
  unfold laws_toTieS.f
  rw [if_pos (by omega), if_pos (by omega), Int.toNat_natCast]
  simpa using key
theorem toShow_f (ns : List LNode) (ts : List LTie) (z : Int) (h : SmallShow ns ts) (k : Nat) (hk : 2 ^ 65 ≤ k) : laws_toShow.f k ns ts z = some (ns.map cvN, ts.map cvT, z) := by
  unfold laws_toShow.f
  rw [toNodeS_f ns h.1 h.2.2 k hk, Option.bind_some, toTieS_f ts h.2.1 k (by omega)]; rfl
theorem eqNodeS_refl (l : List PNode) (hl : l.length ≤ 1048576) (hb : ∀ n ∈ l, n.f0.size ≤ 1048576 ∧ n.f1.length ≤ 1048576) (k : Nat) (hk : 2 ^ 65 ≤ k) : laws_eqNodeS.f k l l = some true := by
  have key := loop_up l.length (fun k i => laws_eqNodeS.l0 k l l (i : Int) = some true) (2 ^ 64)
    (fun k _ => by simp [laws_eqNodeS.l0])
    (fun k i hk hi ih => by
      simp only [laws_eqNodeS.l0]
      have hm := hb _ (getD_mem hi z42)
      rw [if_pos (by omega), if_pos (by omega), if_pos (by omega), rdN_nat, eqNode_refl _ _ _ (by omega) k hk, Option.bind_some, if_pos rfl, wrap_nat hi (by omega)]
      exact ih) 0 k (Nat.zero_le _) (by omega)
  unfold laws_eqNodeS.f
  rw [if_pos rfl]
  simpa using key
theorem eqTieS_refl (l : List PTie) (hl : l.length ≤ 1048576) (k : Nat) (hk : 2 ^ 64 ≤ k) : laws_eqTieS.f k l l = some true := by
  have key := loop_up l.length (fun k i => laws_eqTieS.l0 k l l (i : Int) = some true) 0
    (fun k _ => by simp [laws_eqTieS.l0])
    (fun k i hk hi ih => by
      simp only [laws_eqTieS.l0, laws_eqTie.f]
      rw [if_pos (by omega), if_pos (by omega), if_pos (by omega), wrap_nat hi (by omega), ih]
      simp) 0 k (Nat.zero_le _) (by omega)
  unfold laws_eqTieS.f
  rw [if_pos rfl]
  simpa using key
theorem eqShow_refl (ns : List PNode) (ts : List PTie) (z : Int) (h : SmallP ns ts) (k : Nat) (hk : 2 ^ 65 ≤ k) : laws_eqShow.f k ns ts z ns ts z = some true := by
  unfold laws_eqShow.f
  rw [eqNodeS_refl ns h.1 h.2.2 k hk, Option.bind_some, if_pos rfl, eqTieS_refl ts h.2.1 k (by omega), Option.bind_some, if_pos rfl, if_pos rfl]
end Go.Proofs.Ytammpmadchekeaa.Pr
