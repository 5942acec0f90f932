/- Data that came in, read into Lean values kind by kind: no condition beside the kinds' own. -/
import Derived.ChangeArms
import Derived.ChangeSlices
import Derived.WideShapes
import Derived.WalkKit
import Derived.Deep.Slices
import Derived.Test.YtammpmadchekeaaWWords
namespace Go.Proofs.Ytammpmadchekeaa.Op
open Go.RowKit Go.ChangeShapes Go.WideShapes Go.Proofs.YtammpmadchekeaaW.PrintWords

structure Opens {α : Type} (P : Program) (d : Kd α) (t : TypeId) (ok : α → Prop) : Prop where
  cells : P.cellsOf t = d.sz
  op : ∀ {H : Type} {enc : TypeId × Value → H} {w : World} {base fuel : Nat} {cs : List Value} {x : DataW H × List MemPlace}, DataW.trod enc P w base (fun _ => true) true fuel t cs = some x → ∃ y, d.K w y cs ∧ ok y

theorem Opens.int {P : Program} {t : TypeId} {k : IntKind} (ht : P.underlying t = some (.int k)) (hc : P.cellsOf t = 1) : Opens P (Kd.int k) t (fun n => (Lit.int k n).wf = true) :=
  ⟨hc, fun h => by
    obtain ⟨n, rfl, _, hw⟩ := DataW.trod_int ht h
    exact ⟨n, rfl, hw⟩⟩
theorem Opens.bool {P : Program} {t : TypeId} (ht : P.underlying t = some .bool) (hc : P.cellsOf t = 1) : Opens P Kd.bool t (fun _ => True) :=
  ⟨hc, fun h => by
    obtain ⟨n, rfl, _⟩ := DataW.trod_bool ht h
    exact ⟨n, rfl, trivial⟩⟩
theorem Opens.string {P : Program} {t : TypeId} (ht : P.underlying t = some .string) (hc : P.cellsOf t = 1) : Opens P Kd.string t (fun s => s.size ≤ maxLen) :=
  ⟨hc, fun h => by
    obtain ⟨n, rfl, _, hw⟩ := DataW.trod_string ht h
    exact ⟨n, rfl, hw⟩⟩
theorem choose_list {β : Type} (Q : Nat → β → Prop) (n : Nat) (h : ∀ i, i < n → ∃ y, Q i y) : ∃ l : List β, l.length = n ∧ ∀ i y, l[i]? = some y → Q i y := by
  induction n with
  | zero => exact ⟨[], rfl, fun i y h => by simp at h⟩
  | succ n ih =>
    obtain ⟨l, hl, hq⟩ := ih (fun i hi => h i (by omega))
    obtain ⟨y, hy⟩ := h n (by omega)
    refine ⟨l ++ [y], by simp [hl], fun i z hz => ?_⟩
    rcases Nat.lt_or_ge i l.length with hi | hi
    · rw [List.getElem?_append_left hi] at hz
      exact hq i z hz
    · have hlt := (List.getElem?_eq_some_iff.1 hz).1
      rw [List.length_append, List.length_singleton] at hlt
      have e : i = l.length := by omega
      subst e
      have hz' : y = z := by simpa using hz
      subst hz'
      rw [hl]
      exact hy
theorem Opens.slice {α : Type} {P : Program} {d : Kd α} {t e : TypeId} {ok : α → Prop} (he : Opens P d e ok) (ht : P.underlying t = some (.slice e)) (hc : P.cellsOf t = 1) :
    Opens P (Kd.slice e d) t (fun l => l.length ≤ maxLen ∧ ∀ x ∈ l, ok x) :=
  ⟨hc, fun {H enc w base fuel cs x} h => by
    rcases DataW.trod_slice ht h with ⟨rfl, _⟩ | ⟨a, len, cap, elems, rest, n, _, rfl, _, hb, hl, hm, hlen, hel, _, _⟩
    · exact ⟨[], ⟨none, 0, rfl, Nat.le_refl _, rfl, by simp, fun h0 => absurd h0 (by simp)⟩, by simp⟩
    · have key : ∀ i, i < len → ∃ y, ok y ∧ ∃ c, c.length = d.sz ∧ d.K w y c ∧ ∀ j u, c[j]? = some u → w.cell? (a.add (i * d.sz + j)) = some u := by
        intro i hi
        have hi' := hel i hi
        rw [List.getElem?_eq_getElem (by omega), Option.bind_eq_some_iff] at hi'
        obtain ⟨cs', h1, h2⟩ := hi'
        obtain ⟨y, hk, hy⟩ := he.op h2
        refine ⟨y, hy, cs', d.K_len hk, hk, fun j u hu => ?_⟩
        have := (World.cells?_some h1).2.2 j (by
          have := (List.getElem?_eq_some_iff.1 hu).1
          rw [d.K_len hk] at this
          rw [he.cells]; exact this)
        rw [he.cells] at this
        rw [Addr.add_add] at this
        rw [this, hu]
      obtain ⟨l, hll, hq⟩ := choose_list _ len key
      refine ⟨l, ⟨some a, cap, by rw [hll], by omega, rfl, by rw [hll]; simp only [maxLen] at hm; omega, fun h0 => ⟨a, rfl, fun j p hj => ?_⟩⟩, by omega, fun x hx => ?_⟩
      · obtain ⟨_, hc'⟩ := hq j p hj
        exact hc'
      · obtain ⟨i, hi⟩ := List.getElem?_of_mem hx
        exact (hq i x hi).1⟩
/-- Two fields that stand in line. -/
theorem pair_at {α β : Type} {a : Kd α} {b : Kd β} {w : World} {x : α} {y : β} {cs : List Value} {off : Nat} (h0 : a.K w x ((cs.drop off).take a.sz)) (h1 : b.K w y ((cs.drop (off + a.sz)).take b.sz)) :
    (Kd.pair a b).K w (x, y) ((cs.drop off).take (Kd.pair a b).sz) :=
  ⟨_, _, by show (cs.drop off).take (a.sz + b.sz) = _; rw [List.take_add, List.drop_drop], h0, h1⟩
theorem Opens.fieldAt {α : Type} {P : Program} {d : Kd α} {t : TypeId} {ok : α → Prop} (ho : Opens P d t ok) {H : Type} {enc : TypeId × Value → H} {w : World} {base fuel off : Nat} {cs : List Value} {x : Option (DataW H × List MemPlace)}
    (h : DataW.trod enc P w base (fun _ => true) true fuel t ((cs.drop off).take (P.cellsOf t)) = x) (hx : x.isSome = true) : ∃ y, d.K w y ((cs.drop off).take d.sz) ∧ ok y := by
  obtain ⟨z, rfl⟩ := Option.isSome_iff_exists.1 hx
  obtain ⟨y, hk, hy⟩ := ho.op h
  rw [ho.cells] at hk
  exact ⟨y, hk, hy⟩
end Go.Proofs.Ytammpmadchekeaa.Op
