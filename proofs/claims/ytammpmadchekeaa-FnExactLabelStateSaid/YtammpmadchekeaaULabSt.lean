/- The state of a label under values, plainly. -/
import Derived.Test.YtammpmadchekeaaQNice
import Derived.Test.YtammpmadchekeaaULabel
import Derived.Test.YtammpmadchekeaaUVals
import Derived.Test.YtammpmadchekeaaGf33
import Derived.Test.YtammpmadchekeaaGf34
namespace Go.Proofs.Ytammpmadchekeaa.Pr
open Go.RowKit Go.Proofs.YtammpmadchekeaaW.PrintWords Go.Proofs.YtammpmadchekeaaW.PrintMore Go.Proofs.Ytammpmadchekeaa.Ni
theorem labFrom_all : ∀ (l : List Int) (p : Int), labFrom p l = true → ∀ x ∈ l, litOk x = true := by
  intro l
  induction l with
  | nil => intro p _ x hx; simp at hx
  | cons y t ih =>
    intro p h x hx
    simp only [labFrom, Bool.and_eq_true] at h
    rcases List.mem_cons.1 hx with rfl | hx
    · exact h.1.1
    · exact ih _ h.2 x hx
theorem labB_all {l : List Int} (h : labB l = true) : ∀ x ∈ l, litOk x = true := labFrom_all l 0 h
theorem valsB_at {v : List Int} (h : valsB v = true) : v.length = 3 ∧ ∀ i, -1 ≤ v.getD i 0 ∧ v.getD i 0 ≤ 1 := by
  simp only [valsB, Bool.and_eq_true, decide_eq_true_eq, List.all_eq_true] at h
  refine ⟨h.1, fun i => ?_⟩
  by_cases hi : i < v.length
  · exact h.2 _ (getD_mem hi 0)
  · rw [List.getD_eq_getElem?_getD, List.getElem?_eq_none (by omega)]; simp
theorem mn_min (a b : Int) : mn a b = min a b := by unfold mn; split <;> omega
theorem holds_f {x : Int} {v : List Int} (hx : litOk x = true) (hv : valsB v = true) : impl_holds.f x v = some (if x < 0 then -(v.getD (prp x - 1).toNat 0) else v.getD (prp x - 1).toNat 0) := by
  have hp := prp_pos hx
  obtain ⟨h3, hb⟩ := valsB_at hv
  have hb' := hb (prp x - 1).toNat
  unfold impl_holds.f
  rw [propOf_f hx, Option.bind_some, wrap_id (i := prp x - 1) (by omega) (by omega), if_pos (by omega), if_pos (by omega)]
  have e : rd v (prp x - 1) = v.getD (prp x - 1).toNat 0 := rfl
  rw [e, wrap_id (by omega) (by omega)]
  split <;> rfl
theorem l07State_f (l v : List Int) (hl : l.length ≤ 9223372036854775807) (h1 : ∀ x ∈ l, litOk x = true) (hv : valsB v = true) (k : Nat) (hk : 2 ^ 64 ≤ k) : spec_l07State.f k l v = some (stB l v) := by
  obtain ⟨h3, hb⟩ := valsB_at hv
  have key := loop_up l.length (fun k i => ∀ a : Int, spec_l07State.l0 k v a l l.length (i : Int) = some (stFrom v a (l.drop i))) 0
    (fun k _ a => by simp [spec_l07State.l0, stFrom])
    (fun k i _ hi ih a => by
      simp only [spec_l07State.l0]
      have hx := h1 _ (getD_mem hi 0)
      have hp := prp_pos hx
      have hb' := hb (prp (l.getD i 0) - 1).toNat
      have e : rd v (prp (l.getD i 0) - 1) = v.getD (prp (l.getD i 0) - 1).toNat 0 := rfl
      rw [if_pos (by omega), if_pos (by omega), if_pos (by omega), rd_nat, wrap_nat hi (by omega), drop_cons hi 0, l07Prop_f hx, Option.bind_some, wrap_id (i := prp (l.getD i 0) - 1) (by omega) (by omega), if_pos (by omega), if_pos (by omega), e, wrap_id (by omega) (by omega), ih, ih, mn_min, mn_min]
      simp only [stFrom]
      split <;> rfl) 0 k (Nat.zero_le _) (by omega)
  unfold spec_l07State.f stB
  simpa using key 1
def labStB (l v : List Int) : Int := if labB l && valsB v then stB l v else -1
theorem spec_LabelState_f (l v : List Int) (hl : l.length ≤ 9223372036854775807) (hv : v.length ≤ 9223372036854775807) (k : Nat) (hk : 2 ^ 64 ≤ k) : spec_LabelState.f k l v = some (labStB l v) := by
  unfold spec_LabelState.f labStB
  rw [spec_LabelOk_f l hl k hk, Option.bind_some, spec_ValuesOk_f v hv k hk]
  cases h : labB l
  · rfl
  · rw [if_pos rfl, Option.bind_some]
    cases h2 : valsB v
    · rfl
    · rw [if_pos rfl, l07State_f l v hl (labB_all h) h2 k hk]; rfl
theorem impl_LabelState_f (l v : List Int) (hl : l.length ≤ 9223372036854775807) (k : Nat) (hk : 2 ^ 65 ≤ k) : impl_LabelState.f k l v = some (labStB l v) := by
  unfold impl_LabelState.f labStB
  obtain ⟨m, rfl⟩ : ∃ m, k = m + 1 := ⟨k - 1, by omega⟩
  rw [impl_LabelOk_f l hl _ (by omega), Option.bind_some]
  cases h : labB l
  · rfl
  · rw [if_pos rfl]
    unfold impl_ValuesOk.f
    rw [Option.bind_some]
    cases h2 : valsB v
    · rfl
    · simp only [impl_LabelState.j0, Bool.not_true, Bool.false_eq_true, if_false]
      have key := loop_up l.length (fun k i => ∀ a : Int, impl_LabelState.l0 k v a l l.length (i : Int) = some (stFrom v a (l.drop i))) 0
        (fun k _ a => by simp [impl_LabelState.l0, stFrom])
        (fun k i _ hi ih a => by
          simp only [impl_LabelState.l0]
          have hx := labB_all h _ (getD_mem hi 0)
          rw [if_pos (by omega), if_pos (by omega), if_pos (by omega), rd_nat, wrap_nat hi (by omega), drop_cons hi 0, holds_f hx h2, Option.bind_some, ih, mn_min]
          rfl) 0 m (Nat.zero_le _) (by omega)
      have := key 1
      rw [List.drop_zero] at this
      rw [show ((0 : Nat) : Int) = 0 from rfl] at this
      rw [this]; rfl
end Go.Proofs.Ytammpmadchekeaa.Pr
