/- What a call of each function below returns, over this translation; the conditions stand in each theorem. Laid by a program of this session. -/
import Derived.Test.YtammpmadchekeaaG0
import Derived.Test.YtammpmadchekeaaQOpen
import Derived.KernelRfl
namespace Go.Proofs.Ytammpmadchekeaa.Pr
open Go.RowKit Go.Proofs.YtammpmadchekeaaW.PrintWords Go.Proofs.YtammpmadchekeaaW.PrintLast Go.Proofs.YtammpmadchekeaaW.PrintMore
attribute [local go_sem] max2_int min2_int max_two min_two max_three min_three max_four min_four
set_option linter.unusedVariables false
set_option linter.unusedSimpArgs false

open Go.Proofs.Ytammpmadchekeaa.Op Go.ChangeShapes Go.WideShapes
def okS31 (x : S31) : Prop := (fun n_ : Int => (Lit.int .i64 n_).wf = true) x.f0 ∧ (fun l_ : List Int => l_.length ≤ maxLen ∧ ∀ x_ ∈ l_, (fun n_ : Int => (Lit.int .i64 n_).wf = true) x_) x.f1 ∧ (fun l_ : List Int => l_.length ≤ maxLen ∧ ∀ x_ ∈ l_, (fun n_ : Int => (Lit.int .i64 n_).wf = true) x_) x.f2
theorem op_k31 : Opens Try.prog k31 31 okS31 :=
  ⟨by kernel_rfl, fun {H enc w base fuel cs x} h => by
    obtain ⟨xs, n, _, _, hl, hlen, hf⟩ := DataW.trod_struct Try.underlying31 h
    have hl' : cs.length = 3 := hl.trans (by kernel_rfl)
    have hlen' : xs.length = 3 := hlen
    obtain ⟨y0, h0, o0⟩ := (Opens.int Try.underlying3 (by kernel_rfl)).fieldAt (hf 0 _ rfl) (by rw [List.getElem?_eq_getElem (by omega)]; rfl)
    obtain ⟨y1, h1, o1⟩ := (Opens.slice (Opens.int Try.underlying3 (by kernel_rfl)) Try.underlying22 (by kernel_rfl)).fieldAt (hf 1 _ rfl) (by rw [List.getElem?_eq_getElem (by omega)]; rfl)
    obtain ⟨y2, h2, o2⟩ := (Opens.slice (Opens.int Try.underlying3 (by kernel_rfl)) Try.underlying22 (by kernel_rfl)).fieldAt (hf 2 _ rfl) (by rw [List.getElem?_eq_getElem (by omega)]; rfl)
    have hk : k31.K w ⟨y0, y1, y2⟩ ((cs.drop 0).take k31.sz) := (pair_at (off := 0) h0 (pair_at (off := 1) h1 h2))
    have hcs : (cs.drop 0).take k31.sz = cs := by rw [List.drop_zero]; exact List.take_of_length_le (by rw [hl']; exact Nat.le_refl _)
    rw [hcs] at hk
    exact ⟨_, hk, o0, o1, o2⟩⟩
def okS39 (x : S39) : Prop := (fun s_ : ByteArray => s_.size ≤ maxLen) x.f0 ∧ (fun l_ : List Int => l_.length ≤ maxLen ∧ ∀ x_ ∈ l_, (fun n_ : Int => (Lit.int .i64 n_).wf = true) x_) x.f1 ∧ (fun n_ : Int => (Lit.int .i64 n_).wf = true) x.f2
theorem op_k39 : Opens Try.prog k39 39 okS39 :=
  ⟨by kernel_rfl, fun {H enc w base fuel cs x} h => by
    obtain ⟨xs, n, _, _, hl, hlen, hf⟩ := DataW.trod_struct Try.underlying39 h
    have hl' : cs.length = 3 := hl.trans (by kernel_rfl)
    have hlen' : xs.length = 3 := hlen
    obtain ⟨y0, h0, o0⟩ := (Opens.string Try.underlying9 (by kernel_rfl)).fieldAt (hf 0 _ rfl) (by rw [List.getElem?_eq_getElem (by omega)]; rfl)
    obtain ⟨y1, h1, o1⟩ := (Opens.slice (Opens.int Try.underlying3 (by kernel_rfl)) Try.underlying22 (by kernel_rfl)).fieldAt (hf 1 _ rfl) (by rw [List.getElem?_eq_getElem (by omega)]; rfl)
    obtain ⟨y2, h2, o2⟩ := (Opens.int Try.underlying3 (by kernel_rfl)).fieldAt (hf 2 _ rfl) (by rw [List.getElem?_eq_getElem (by omega)]; rfl)
    have hk : k39.K w ⟨y0, y1, y2⟩ ((cs.drop 0).take k39.sz) := (pair_at (off := 0) h0 (pair_at (off := 1) h1 h2))
    have hcs : (cs.drop 0).take k39.sz = cs := by rw [List.drop_zero]; exact List.take_of_length_le (by rw [hl']; exact Nat.le_refl _)
    rw [hcs] at hk
    exact ⟨_, hk, o0, o1, o2⟩⟩
def okS84 (x : S84) : Prop := (fun n_ : Int => (Lit.int .i64 n_).wf = true) x.f0 ∧ (fun n_ : Int => (Lit.int .i64 n_).wf = true) x.f1 ∧ (fun n_ : Int => (Lit.int .i64 n_).wf = true) x.f2 ∧ (fun n_ : Int => (Lit.int .i64 n_).wf = true) x.f3 ∧ (fun _ : Bool => True) x.f4
theorem op_k84 : Opens Try.prog k84 84 okS84 :=
  ⟨by kernel_rfl, fun {H enc w base fuel cs x} h => by
    obtain ⟨xs, n, _, _, hl, hlen, hf⟩ := DataW.trod_struct Try.underlying84 h
    have hl' : cs.length = 5 := hl.trans (by kernel_rfl)
    have hlen' : xs.length = 5 := hlen
    obtain ⟨y0, h0, o0⟩ := (Opens.int Try.underlying3 (by kernel_rfl)).fieldAt (hf 0 _ rfl) (by rw [List.getElem?_eq_getElem (by omega)]; rfl)
    obtain ⟨y1, h1, o1⟩ := (Opens.int Try.underlying3 (by kernel_rfl)).fieldAt (hf 1 _ rfl) (by rw [List.getElem?_eq_getElem (by omega)]; rfl)
    obtain ⟨y2, h2, o2⟩ := (Opens.int Try.underlying3 (by kernel_rfl)).fieldAt (hf 2 _ rfl) (by rw [List.getElem?_eq_getElem (by omega)]; rfl)
    obtain ⟨y3, h3, o3⟩ := (Opens.int Try.underlying3 (by kernel_rfl)).fieldAt (hf 3 _ rfl) (by rw [List.getElem?_eq_getElem (by omega)]; rfl)
    obtain ⟨y4, h4, o4⟩ := (Opens.bool Try.underlying4 (by kernel_rfl)).fieldAt (hf 4 _ rfl) (by rw [List.getElem?_eq_getElem (by omega)]; rfl)
    have hk : k84.K w ⟨y0, y1, y2, y3, y4⟩ ((cs.drop 0).take k84.sz) := (pair_at (off := 0) h0 (pair_at (off := 1) h1 (pair_at (off := 2) h2 (pair_at (off := 3) h3 h4))))
    have hcs : (cs.drop 0).take k84.sz = cs := by rw [List.drop_zero]; exact List.take_of_length_le (by rw [hl']; exact Nat.le_refl _)
    rw [hcs] at hk
    exact ⟨_, hk, o0, o1, o2, o3, o4⟩⟩
def okS49 (x : S49) : Prop := (fun l_ : List (S39) => l_.length ≤ maxLen ∧ ∀ x_ ∈ l_, okS39 x_) x.f0 ∧ (fun l_ : List (S84) => l_.length ≤ maxLen ∧ ∀ x_ ∈ l_, okS84 x_) x.f1 ∧ (fun n_ : Int => (Lit.int .i64 n_).wf = true) x.f2
theorem op_k49 : Opens Try.prog k49 49 okS49 :=
  ⟨by kernel_rfl, fun {H enc w base fuel cs x} h => by
    obtain ⟨xs, n, _, _, hl, hlen, hf⟩ := DataW.trod_struct Try.underlying49 h
    have hl' : cs.length = 3 := hl.trans (by kernel_rfl)
    have hlen' : xs.length = 3 := hlen
    obtain ⟨y0, h0, o0⟩ := (Opens.slice op_k39 Try.underlying46 (by kernel_rfl)).fieldAt (hf 0 _ rfl) (by rw [List.getElem?_eq_getElem (by omega)]; rfl)
    obtain ⟨y1, h1, o1⟩ := (Opens.slice op_k84 Try.underlying47 (by kernel_rfl)).fieldAt (hf 1 _ rfl) (by rw [List.getElem?_eq_getElem (by omega)]; rfl)
    obtain ⟨y2, h2, o2⟩ := (Opens.int Try.underlying3 (by kernel_rfl)).fieldAt (hf 2 _ rfl) (by rw [List.getElem?_eq_getElem (by omega)]; rfl)
    have hk : k49.K w ⟨y0, y1, y2⟩ ((cs.drop 0).take k49.sz) := (pair_at (off := 0) h0 (pair_at (off := 1) h1 h2))
    have hcs : (cs.drop 0).take k49.sz = cs := by rw [List.drop_zero]; exact List.take_of_length_le (by rw [hl']; exact Nat.le_refl _)
    rw [hcs] at hk
    exact ⟨_, hk, o0, o1, o2⟩⟩
end Go.Proofs.Ytammpmadchekeaa.Pr
