/- Plain lemmas on numbers, lists and rounds: no condition beside those that each states. -/
import Derived.Test.YtammpmadchekeaaWWords
namespace Go.Proofs.Ytammpmadchekeaa.Ni
open Go.RowKit Go.Proofs.YtammpmadchekeaaW.PrintWords

theorem wrap_succ {i : Int} (h0 : 0 ≤ i) (h : i < 9223372036854775807) : wrap64 (i + 1) = i + 1 := by
  unfold wrap64; omega
theorem wrap_id {i : Int} (h0 : -9223372036854775808 ≤ i) (h : i ≤ 9223372036854775807) : wrap64 i = i := by
  unfold wrap64; omega
theorem wrap_nat {i n : Nat} (h : i < n) (hn : n ≤ 9223372036854775807) : wrap64 ((i : Int) + 1) = ((i + 1 : Nat) : Int) := by
  unfold wrap64; omega
theorem wrap_pred {i : Nat} (h : 0 < i) (hn : i ≤ 9223372036854775807) : wrap64 ((i : Int) - 1) = ((i - 1 : Nat) : Int) := by
  unfold wrap64; omega
theorem wf_i64 {n : Int} (h : (Lit.int .i64 n).wf = true) : -9223372036854775808 ≤ n ∧ n ≤ 9223372036854775807 := by
  simp [Lit.wf, IntKind.min, IntKind.max, IntKind.signed, IntKind.bits] at h
  omega
theorem rd_nat (l : List Int) (i : Nat) : rd l (i : Int) = l.getD i 0 := by unfold rd; rw [Int.toNat_natCast]
theorem drop_cons {α : Type} {l : List α} {i : Nat} (h : i < l.length) (d : α) : l.drop i = l.getD i d :: l.drop (i + 1) := by
  rw [List.drop_eq_getElem_cons h, List.getD_eq_getElem?_getD, List.getElem?_eq_getElem h]; rfl
theorem getD_mem {α : Type} {l : List α} {i : Nat} (h : i < l.length) (d : α) : l.getD i d ∈ l := by
  rw [List.getD_eq_getElem?_getD, List.getElem?_eq_getElem h]; exact List.getElem_mem h
theorem getD_some {α : Type} {l : List α} {i : Nat} (h : i < l.length) (d : α) : l[i]? = some (l.getD i d) := by
  rw [List.getD_eq_getElem?_getD, List.getElem?_eq_getElem h]; rfl
theorem set_step {α : Type} (ys : List α) (z d : α) (i : Nat) (h : i < ys.length) (x : α) (hx : x = ys.getD i d) : (ys.take i ++ List.replicate (ys.length - i) z).set i x = ys.take (i + 1) ++ List.replicate (ys.length - (i + 1)) z := by
  subst hx
  have e : ys.length - i = (ys.length - (i + 1)) + 1 := by omega
  rw [e, List.replicate_succ, List.set_append_right _ _ (by simp; omega)]
  have e2 : i - (ys.take i).length = 0 := by simp; omega
  rw [e2, List.set_cons_zero, List.take_succ_eq_append_getElem h, List.append_assoc]
  congr 2
  simp [List.getD_eq_getElem?_getD, List.getElem?_eq_getElem h]
theorem loop_up (n : Nat) (Q : Nat → Nat → Prop) (K : Nat) (hend : ∀ k, K ≤ k → Q (k + 1) n) (hstep : ∀ k i, K ≤ k → i < n → Q k (i + 1) → Q (k + 1) i) : ∀ (i k : Nat), i ≤ n → K + (n - i) < k → Q k i := by
  have key : ∀ (d i k : Nat), i ≤ n → n - i = d → K + d < k → Q k i := by
    intro d
    induction d with
    | zero =>
      intro i k hi hd hk
      obtain ⟨m, rfl⟩ : ∃ m, k = m + 1 := ⟨k - 1, by omega⟩
      obtain rfl : i = n := by omega
      exact hend m (by omega)
    | succ d ih =>
      intro i k hi hd hk
      obtain ⟨m, rfl⟩ : ∃ m, k = m + 1 := ⟨k - 1, by omega⟩
      exact hstep m i (by omega) (by omega) (ih (i + 1) m (by omega) (by omega) (by omega))
  intro i k hi hk
  exact key (n - i) i k hi rfl hk
theorem set_mid (pre : List Int) (x y : Int) (post : List Int) : (pre ++ x :: post).set pre.length y = pre ++ y :: post := by
  rw [List.set_append_right _ _ (Nat.le_refl _), Nat.sub_self, List.set_cons_zero]

/-! ### the first place at which a test holds -/
def idxOf {α : Type} (p : α → Bool) (l : List α) : Int := match l.findIdx? p with | some i => i | none => -1
theorem idxOf_hit {α : Type} (p : α → Bool) (l : List α) (k : Nat) (x : α) (hk : l[k]? = some x) (hx : p x = true) (hb : ∀ j y, j < k → l[j]? = some y → p y = false) : idxOf p l = (k : Int) := by
  have h : l.findIdx? p = some k := by
    rw [List.findIdx?_eq_some_iff_getElem]
    obtain ⟨hl, he⟩ := List.getElem?_eq_some_iff.1 hk
    refine ⟨hl, by rw [he]; exact hx, fun j hj => ?_⟩
    have := hb j _ hj (List.getElem?_eq_getElem (by omega))
    simp [this]
  simp [idxOf, h]
theorem idxOf_miss {α : Type} (p : α → Bool) (l : List α) (hb : ∀ j y, j < l.length → l[j]? = some y → p y = false) : idxOf p l = -1 := by
  have h : l.findIdx? p = none := by
    rw [List.findIdx?_eq_none_iff]
    intro x hx
    obtain ⟨j, hj⟩ := List.getElem?_of_mem hx
    exact hb j x (List.getElem?_eq_some_iff.1 hj).1 hj
  simp [idxOf, h]
theorem idxOf_any {α : Type} (p : α → Bool) (l : List α) : decide (0 ≤ idxOf p l) = l.any p := by
  unfold idxOf
  cases h : l.findIdx? p with
  | some i =>
    rw [List.findIdx?_eq_some_iff_getElem] at h
    obtain ⟨hl, hp, _⟩ := h
    have : l.any p = true := List.any_eq_true.2 ⟨_, List.getElem_mem hl, hp⟩
    rw [this]
    exact decide_eq_true (Int.natCast_nonneg _)
  | none =>
    rw [List.findIdx?_eq_none_iff] at h
    have : l.any p = false := by rw [List.any_eq_false]; intro x hx; rw [h x hx]; simp
    rw [this]; rfl
theorem idxOf_bd {α : Type} (p : α → Bool) (l : List α) : -1 ≤ idxOf p l ∧ idxOf p l < l.length := by
  unfold idxOf
  cases h : l.findIdx? p with
  | some i =>
    rw [List.findIdx?_eq_some_iff_getElem] at h
    obtain ⟨hl, _⟩ := h
    simp only; omega
  | none => simp only; omega

/-! ### what the program computes, plainly -/
def cnt0 (l : List Int) : Int := ((l.filter (· == 0)).length : Int)
def litOk (x : Int) : Bool := !(x == 0) && decide (-3 ≤ x) && decide (x ≤ 3)
def prp (x : Int) : Int := if x < 0 then -x else x
def labFrom (p : Int) : List Int → Bool
  | [] => true
  | x :: t => litOk x && decide (p < prp x) && labFrom (prp x) t
def labB (l : List Int) : Bool := labFrom 0 l
def valsB (l : List Int) : Bool := decide (l.length = 3) && l.all (fun n => decide (-1 ≤ n) && decide (n ≤ 1))
theorem litOk_iff (x : Int) : litOk x = true ↔ x ≠ 0 ∧ -3 ≤ x ∧ x ≤ 3 := by
  simp [litOk, and_assoc]
theorem prp_pos {x : Int} (h : litOk x = true) : 1 ≤ prp x ∧ prp x ≤ 3 := by
  have := (litOk_iff x).1 h
  unfold prp; split <;> omega
/-- The state of a label's literals under values: as the loop reckons it. -/
def stFrom (v : List Int) (a : Int) : List Int → Int
  | [] => a
  | x :: t => stFrom v (min a (if x < 0 then -(v.getD (prp x - 1).toNat 0) else v.getD (prp x - 1).toNat 0)) t
def stB (l v : List Int) : Int := stFrom v 1 l
def isNameB (s : ByteArray) : Bool := decide (1 ≤ s.size) && decide (s.size ≤ 8) && (List.range s.size).all fun i => let c := bt s i; (decide (97 ≤ c) && decide (c ≤ 122)) || (decide (0 < i) && decide (48 ≤ c) && decide (c ≤ 57))
end Go.Proofs.Ytammpmadchekeaa.Ni
