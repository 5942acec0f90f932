/- The texts of one claim, put together by a program of this session. -/
import Derived.Test.YtodfnelilhjoeaaBChc1x10
import Derived.Test.YtodfnelilhjoeaaBChc1x7
namespace Go.Proofs.Ytodfnelilhjoeaa.Pr
open Go.RowKit Go.Proofs.YtodfnelilhjoeaaW.PrintWords Go.Proofs.Ytodfnelilhjoeaa.Ni
def valAt (ns : List PNode) (i : Nat) (v : Int) : Bool := decide (v = 1) || (decide (v = -1) && decide (0 ≤ pwatchI ns ((i + 1 : Nat) : Int)))
def valsFrom (ns : List PNode) : Nat → List Int → Bool
  | _, [] => true
  | i, v :: t => valAt ns i v && valsFrom ns (i + 1) t
def lensFrom (ts : List PTie) : List Int → List Int → Bool
  | k :: L, n :: l => (decide ((rd_T90 ts k).f2 ≤ n) && decide (n ≤ (rd_T90 ts k).f3)) && lensFrom ts L l
  | _, _ => true
def isChoiceB (ns : List PNode) (ts : List PTie) (ln vs : List Int) : Bool := decide (ln.length = (freeIx ts).length) && (decide (vs.length = 3) && (lensFrom ts (freeIx ts) ln && valsFrom ns 0 vs))
def choiceB (ns : List PNode) (ts : List PTie) (z : Int) (ln vs : List Int) : Bool := pshowB ns ts z && isChoiceB ns ts ln vs
theorem impl_ch_l1 (ns : List PNode) (ts : List PTie) (z : Int) (vs : List Int) (hl : vs.length ≤ 1048576) (k : Nat) (hk : 2 ^ 64 ≤ k) : impl_isChoice.l1 k vs (vs.length : Int) 0 ns ts z = some (valsFrom ns 0 vs) := by
  have key := loop_up vs.length (fun k i => impl_isChoice.l1 k vs (vs.length : Int) (i : Int) ns ts z = some (valsFrom ns i (vs.drop i))) 0
    (fun k _ => by
      simp only [impl_isChoice.l1]
      rw [if_neg (by omega), List.drop_length]; rfl)
    (fun k i _ hi ih => by
      simp only [impl_isChoice.l1, impl_watcher.f, Option.bind_some]
      rw [if_pos (by omega), if_pos (by omega), if_pos (by omega), rd_nat, wrap_nat hi (by omega), drop_cons hi 0, valsFrom, ih]
      unfold valAt
      generalize vs.getD i 0 = v
      by_cases h1 : v = 1
      · rw [if_pos h1, if_neg (by omega), decide_eq_true h1]; rfl
      · rw [if_neg h1, decide_eq_false h1, Bool.false_or]
        by_cases h2 : v = -1
        · rw [if_pos h2, decide_eq_true h2, Bool.true_and]
          by_cases h3 : pwatchI ns ((i + 1 : Nat) : Int) < 0
          · rw [if_pos h3, decide_eq_false (show ¬ (0 : Int) ≤ _ by omega)]; rfl
          · rw [if_neg h3, decide_eq_true (show (0 : Int) ≤ _ by omega)]; rfl
        · rw [if_neg h2, decide_eq_false h2]; rfl) 0 k (Nat.zero_le _) (by omega)
  simpa using key
theorem spec_ch_l1 (ns : List PNode) (ts : List PTie) (z : Int) (vs : List Int) (hn : ns.length ≤ 1048576) (hl : vs.length ≤ 1048576) (k : Nat) (hk : 2 ^ 65 ≤ k) : spec_ChoiceOk.l1 k vs (vs.length : Int) 0 ns ts z = some (valsFrom ns 0 vs) := by
  have key := loop_up vs.length (fun k i => spec_ChoiceOk.l1 k vs (vs.length : Int) (i : Int) ns ts z = some (valsFrom ns i (vs.drop i))) (2 ^ 64)
    (fun k _ => by
      simp only [spec_ChoiceOk.l1]
      rw [if_neg (by omega), List.drop_length]; rfl)
    (fun k i hk hi ih => by
      simp only [spec_ChoiceOk.l1]
      rw [if_pos (by omega), if_pos (by omega), if_pos (by omega), rd_nat, wrap_nat hi (by omega), l08Watcher_f ns ts z _ (by omega) k hk, Option.bind_some, ← watch_same ns (by omega), drop_cons hi 0, valsFrom, ih]
      unfold valAt
      generalize vs.getD i 0 = v
      by_cases h1 : v = 1
      · rw [if_pos h1, if_neg (by omega), decide_eq_true h1]; rfl
      · rw [if_neg h1, decide_eq_false h1, Bool.false_or]
        by_cases h2 : v = -1
        · rw [if_pos h2, decide_eq_true h2, Bool.true_and]
          by_cases h3 : pwatchI ns ((i + 1 : Nat) : Int) < 0
          · rw [if_pos h3, decide_eq_false (show ¬ (0 : Int) ≤ _ by omega)]; rfl
          · rw [if_neg h3, decide_eq_true (show (0 : Int) ≤ _ by omega)]; rfl
        · rw [if_neg h2, decide_eq_false h2]; rfl) 0 k (Nat.zero_le _) (by omega)
  simpa using key
theorem impl_ch_l0 (ns : List PNode) (ts : List PTie) (z : Int) (L ln vs : List Int) (hL : ∀ x ∈ L, 0 ≤ x ∧ x < ts.length) (hn : L.length ≤ 1048576) (he : ln.length = L.length) (hl : vs.length ≤ 1048576) (k : Nat) (hk : 2 ^ 65 ≤ k) :
    impl_isChoice.l0 k L (L.length : Int) 0 ns ts z ln vs = some (lensFrom ts L ln && valsFrom ns 0 vs) := by
  have key := loop_up L.length (fun k i => impl_isChoice.l0 k L (L.length : Int) (i : Int) ns ts z ln vs = some (lensFrom ts (L.drop i) (ln.drop i) && valsFrom ns 0 vs)) (2 ^ 64)
    (fun k hk => by
      simp only [impl_isChoice.l0]
      rw [if_neg (by omega), impl_ch_l1 ns ts z vs hl k hk, List.drop_length]
      simp [lensFrom])
    (fun k i _ hi ih => by
      simp only [impl_isChoice.l0]
      have hm := hL _ (getD_mem hi 0)
      rw [if_pos (by omega), if_pos (by omega), if_pos (by omega), if_pos (by omega), rd_nat, rd_nat, if_pos hm.1, if_pos hm.2, wrap_nat hi (by omega), ih, drop_cons hi 0, drop_cons (show i < ln.length by omega) 0, lensFrom]
      generalize ln.getD i 0 = n
      generalize rd_T90 ts (L.getD i 0) = t
      by_cases h1 : n < t.f2
      · rw [if_pos h1, decide_eq_false (show ¬ t.f2 ≤ n by omega)]; rfl
      · rw [if_neg h1, decide_eq_true (show t.f2 ≤ n by omega), Bool.true_and]
        by_cases h2 : n > t.f3
        · rw [if_pos h2, decide_eq_false (show ¬ n ≤ t.f3 by omega)]; rfl
        · rw [if_neg h2, decide_eq_true (show n ≤ t.f3 by omega), Bool.true_and]) 0 k (Nat.zero_le _) (by omega)
  simpa using key
theorem spec_ch_l0 (ns : List PNode) (ts : List PTie) (z : Int) (L ln vs : List Int) (hN : ns.length ≤ 1048576) (hL : ∀ x ∈ L, 0 ≤ x ∧ x < ts.length) (hn : L.length ≤ 1048576) (he : ln.length = L.length) (hl : vs.length ≤ 1048576) (k : Nat) (hk : 2 ^ 66 ≤ k) :
    spec_ChoiceOk.l0 k L (L.length : Int) 0 ns ts z ln vs = some (lensFrom ts L ln && valsFrom ns 0 vs) := by
  have key := loop_up L.length (fun k i => spec_ChoiceOk.l0 k L (L.length : Int) (i : Int) ns ts z ln vs = some (lensFrom ts (L.drop i) (ln.drop i) && valsFrom ns 0 vs)) (2 ^ 65)
    (fun k hk => by
      simp only [spec_ChoiceOk.l0]
      rw [if_neg (by omega), spec_ch_l1 ns ts z vs hN hl k hk, List.drop_length]
      simp [lensFrom])
    (fun k i _ hi ih => by
      simp only [spec_ChoiceOk.l0]
      have hm := hL _ (getD_mem hi 0)
      rw [if_pos (by omega), if_pos (by omega), if_pos (by omega), if_pos (by omega), rd_nat, rd_nat, if_pos hm.1, if_pos hm.2, wrap_nat hi (by omega), ih, drop_cons hi 0, drop_cons (show i < ln.length by omega) 0, lensFrom, l01In_f, Option.bind_some]
      unfold inB
      generalize ln.getD i 0 = n
      generalize rd_T90 ts (L.getD i 0) = t
      cases decide (t.f2 ≤ n) && decide (n ≤ t.f3) <;> rfl) 0 k (Nat.zero_le _) (by omega)
  simpa using key
theorem impl_isChoice_f {ns : List PNode} {ts : List PTie} (z : Int) (ln vs : List Int) (hc : SmallP ns ts) (hl : vs.length ≤ 1048576) (k : Nat) (hk : 2 ^ 66 ≤ k) : impl_isChoice.f k ns ts z ln vs = some (isChoiceB ns ts ln vs) := by
  obtain ⟨k, rfl⟩ : ∃ m, k = m + 1 := ⟨k - 1, by omega⟩
  have hL := freeIx_len ts
  have ht := hc.2.1
  unfold impl_isChoice.f isChoiceB
  rw [freeTies_f ns ts z hc.2.1 _ (by omega), Option.bind_some]
  by_cases h1 : ln.length = (freeIx ts).length
  · rw [if_pos (by omega), decide_eq_true h1, Bool.true_and]
    by_cases h2 : vs.length = 3
    · rw [decide_eq_true h2, Bool.true_and, show ((vs.length : Int) != 3) = false by rw [bne_eq_false_iff_eq]; omega]
      simp only [impl_isChoice.j0, Bool.false_eq_true, if_false]
      exact impl_ch_l0 ns ts z (freeIx ts) ln vs (fun x hx => freeIx_in hx) (by omega) h1 hl k (by omega)
    · rw [decide_eq_false h2, show ((vs.length : Int) != 3) = true by rw [bne_iff_ne]; omega]; simp [impl_isChoice.j0]
  · rw [if_neg (by omega), decide_eq_false h1]; simp [impl_isChoice.j0]
theorem impl_ChoiceOk_f {ns : List PNode} {ts : List PTie} {z : Int} (ln vs : List Int) (hc : SmallP ns ts) (hl : vs.length ≤ 1048576) (k : Nat) (hk : 2 ^ 66 ≤ k) : impl_ChoiceOk.f k ns ts z ln vs = some (choiceB ns ts z ln vs) := by
  unfold impl_ChoiceOk.f choiceB
  rw [impl_ShowOk_f (fitN_of hc), Option.bind_some]
  cases hs : pshowB ns ts z with
  | false => rfl
  | true => rw [if_pos rfl, Bool.true_and, impl_isChoice_f z ln vs hc hl k hk]; rfl
theorem spec_ChoiceOk_f {ns : List PNode} {ts : List PTie} {z : Int} (ln vs : List Int) (hc : SmallP ns ts) (hl : vs.length ≤ 1048576) (k : Nat) (hk : 2 ^ 67 ≤ k) : spec_ChoiceOk.f k ns ts z ln vs = some (choiceB ns ts z ln vs) := by
  obtain ⟨k, rfl⟩ : ∃ m, k = m + 1 := ⟨k - 1, by omega⟩
  have hL := freeIx_len ts
  have ht := hc.2.1
  unfold spec_ChoiceOk.f choiceB
  rw [spec_ShowOk_f ns ts z (fitN_of hc) _ (by omega), Option.bind_some]
  cases hs : pshowB ns ts z with
  | false => rfl
  | true =>
    rw [if_pos rfl, Bool.true_and, l10Free_f ns ts z hc.2.1 _ (by omega), Option.bind_some]
    unfold isChoiceB
    by_cases h1 : ln.length = (freeIx ts).length
    · rw [if_pos (by omega), decide_eq_true h1, Bool.true_and]
      by_cases h2 : vs.length = 3
      · rw [decide_eq_true h2, Bool.true_and, show ((vs.length : Int) != 3) = false by rw [bne_eq_false_iff_eq]; omega]
        simp only [spec_ChoiceOk.j0, Bool.false_eq_true, if_false]
        exact spec_ch_l0 ns ts z (freeIx ts) ln vs hc.1 (fun x hx => freeIx_in hx) (by omega) h1 hl k (by omega)
      · rw [decide_eq_false h2, show ((vs.length : Int) != 3) = true by rw [bne_iff_ne]; omega]; simp [spec_ChoiceOk.j0]
    · rw [if_neg (by omega), decide_eq_false h1]; simp [spec_ChoiceOk.j0]
/-- A choice's values are values. -/
theorem valsFrom_all {ns : List PNode} : ∀ (l : List Int) (i : Nat), valsFrom ns i l = true → ∀ n ∈ l, -1 ≤ n ∧ n ≤ 1
  | [], _, _, n, hn => by simp at hn
  | v :: t, i, h, n, hn => by
    rw [valsFrom, Bool.and_eq_true] at h
    rcases List.mem_cons.1 hn with rfl | hn
    · have h1 := h.1
      unfold valAt at h1
      simp only [Bool.or_eq_true, Bool.and_eq_true, decide_eq_true_eq] at h1
      omega
    · exact valsFrom_all t _ h.2 n hn
theorem isChoice_vals {ns : List PNode} {ts : List PTie} {ln vs : List Int} (h : isChoiceB ns ts ln vs = true) : valsB vs = true := by
  unfold isChoiceB at h
  simp only [Bool.and_eq_true, decide_eq_true_eq] at h
  unfold valsB
  rw [decide_eq_true h.2.1, Bool.true_and, List.all_eq_true]
  intro n hn
  have := valsFrom_all vs 0 h.2.2.2 n hn
  simp; omega
end Go.Proofs.Ytodfnelilhjoeaa.Pr

