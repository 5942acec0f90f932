/- The texts of one claim, put together. Laid by a program of this session. -/
import Derived.Test.YtpoffpdaadhkgaaMShowOk2
import Derived.Test.YtpoffpdaadhkgaaMShowOk3
import Derived.Test.YtpoffpdaadhkgaaMShowOk4
namespace Go.Proofs.Ytpoffpdaadhkgaa.Pr
open Go.RowKit Go.Proofs.YtpoffpdaadhkgaaW.PrintWords Go.Proofs.Ytpoffpdaadhkgaa.Ni
theorem idx_at {α : Type} (p : α → Bool) (l : List α) (i : Nat) (x : α) (h : l[i]? = some x) (hx : p x = true) : decide (idxOf p l = (i : Int)) = (l.take i).all (fun y => !p y) := by
  have hi : i < l.length := by
    rcases Nat.lt_or_ge i l.length with h' | h'
    · exact h'
    · rw [List.getElem?_eq_none h'] at h; exact absurd h (by simp)
  by_cases ha : (l.take i).all (fun y => !p y) = true
  · rw [ha, decide_eq_true_eq]
    refine idxOf_hit p l i x h hx fun j y hj hy => ?_
    have := List.all_eq_true.1 ha y (List.mem_of_getElem? (i := j) (by rw [List.getElem?_take_of_lt hj]; exact hy))
    simpa using this
  · rw [Bool.eq_false_iff.2 ha, decide_eq_false_iff_not]
    intro e
    apply ha
    rw [List.all_eq_true]
    intro y hy
    obtain ⟨j, hj, rfl⟩ := List.mem_iff_getElem.1 hy
    have hj' : j < i := by rw [List.length_take] at hj; omega
    unfold idxOf at e
    cases hf : l.findIdx? p with
    | none => rw [hf] at e; simp only at e; omega
    | some m =>
      rw [hf] at e
      have : m = i := by simp only at e; omega
      subst this
      obtain ⟨_, _, h3⟩ := List.findIdx?_eq_some_iff_getElem.1 hf
      have := h3 j hj'
      rw [List.getElem_take]
      simpa using this
theorem all_pair {α : Type} (a b : α → Bool) (c : Bool) (l : List α) : l.all (fun m => a m && (c || b m)) = (l.all a && (c || l.all b)) := by
  induction l with
  | nil => simp
  | cons x l ih => rw [List.all_cons, List.all_cons, List.all_cons, ih]; cases a x <;> cases b x <;> cases c <;> simp
theorem bne_dec (a b : Int) : (!(a != b)) = decide (a = b) := by rw [Bool.eq_iff_iff]; simp
theorem snodeC_at {ns : List PNode} {i : Nat} (h : i < ns.length) : snodeC ns (rd_T120 ns (i : Int)) i = nodeAt ns i := by
  rw [rdN_nat]
  unfold snodeC nodeAt
  have hs := getD_some h z120
  generalize ns.getD i z120 = y at hs
  rw [bne_dec, bne_dec, bne_dec, namedI, watchI, idx_at _ ns i y hs (decide_eq_true rfl), idx_at _ ns i y hs (decide_eq_true rfl), Bool.and_assoc, ← all_pair]
  rfl
theorem snodes_from {ns : List PNode} : ∀ (d i : Nat), i + d = ns.length → snodesFrom ns i d = nodesFrom ns i d
  | 0, _, _ => rfl
  | d + 1, i, h => by rw [snodesFrom, nodesFrom, snodeC_at (by omega), snodes_from d (i + 1) (by omega)]
theorem watch_same (ns : List PNode) {p : Int} (hp : 0 < p) : pwatchI ns p = watchI ns p := by
  unfold pwatchI watchI
  rw [decide_eq_true hp]
  simp only [Bool.true_and]
theorem watched_same (ns : List PNode) (lb : List Int) {x : Int} (hx : litOk x = true) : watchedB ns lb x = swatchB ns lb x := by
  unfold watchedB watchedC swatchB swatchC hasB
  rw [watch_same ns (by have := prp_pos hx; omega)]
  congr 3
  rw [Bool.eq_iff_iff]; simp
theorem nodeW_same {ns : List PNode} {n : PNode} (h : ∀ x ∈ n.f1, litOk x = true) : nodeW ns n = snodeW ns n := by
  unfold nodeW snodeW
  rw [Bool.eq_iff_iff, Bool.not_eq_true', List.any_eq_false, List.all_eq_true]
  constructor
  · intro hh x hx
    have := hh x hx
    rw [← watched_same ns _ (h x hx)]; simpa using this
  · intro hh x hx
    have := hh x hx
    rw [← watched_same ns _ (h x hx)] at this; simpa using this
theorem nodes_same (ns : List PNode) : snodesB ns = (areNodesB ns && ns.all (nodeW ns)) := by
  have e : snodesB ns = (areNodesB ns && ns.all (snodeW ns)) := by
    unfold snodesB areNodesB inB
    rw [snodes_from ns.length 0 (by omega), bne_dec, show rd_T120 ns 0 = ns.getD 0 z120 from rdN_nat ns 0]
    rw [show (decide ((1 : Int) ≤ (ns.length : Int)) && decide ((ns.length : Int) ≤ 7)) = (decide (1 ≤ ns.length) && decide (ns.length ≤ 7)) by rw [Bool.eq_iff_iff]; simp only [Bool.and_eq_true, decide_eq_true_eq]; omega]
    rw [show (!(decide (((ns.getD 0 z120).f1.length : Int) > 0))) = decide ((ns.getD 0 z120).f1.length = 0) by rw [Bool.eq_iff_iff]; simp only [Bool.not_eq_true', decide_eq_true_eq, decide_eq_false_iff_not]; omega]
  rw [e]
  cases h : areNodesB ns with
  | false => rfl
  | true =>
    rw [Bool.true_and, Bool.true_and, Bool.eq_iff_iff, List.all_eq_true, List.all_eq_true]
    constructor
    · intro hh n hn; rw [nodeW_same (areNodesB_lit h n hn)]; exact hh n hn
    · intro hh n hn; rw [← nodeW_same (areNodesB_lit h n hn)]; exact hh n hn
def stiesFrom (ns : List PNode) (ts : List PTie) (i : Nat) : Nat → Bool
  | 0 => true
  | d + 1 => tieB ns ts i && stiesFrom ns ts (i + 1) d
theorem in_same (n : Nat) (x : Int) : inB x 0 ((n : Int) - 1) = nodeIn n x := by
  unfold inB nodeIn
  rw [Bool.eq_iff_iff]; simp; omega
theorem tie_same {ns : List PNode} {ts : List PTie} {i : Nat} (h : i < ts.length) : tieB ns ts i = ptieB ns ts i := by
  unfold tieB ptieB
  have hs := getD_some h z126
  rw [rdT_nat]
  generalize ts.getD i z126 = t at hs
  obtain ⟨tf, tt, tl, th, tb⟩ := t
  show tieC tf tt tl th tb ns ts i = ptieC tf tt tl th tb ns ts i
  unfold tieC ptieC spanB
  rw [in_same, in_same]
  cases tb with
  | false =>
    rw [Bool.eq_iff_iff]
    simp only [Bool.not_false, Bool.true_or, Bool.and_true, Bool.and_eq_true, Bool.not_eq_true', beq_eq_false_iff_ne, decide_eq_true_eq, decide_eq_false_iff_not]
    constructor
    · rintro ⟨⟨⟨⟨⟨a1, a2⟩, a3⟩, a4⟩, a5⟩, a6⟩
      exact ⟨⟨⟨⟨⟨a1, a2⟩, a3⟩, by omega, by omega⟩, by omega, by omega⟩, a6⟩
    · rintro ⟨⟨⟨⟨⟨a1, a2⟩, a3⟩, a4, a5⟩, a6, a7⟩, a8⟩
      exact ⟨⟨⟨⟨⟨a1, a2⟩, a3⟩, by omega⟩, by omega⟩, a8⟩
  | true =>
    have hf : (freeI ts tt == (i : Int)) = !((ts.take i).any fun u => u.f4 && decide (u.f1 = tt)) := by
      rw [show (freeI ts tt == (i : Int)) = decide (freeI ts tt = (i : Int)) by rw [Bool.eq_iff_iff]; simp, freeI, idx_at _ ts i _ hs (by simp), Bool.eq_iff_iff]
      simp
      exact forall_congr' fun x => forall_congr' fun _ => by cases x.f4 <;> simp
    rw [hf]
    rw [Bool.eq_iff_iff]
    simp only [Bool.not_true, Bool.false_or, Bool.and_eq_true, Bool.not_eq_true', beq_eq_false_iff_ne, decide_eq_true_eq, decide_eq_false_iff_not, beq_iff_eq, bne_eq_false_iff_eq]
    constructor
    · rintro ⟨⟨⟨⟨⟨⟨a1, a2⟩, a3⟩, a4⟩, a5⟩, a6⟩, ⟨⟨⟨⟨b1, b2⟩, b3⟩, b4⟩, b5⟩⟩
      exact ⟨⟨⟨⟨⟨⟨a1, a2⟩, a3⟩, by omega, by omega⟩, by omega, by omega⟩, a6⟩, ⟨⟨⟨⟨by omega, b2⟩, b3⟩, b4.symm⟩, b5⟩⟩
    · rintro ⟨⟨⟨⟨⟨⟨a1, a2⟩, a3⟩, a4, a5⟩, a6, a7⟩, a8⟩, ⟨⟨⟨⟨b1, b2⟩, b3⟩, b4⟩, b5⟩⟩
      exact ⟨⟨⟨⟨⟨⟨a1, a2⟩, a3⟩, by omega⟩, by omega⟩, a8⟩, ⟨⟨⟨⟨by omega, b2⟩, b3⟩, b4.symm⟩, b5⟩⟩
theorem ties_from {ns : List PNode} {ts : List PTie} : ∀ (d i : Nat), i + d = ts.length → stiesFrom ns ts i d = tiesFrom ns ts i d
  | 0, _, _ => rfl
  | d + 1, i, h => by rw [stiesFrom, tiesFrom, tie_same (by omega), ties_from d (i + 1) (by omega)]
theorem spec_ShowOk_l (ns : List PNode) (ts : List PTie) (z : Int) (ht : ts.length ≤ 14) : ∀ (d i k : Nat), i + d = ts.length → d < k → spec_ShowOk.l0 k ts.length (i : Int) ns ts z = some (stiesFrom ns ts i d) := by
  intro d
  induction d with
  | zero =>
    intro i k hi hk
    obtain ⟨m, rfl⟩ : ∃ m, k = m + 1 := ⟨k - 1, by omega⟩
    simp only [spec_ShowOk.l0]
    rw [if_neg (by omega)]; rfl
  | succ d ih =>
    intro i k hi hk
    obtain ⟨m, rfl⟩ : ∃ m, k = m + 1 := ⟨k - 1, by omega⟩
    simp only [spec_ShowOk.l0]
    rw [if_pos (by omega), spec_l08Tie.f, if_pos (by omega), Option.bind_some, stiesFrom, wrap_nat (n := ts.length) (by omega) (by omega), ih (i + 1) m (by omega) (by omega)]
    cases tieB ns ts i <;> rfl
theorem spec_ShowOk_f (ns : List PNode) (ts : List PTie) (z : Int) (hf : fitN ns = true) (k : Nat) (hk : 2 ^ 64 ≤ k) : spec_ShowOk.f k ns ts z = some (pshowB ns ts z) := by
  obtain ⟨m, rfl⟩ : ∃ m, k = m + 1 := ⟨k - 1, by omega⟩
  unfold spec_ShowOk.f spec_l08Nodes.f pshowB areTiesB
  rw [if_pos hf, Option.bind_some, nodes_same]
  simp only [spec_ShowOk.j0, l01In_f, Option.bind_some, if_true]
  cases h1 : areNodesB ns with
  | false => rfl
  | true =>
    cases h2 : ns.all (nodeW ns) with
    | false => simp
    | true =>
      rw [Bool.and_true, if_pos rfl]
      by_cases h3 : (ts.length : Int) > 14
      · rw [if_pos h3, decide_eq_false (show ¬ ts.length ≤ 14 by omega)]; simp
      · rw [if_neg h3, decide_eq_true (show ts.length ≤ 14 by omega)]
        have hl := spec_ShowOk_l ns ts z (by omega) ts.length 0 m (by omega) (by omega)
        rw [show ((0 : Nat) : Int) = 0 from rfl] at hl
        rw [hl, ties_from _ _ (by omega)]
        by_cases h4 : z < 1
        · rw [show inB z 1 10 = false by unfold inB; rw [decide_eq_false (show ¬ (1 : Int) ≤ z by omega)]; rfl, decide_eq_true h4]; simp
        · by_cases h5 : 10 < z
          · rw [show inB z 1 10 = false by unfold inB; rw [decide_eq_false (show ¬ z ≤ (10 : Int) by omega)]; simp, decide_eq_true h5]; simp
          · rw [show inB z 1 10 = true by unfold inB; rw [decide_eq_true (show (1 : Int) ≤ z by omega), decide_eq_true (show z ≤ (10 : Int) by omega)]; rfl, decide_eq_false h4, decide_eq_false h5]; simp
theorem fitN_of {ns : List PNode} {ts : List PTie} (h : SmallP ns ts) : fitN ns = true := by
  unfold fitN
  rw [List.all_eq_true]
  intro n hn
  have := h.2.2 n hn
  simp; omega
theorem impl_ShowOk_f {ns : List PNode} {ts : List PTie} {z : Int} (hf : fitN ns = true) : impl_ShowOk.f ns ts z = some (pshowB ns ts z) := by
  unfold impl_ShowOk.f
  rw [if_pos hf]
end Go.Proofs.Ytpoffpdaadhkgaa.Pr
namespace Go.Proofs.Ytpoffpdaadhkgaa.Pure
open Go.RowKit Go.Proofs.Ytpoffpdaadhkgaa.Pr Go.Proofs.Ytpoffpdaadhkgaa.Ni Go.Proofs.YtpoffpdaadhkgaaW.PrintWords Go.Proofs.YtpoffpdaadhkgaaW.PrintMore
theorem FnExactShowOk : laws_FnExactShowOk.Pure := by
  rintro ⟨ns, ts, z⟩ ⟨⟨hn, hb⟩, ⟨ht, _⟩, _⟩
  simp only [maxLen] at hn ht
  refine ⟨2 ^ 70, ?_⟩
  unfold laws_FnExactShowOk.f
  obtain ⟨r, hr, h⟩ := szShow_f ns ts z hn (fun n hn => by have := hb n hn; exact ⟨by simpa [maxLen] using this.1, by simpa [maxLen] using this.2.1.1⟩) ht (2 ^ 70) (by omega) 1048576 (by omega) (by omega)
  rw [hr, Option.bind_some]
  rcases h with h | ⟨_, _, h⟩
  · rw [if_pos h]
  rw [if_neg (by omega)]
  have hc := h.cv
  have hf := fitN_of hc
  simp only [toShow_f ns ts z h (2 ^ 70) (by omega), spec_ShowOk_f _ _ z hf (2 ^ 70) (by omega), impl_ShowOk_f (ts := ts.map cvT) (z := z) hf, eqShow_refl _ _ _ hc (2 ^ 70) (by omega), Option.bind_some, if_true, bne_self_eq_false, Bool.false_eq_true, if_false]
end Go.Proofs.Ytpoffpdaadhkgaa.Pure
