/- What a call of each function below returns, over this translation; the conditions stand in each theorem. Laid by a program of this session. -/
import Derived.Test.YtammpmadchekeaaG0
namespace Go.Proofs.Ytammpmadchekeaa.Pr
open Go.RowKit Go.Proofs.YtammpmadchekeaaW.PrintWords Go.Proofs.YtammpmadchekeaaW.PrintLast Go.Proofs.YtammpmadchekeaaW.PrintMore
attribute [local go_sem] max2_int min2_int max_two min_two max_three min_three max_four min_four
set_option linter.unusedVariables false
set_option linter.unusedSimpArgs false

/-! ### spec_NodeNamed: function 41 -/
def spec_NodeNamed.l0 : Nat → ByteArray → List (S42) → Int → Int → Option (Int)
  | 0, _, _, _, _ => none
  | k + 1, x1, x8, x9, x10 => if x10 < x9 then (if 0 ≤ x10 then (if x10 < (x8.length : Int) then (if ((rd_T42 x8 x10).f0).toList = x1.toList then (some x10) else (spec_NodeNamed.l0 k x1 x8 x9 (wrap64 (x10 + 1)))) else (none)) else (none)) else (some (-1))
def spec_NodeNamed.f (k : Nat) (l0_0 : List (S42)) (l0_1 : List (S77)) (a0_2 : Int) (a1 : ByteArray) : Option (Int) := spec_NodeNamed.l0 k a1 l0_0 (l0_0.length : Int) 0
set_option maxHeartbeats 8000000 in
set_option maxRecDepth 100000 in
theorem spec_NodeNamed.calls (k : Nat) (A0_0 : Option Addr) (c0_0 : Nat) (l0_0 : List (S42)) (A0_1 : Option Addr) (c0_1 : Nat) (l0_1 : List (S77)) (a0_2 : Int) (a1 : ByteArray) (r : Int) (w : World) (hr0_0 : Kd.C k42 w A0_0 l0_0.length l0_0) (hc0_0 : l0_0.length ≤ c0_0) (hr0_1 : Kd.C k77 w A0_1 l0_1.length l0_1) (hc0_1 : l0_1.length ≤ c0_1) (h : spec_NodeNamed.f k l0_0 l0_1 a0_2 a1 = some r) :
    Calls Try.prog 41 #[.agg #[.slice A0_0 l0_0.length c0_0, .slice A0_1 l0_1.length c0_1, .int .i64 a0_2], .string a1] w fun e w' => e = .returned (.int .i64 r) ∧ Below w.heap.size w w' := by
  have hu55 := Try.underlying55
  have hu42 := Try.underlying42
  have HR0_0 := Aside0.mk hr0_0
  have HC0_0 := Aside0.mk hc0_0
  clear hr0_0 hc0_0
  have HR0_1 := Aside0.mk hr0_1
  have HC0_1 := Aside0.mk hc0_1
  clear hr0_1 hc0_1
  have HB := Aside0.mk (Below.refl w.heap.size w)
  have H : (spec_NodeNamed.l0 k a1 l0_0 (l0_0.length : Int) 0) = some r := h
  clear h
  have H' := Aside0.mk H
  clear H
  go_enter Try.func41, Try.ntmps41
  go_wp2_with (first | ((with_reducible refine gate_dst (N := 2) rfl ?_); refine box_event ?hg (N := 2) ?hd (cs := #[.slice A0_0 l0_0.length c0_0, .slice A0_1 l0_1.length c0_1, .int .i64 a0_2]) (t := 55) ?hr ?_; (case hd => rfl); (case hg => rfl); (case hr => first | (go_simp; done) | (go_simp; rfl)); intro gb41001 hg w3 hbox hb; have n0_ := Aside0.mk (below_step (by repeat (first | (with_reducible first | exact HB.out | apply below_alloc | apply pw_below_drewN | apply below_drew1) | exact HB.out)) hb); have n1_ := Aside0.mk (hbox); have n2_ := Aside0.mk ((by rw [hg]; exact (below_size (by repeat (first | (with_reducible first | exact HB.out | apply below_alloc | apply pw_below_drewN | apply below_drew1) | exact HB.out))) : w.heap.size ≤ gb41001)); have n3_ := Aside0.mk ((by rw [hg]; exact (below_size (by repeat (first | (with_reducible first | exact HB.out | apply below_alloc | apply pw_below_drewN | apply below_drew1) | exact HB.out))) : w.heap.size ≤ gb41001)); clear HB; have HB := n0_; have BK41001 := n1_; have GW41001 := n2_; have GE41001 := n3_; clear n0_ n1_ n2_ n3_; clear hb hbox hg; have hcz4_0 : w3.cell? ⟨gb41001, 0, none⟩ = some (.slice A0_0 l0_0.length c0_0) := (blk_cell BK41001.out 0).trans rfl; have hcz4_1 : w3.cell? ⟨gb41001, 1, none⟩ = some (.slice A0_1 l0_1.length c0_1) := (blk_cell BK41001.out 1).trans rfl; have hcz4_2 : w3.cell? ⟨gb41001, 2, none⟩ = some (.int .i64 a0_2) := (blk_cell BK41001.out 2).trans rfl; have hfz4_0 := blk_frozen BK41001.out 0; have hfz4_1 := blk_frozen BK41001.out 1; have hfz4_2 := blk_frozen BK41001.out 2))
  go_loopg [10] k (fun kq v10 w' => ∃ (x10_1 : Int), v10 = .int .i64 x10_1 ∧ Aside0 (spec_NodeNamed.l0 kq a1 l0_0 (l0_0.length : Int) x10_1 = some r) ∧ Aside0 (kq ≤ k) ∧ Aside0 (w'.heap[gb41001]? = some (.cells #[(.slice A0_0 l0_0.length c0_0), (.slice A0_1 l0_1.length c0_1), .int .i64 a0_2] 55 (0, 0))) ∧ Aside0 (Below w.heap.size w w'))
  case atStart => exact ⟨(0), (by first | rfl | (simp; done) | (simp [*]; done)), H', ⟨Nat.le_refl _⟩, ⟨by (with_reducible repeat (first | refine blk_drewN ?_ _ | refine blk_drew ?_ | refine blk_alloc ?_ _)); exact BK41001.out⟩, ⟨by repeat (first | (with_reducible first | exact HB.out | apply below_alloc | apply pw_below_drewN | apply below_drew1 | refine below_set ?_ GE41001.out) | exact HB.out)⟩⟩
  case round =>
    clear H'
    try clear p2
    try clear c4
    try clear hcz4_0
    try clear hcz4_1
    try clear hcz4_2
    try clear hfz4_0
    try clear hfz4_1
    try clear hfz4_2
    obtain ⟨x10_1, rfl, HA, HK1, BK41001, HB⟩ := hrel
    cases gk with
    | zero => exact absurd HA.out (by simp [spec_NodeNamed.l0])
    | succ k1 =>
      have H := HA.out
      clear HA
      simp only [spec_NodeNamed.l0] at H
      by_cases c5 : x10_1 < (l0_0.length : Int)
      · rw [if_pos c5] at H
        have c5b0 : decide (x10_1 < (l0_0.length : Int)) = true := decide_eq_true c5
        clear c5
        by_cases c6 : 0 ≤ x10_1
        · rw [if_pos c6] at H
          have c6b0 : decide (0 ≤ x10_1) = true := decide_eq_true c6
          clear c6
          by_cases c7 : x10_1 < (l0_0.length : Int)
          · rw [if_pos c7] at H
            have c7b0 : decide (x10_1 < (l0_0.length : Int)) = true := decide_eq_true c7
            clear c7
            by_cases c8 : ((rd_T42 l0_0 x10_1).f0).toList = a1.toList
            · rw [if_pos c8] at H
              have c8b0 : (((rd_T42 l0_0 x10_1).f0).toList == a1.toList) = true := beq_iff_eq.mpr c8
              have c8b1 : (((rd_T42 l0_0 x10_1).f0).toList != a1.toList) = false := bne_eq_false_iff_eq.mpr c8
              clear c8
              obtain rfl := Option.some.inj H
              have p41002 : 0 ≤ (x10_1 : Int) := of_decide_eq_true (by first | (with_reducible assumption) | assumption)
              have q41002 : x10_1 < (l0_0.length : Int) := of_decide_eq_true (by first | (with_reducible assumption) | assumption)
              obtain ⟨ad41002, A41002_1, c41002_1, e41002, hx41002_0, hx41002_1, hx41002_2, hl41002_1, hi41002_1⟩ := at_T42 HR0_0.out x10_1 p41002 q41002
              cases e41002
              replace hx41002_0 := (HB.out.cell (World.block_lt_of_cell? w _ hx41002_0)).trans hx41002_0
              replace hx41002_1 := (HB.out.cell (World.block_lt_of_cell? w _ hx41002_1)).trans hx41002_1
              replace hx41002_2 := (HB.out.cell (World.block_lt_of_cell? w _ hx41002_2)).trans hx41002_2
              have HR41002_1 := Aside0.mk hi41002_1
              have HC41002_1 := Aside0.mk hl41002_1
              clear hi41002_1 hl41002_1
              replace p41002 := eq_true p41002
              replace q41002 := eq_true q41002
              go_wp2_with (first | ((with_reducible refine gate_dst (N := 6) rfl ?_); refine box_event ?hg (N := 6) ?hd (cs := #[.string (⟨#[]⟩ : ByteArray), .slice none 0 0, .int .i64 0]) (t := 42) ?hr ?_; (case hd => rfl); (case hg => rfl); (case hr => first | (go_simp; done) | (go_simp; rfl)); intro gb41003 hg w9 hbox hb; have n0_ := Aside0.mk (blk_below (g := gb41001) (o := .cells #[.slice (some ad41002) l0_0.length c0_0, .slice A0_1 l0_1.length c0_1, .int .i64 a0_2] 55 (0, 0)) (by (with_reducible repeat (first | refine blk_drewN ?_ _ | refine blk_drew ?_ | refine blk_alloc ?_ _)); exact BK41001.out) hb); have n1_ := Aside0.mk (below_step (by repeat (first | (with_reducible first | exact HB.out | apply below_alloc | apply pw_below_drewN | apply below_drew1 | refine below_set ?_ GE41001.out) | exact HB.out)) hb); have n2_ := Aside0.mk (hbox); have n3_ := Aside0.mk ((by rw [hg]; exact (below_size (by repeat (first | (with_reducible first | exact HB.out | apply below_alloc | apply pw_below_drewN | apply below_drew1 | refine below_set ?_ GE41001.out) | exact HB.out))) : w.heap.size ≤ gb41003)); have n4_ := Aside0.mk ((by rw [hg]; exact (below_size (by repeat (first | (with_reducible first | exact HB.out | apply below_alloc | apply pw_below_drewN | apply below_drew1 | refine below_set ?_ GE41001.out) | exact HB.out))) : w.heap.size ≤ gb41003)); have n5_ := Aside0.mk ((by rw [hg]; exact Nat.ne_of_lt (blk_lt (g := gb41001) (o := .cells #[.slice (some ad41002) l0_0.length c0_0, .slice A0_1 l0_1.length c0_1, .int .i64 a0_2] 55 (0, 0)) (by (with_reducible repeat (first | refine blk_drewN ?_ _ | refine blk_drew ?_ | refine blk_alloc ?_ _)); exact BK41001.out)) : gb41001 ≠ gb41003)); have n6_ := Aside0.mk ((by rw [hg]; exact Nat.ne_of_gt (blk_lt (g := gb41001) (o := .cells #[.slice (some ad41002) l0_0.length c0_0, .slice A0_1 l0_1.length c0_1, .int .i64 a0_2] 55 (0, 0)) (by (with_reducible repeat (first | refine blk_drewN ?_ _ | refine blk_drew ?_ | refine blk_alloc ?_ _)); exact BK41001.out)) : gb41003 ≠ gb41001)); clear BK41001; clear HB; have BK41001 := n0_; have HB := n1_; have BK41003 := n2_; have GW41003 := n3_; have GE41003 := n4_; have NB41001_41003 := n5_; have NB41003_41001 := n6_; clear n0_ n1_ n2_ n3_ n4_ n5_ n6_; clear hb hbox hg; have hnb10 := NB41003_41001.out; have hnc10 := NB41001_41003.out; have hcz11_0 : w9.cell? ⟨gb41003, 0, none⟩ = some (.string (⟨#[]⟩ : ByteArray)) := (blk_cell BK41003.out 0).trans rfl; have hcz11_1 : w9.cell? ⟨gb41003, 1, none⟩ = some (.slice none 0 0) := (blk_cell BK41003.out 1).trans rfl; have hcz11_2 : w9.cell? ⟨gb41003, 2, none⟩ = some (.int .i64 0) := (blk_cell BK41003.out 2).trans rfl; have hfz11_0 := blk_frozen BK41003.out 0; have hfz11_1 := blk_frozen BK41003.out 1; have hfz11_2 := blk_frozen BK41003.out 2))
              go_ret
              exact ⟨by first | rfl | (simp [errW_none, errW_some] <;> rfl) | (simp [*, errW_none, errW_some] <;> rfl), by repeat (first | (with_reducible first | exact HB.out | apply below_alloc | apply pw_below_drewN | apply below_drew1 | refine below_set ?_ GE41001.out | refine below_set ?_ GE41003.out) | exact HB.out)⟩
            · rw [if_neg c8] at H
              have c8b0 : (((rd_T42 l0_0 x10_1).f0).toList == a1.toList) = false := beq_eq_false_iff_ne.mpr c8
              have c8b1 : (((rd_T42 l0_0 x10_1).f0).toList != a1.toList) = true := bne_iff_ne.mpr c8
              have H' := Aside0.mk H
              clear H
              have p41002 : 0 ≤ (x10_1 : Int) := of_decide_eq_true (by first | (with_reducible assumption) | assumption)
              have q41002 : x10_1 < (l0_0.length : Int) := of_decide_eq_true (by first | (with_reducible assumption) | assumption)
              obtain ⟨ad41002, A41002_1, c41002_1, e41002, hx41002_0, hx41002_1, hx41002_2, hl41002_1, hi41002_1⟩ := at_T42 HR0_0.out x10_1 p41002 q41002
              cases e41002
              replace hx41002_0 := (HB.out.cell (World.block_lt_of_cell? w _ hx41002_0)).trans hx41002_0
              replace hx41002_1 := (HB.out.cell (World.block_lt_of_cell? w _ hx41002_1)).trans hx41002_1
              replace hx41002_2 := (HB.out.cell (World.block_lt_of_cell? w _ hx41002_2)).trans hx41002_2
              have HR41002_1 := Aside0.mk hi41002_1
              have HC41002_1 := Aside0.mk hl41002_1
              clear hi41002_1 hl41002_1
              replace p41002 := eq_true p41002
              replace q41002 := eq_true q41002
              go_wp2_with (first | ((with_reducible refine gate_dst (N := 6) rfl ?_); refine box_event ?hg (N := 6) ?hd (cs := #[.string (⟨#[]⟩ : ByteArray), .slice none 0 0, .int .i64 0]) (t := 42) ?hr ?_; (case hd => rfl); (case hg => rfl); (case hr => first | (go_simp; done) | (go_simp; rfl)); intro gb41003 hg w12 hbox hb; have n0_ := Aside0.mk (blk_below (g := gb41001) (o := .cells #[.slice (some ad41002) l0_0.length c0_0, .slice A0_1 l0_1.length c0_1, .int .i64 a0_2] 55 (0, 0)) (by (with_reducible repeat (first | refine blk_drewN ?_ _ | refine blk_drew ?_ | refine blk_alloc ?_ _)); exact BK41001.out) hb); have n1_ := Aside0.mk (below_step (by repeat (first | (with_reducible first | exact HB.out | apply below_alloc | apply pw_below_drewN | apply below_drew1 | refine below_set ?_ GE41001.out) | exact HB.out)) hb); have n2_ := Aside0.mk (hbox); have n3_ := Aside0.mk ((by rw [hg]; exact (below_size (by repeat (first | (with_reducible first | exact HB.out | apply below_alloc | apply pw_below_drewN | apply below_drew1 | refine below_set ?_ GE41001.out) | exact HB.out))) : w.heap.size ≤ gb41003)); have n4_ := Aside0.mk ((by rw [hg]; exact (below_size (by repeat (first | (with_reducible first | exact HB.out | apply below_alloc | apply pw_below_drewN | apply below_drew1 | refine below_set ?_ GE41001.out) | exact HB.out))) : w.heap.size ≤ gb41003)); have n5_ := Aside0.mk ((by rw [hg]; exact Nat.ne_of_lt (blk_lt (g := gb41001) (o := .cells #[.slice (some ad41002) l0_0.length c0_0, .slice A0_1 l0_1.length c0_1, .int .i64 a0_2] 55 (0, 0)) (by (with_reducible repeat (first | refine blk_drewN ?_ _ | refine blk_drew ?_ | refine blk_alloc ?_ _)); exact BK41001.out)) : gb41001 ≠ gb41003)); have n6_ := Aside0.mk ((by rw [hg]; exact Nat.ne_of_gt (blk_lt (g := gb41001) (o := .cells #[.slice (some ad41002) l0_0.length c0_0, .slice A0_1 l0_1.length c0_1, .int .i64 a0_2] 55 (0, 0)) (by (with_reducible repeat (first | refine blk_drewN ?_ _ | refine blk_drew ?_ | refine blk_alloc ?_ _)); exact BK41001.out)) : gb41003 ≠ gb41001)); clear BK41001; clear HB; have BK41001 := n0_; have HB := n1_; have BK41003 := n2_; have GW41003 := n3_; have GE41003 := n4_; have NB41001_41003 := n5_; have NB41003_41001 := n6_; clear n0_ n1_ n2_ n3_ n4_ n5_ n6_; clear hb hbox hg; have hnb13 := NB41003_41001.out; have hnc13 := NB41001_41003.out; have hcz14_0 : w12.cell? ⟨gb41003, 0, none⟩ = some (.string (⟨#[]⟩ : ByteArray)) := (blk_cell BK41003.out 0).trans rfl; have hcz14_1 : w12.cell? ⟨gb41003, 1, none⟩ = some (.slice none 0 0) := (blk_cell BK41003.out 1).trans rfl; have hcz14_2 : w12.cell? ⟨gb41003, 2, none⟩ = some (.int .i64 0) := (blk_cell BK41003.out 2).trans rfl; have hfz14_0 := blk_frozen BK41003.out 0; have hfz14_1 := blk_frozen BK41003.out 1; have hfz14_2 := blk_frozen BK41003.out 2))
              go_roundg k1
              case measure => have := HK1.out; omega
              case rel => exact ⟨(wrap64 (x10_1 + 1)), (by first | rfl | (simp; done) | (simp [*]; done)), H', ⟨by have := HK1.out; omega⟩, ⟨by (with_reducible repeat (first | refine blk_drewN ?_ _ | refine blk_drew ?_ | refine blk_alloc ?_ _)); refine blk_far ?_ NB41001_41003.out _; (with_reducible repeat (first | refine blk_drewN ?_ _ | refine blk_drew ?_ | refine blk_alloc ?_ _)); refine blk_far ?_ NB41001_41003.out _; (with_reducible repeat (first | refine blk_drewN ?_ _ | refine blk_drew ?_ | refine blk_alloc ?_ _)); refine blk_far ?_ NB41001_41003.out _; (with_reducible repeat (first | refine blk_drewN ?_ _ | refine blk_drew ?_ | refine blk_alloc ?_ _)); exact BK41001.out⟩, ⟨by repeat (first | (with_reducible first | exact HB.out | apply below_alloc | apply pw_below_drewN | apply below_drew1 | refine below_set ?_ GE41001.out | refine below_set ?_ GE41003.out) | exact HB.out)⟩⟩
          · rw [if_neg c7] at H
            exact absurd H (by simp)
        · rw [if_neg c6] at H
          exact absurd H (by simp)
      · rw [if_neg c5] at H
        have c5b0 : decide (x10_1 < (l0_0.length : Int)) = false := decide_eq_false c5
        clear c5
        obtain rfl := Option.some.inj H
        go_wp2
        go_ret
        exact ⟨by first | rfl | (simp [errW_none, errW_some] <;> rfl) | (simp [*, errW_none, errW_some] <;> rfl), by repeat (first | (with_reducible first | exact HB.out | apply below_alloc | apply pw_below_drewN | apply below_drew1 | refine below_set ?_ GE41001.out) | exact HB.out)⟩

end Go.Proofs.Ytammpmadchekeaa.Pr
