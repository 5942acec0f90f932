/- The texts of one claim, put together by a program of this session. -/
import Derived.Deep.LoopGhost
import Derived.Shelf.Abstract
import Derived.Test.YtodfnelilhjoeaaBNdc1x1
import Derived.Test.YtodfnelilhjoeaaBNdc1x2
import Derived.Test.YtodfnelilhjoeaaBNdc1x3
import Derived.Test.YtodfnelilhjoeaaBNdc1x7
namespace Go.Proofs.Ytodfnelilhjoeaa.Pr
open Go.RowKit Go.Proofs.YtodfnelilhjoeaaW.PrintWords Go.Proofs.YtodfnelilhjoeaaW.PrintLast Go.Proofs.YtodfnelilhjoeaaW.PrintMore
attribute [local go_sem] max2_int min2_int max_two min_two max_three min_three max_four min_four
set_option linter.unusedVariables false
set_option linter.unusedSimpArgs false

/-! ### spec_NodeState: function 39 -/
def spec_NodeState.f (k : Nat) (l0_0 : List (S116)) (l0_1 : List (S90)) (a0_2 : Int) (a1_0 : Int) (l1_1 : List Int) (l1_2 : List Int) (a2 : Int) : Option (Int) := (spec_StateOk.f k l0_0 l0_1 a0_2 a1_0 l1_1 l1_2).bind fun t39003 => (if t39003 = true then ((spec_l01In.f a2 0 (wrap64 ((l0_0.length : Int) - 1))).bind fun t39004 => (if t39004 = true then (if 0 ≤ a2 then (if a2 < (l0_0.length : Int) then ((spec_l07State.f k ((rd_T116 l0_0 a2).f1) l1_2).bind fun t39006 => (some t39006)) else (none)) else (none)) else (some (-1)))) else (some (-1)))
def spec_NodeState.T3 : Bool × List (List Nat × List Nat) := (true, [([], []), ([0], [0]), ([], []), ([1, 2], [1, 2]), ([3], [3]), ([4], [4]), ([], []), ([6], [6]), ([5, 7], [5, 7]), ([8, 8, 0, 1, 2, 3, 4, 5, 6, 7, 8], [8])])
def spec_NodeState.B3 : List Nat := [0, 1, 0, 7, 15, 31, 0, 64, 255, 511]
theorem spec_NodeState.tab3 : rtab .any (opsOf Try.f39 3) = spec_NodeState.T3 := by kernel_rfl
theorem spec_NodeState.bits3 : waitsOk spec_NodeState.T3.2 spec_NodeState.B3 = true := by kernel_rfl
set_option maxHeartbeats 8000000 in
set_option maxRecDepth 100000 in
theorem spec_NodeState.calls (k : Nat) (A0_0 : Option Addr) (c0_0 : Nat) (l0_0 : List (S116)) (A0_1 : Option Addr) (c0_1 : Nat) (l0_1 : List (S90)) (a0_2 : Int) (a1_0 : Int) (A1_1 : Option Addr) (c1_1 : Nat) (l1_1 : List Int) (A1_2 : Option Addr) (c1_2 : Nat) (l1_2 : List Int) (a2 : Int) (r : Int) (w : World) (hr0_0 : Kd.C k116 w A0_0 l0_0.length l0_0) (hc0_0 : l0_0.length ≤ c0_0) (hr0_1 : Kd.C k90 w A0_1 l0_1.length l0_1) (hc0_1 : l0_1.length ≤ c0_1) (hr1_1 : Kd.C (Kd.int .i64) w A1_1 l1_1.length l1_1) (hc1_1 : l1_1.length ≤ c1_1) (hr1_2 : Kd.C (Kd.int .i64) w A1_2 l1_2.length l1_2) (hc1_2 : l1_2.length ≤ c1_2) (h : spec_NodeState.f k l0_0 l0_1 a0_2 a1_0 l1_1 l1_2 a2 = some r) :
    Calls Try.prog 39 #[.agg #[.slice A0_0 l0_0.length c0_0, .slice A0_1 l0_1.length c0_1, .int .i64 a0_2], .agg #[.int .i64 a1_0, .slice A1_1 l1_1.length c1_1, .slice A1_2 l1_2.length c1_2], .int .i64 a2] w fun e w' => e = .returned (.int .i64 r) ∧ Below w.heap.size w w' := by
  have hu35 := Try.underlying35
  have hu66 := Try.underlying66
  have HR0_0 := Aside0.mk hr0_0
  have HC0_0 := Aside0.mk hc0_0
  clear hr0_0 hc0_0
  have HR0_1 := Aside0.mk hr0_1
  have HC0_1 := Aside0.mk hc0_1
  clear hr0_1 hc0_1
  have HR1_1 := Aside0.mk hr1_1
  have HC1_1 := Aside0.mk hc1_1
  clear hr1_1 hc1_1
  have HR1_2 := Aside0.mk hr1_2
  have HC1_2 := Aside0.mk hc1_2
  clear hr1_2 hc1_2
  have HB := Aside0.mk (Below.refl w.heap.size w)
  have H : ((spec_StateOk.f k l0_0 l0_1 a0_2 a1_0 l1_1 l1_2).bind fun t39003 => (if t39003 = true then ((spec_l01In.f a2 0 (wrap64 ((l0_0.length : Int) - 1))).bind fun t39004 => (if t39004 = true then (if 0 ≤ a2 then (if a2 < (l0_0.length : Int) then ((spec_l07State.f k ((rd_T116 l0_0 a2).f1) l1_2).bind fun t39006 => (some t39006)) else (none)) else (none)) else (some (-1)))) else (some (-1)))) = some r := h
  clear h
  replace H := Option.bind_eq_some_iff.mp H
  obtain ⟨t39003, A40, H⟩ := H
  replace H : (if t39003 = true then ((spec_l01In.f a2 0 (wrap64 ((l0_0.length : Int) - 1))).bind fun t39004 => (if t39004 = true then (if 0 ≤ a2 then (if a2 < (l0_0.length : Int) then ((spec_l07State.f k ((rd_T116 l0_0 a2).f1) l1_2).bind fun t39006 => (some t39006)) else (none)) else (none)) else (some (-1)))) else (some (-1))) = some r := H
  have A4 := Aside0.mk A40
  clear A40
  by_cases c5 : t39003 = true
  · subst c5
    have H1 : ((spec_l01In.f a2 0 (wrap64 ((l0_0.length : Int) - 1))).bind fun t39004 => (if t39004 = true then (if 0 ≤ a2 then (if a2 < (l0_0.length : Int) then ((spec_l07State.f k ((rd_T116 l0_0 a2).f1) l1_2).bind fun t39006 => (some t39006)) else (none)) else (none)) else (some (-1)))) = some r := by rw [if_pos rfl] at H; exact H
    clear H
    have H := H1
    clear H1
    replace H := Option.bind_eq_some_iff.mp H
    obtain ⟨t39004, A60, H⟩ := H
    replace H : (if t39004 = true then (if 0 ≤ a2 then (if a2 < (l0_0.length : Int) then ((spec_l07State.f k ((rd_T116 l0_0 a2).f1) l1_2).bind fun t39006 => (some t39006)) else (none)) else (none)) else (some (-1))) = some r := H
    have A6 := Aside0.mk A60
    clear A60
    by_cases c7 : t39004 = true
    · subst c7
      have H1 : (if 0 ≤ a2 then (if a2 < (l0_0.length : Int) then ((spec_l07State.f k ((rd_T116 l0_0 a2).f1) l1_2).bind fun t39006 => (some t39006)) else (none)) else (none)) = some r := by rw [if_pos rfl] at H; exact H
      clear H
      have H := H1
      clear H1
      by_cases c8 : 0 ≤ a2
      · rw [if_pos c8] at H
        have c8b0 : decide (0 ≤ a2) = true := decide_eq_true c8
        clear c8
        by_cases c9 : a2 < (l0_0.length : Int)
        · rw [if_pos c9] at H
          have c9b0 : decide (a2 < (l0_0.length : Int)) = true := decide_eq_true c9
          clear c9
          replace H := Option.bind_eq_some_iff.mp H
          obtain ⟨t39006, A100, H⟩ := H
          replace H : (some t39006) = some r := H
          have A10 := Aside0.mk A100
          clear A100
          obtain rfl := Option.some.inj H
          go_enter Try.func39, Try.ntmps39
          try go_wp2_with (first | ((with_reducible refine gate_dst (N := 3) rfl ?_); (try (refine gate_guard (by rfl) ?_; dsimp only)); refine box_event ?hg (N := 3) ?hd (cs := #[.slice A0_0 l0_0.length c0_0, .slice A0_1 l0_1.length c0_1, .int .i64 a0_2]) (t := 35) ?hr ?_; (case hd => rfl); (case hg => rfl); (case hr => first | (go_simp; done) | (go_simp; rfl)); intro gb39001 hg w11 hbox hb; have n0_ := Aside0.mk (below_step (by repeat (first | (with_reducible first | exact HB.out | apply below_alloc | apply pw_below_drewN | apply below_drew1) | exact HB.out)) hb); have n1_ := Aside0.mk (hbox); have n2_ := Aside0.mk ((by rw [hg]; exact (below_size (by repeat (first | (with_reducible first | exact HB.out | apply below_alloc | apply pw_below_drewN | apply below_drew1) | exact HB.out))) : w.heap.size ≤ gb39001)); have n3_ := Aside0.mk ((by rw [hg]; exact (below_size (by repeat (first | (with_reducible first | exact HB.out | apply below_alloc | apply pw_below_drewN | apply below_drew1) | exact HB.out))) : w.heap.size ≤ gb39001)); clear HB; have HB := n0_; have BK39001 := n1_; have GW39001 := n2_; have GE39001 := n3_; clear n0_ n1_ n2_ n3_; clear hb hbox hg) | ((with_reducible refine gate_dst (N := 4) rfl ?_); (try (refine gate_guard (by rfl) ?_; dsimp only)); refine box_event ?hg (N := 4) ?hd (cs := #[.int .i64 a1_0, .slice A1_1 l1_1.length c1_1, .slice A1_2 l1_2.length c1_2]) (t := 66) ?hr ?_; (case hd => rfl); (case hg => rfl); (case hr => first | (go_simp; done) | (go_simp; rfl)); intro gb39002 hg w12 hbox hb; have n0_ := Aside0.mk (blk_below (g := gb39001) (o := .cells #[.slice A0_0 l0_0.length c0_0, .slice A0_1 l0_1.length c0_1, .int .i64 a0_2] 35 (0, 0)) (by (with_reducible repeat (first | refine blk_drewN ?_ _ | refine blk_drew ?_ | refine blk_alloc ?_ _)); exact BK39001.out) hb); have n1_ := Aside0.mk (below_step (by repeat (first | (with_reducible first | exact HB.out | apply below_alloc | apply pw_below_drewN | apply below_drew1 | refine below_set ?_ GE39001.out) | exact HB.out)) hb); have n2_ := Aside0.mk (hbox); have n3_ := Aside0.mk ((by rw [hg]; exact (below_size (by repeat (first | (with_reducible first | exact HB.out | apply below_alloc | apply pw_below_drewN | apply below_drew1 | refine below_set ?_ GE39001.out) | exact HB.out))) : w.heap.size ≤ gb39002)); have n4_ := Aside0.mk ((by rw [hg]; exact (below_size (by repeat (first | (with_reducible first | exact HB.out | apply below_alloc | apply pw_below_drewN | apply below_drew1 | refine below_set ?_ GE39001.out) | exact HB.out))) : w.heap.size ≤ gb39002)); have n5_ := Aside0.mk ((by rw [hg]; exact Nat.ne_of_lt (blk_lt (g := gb39001) (o := .cells #[.slice A0_0 l0_0.length c0_0, .slice A0_1 l0_1.length c0_1, .int .i64 a0_2] 35 (0, 0)) (by (with_reducible repeat (first | refine blk_drewN ?_ _ | refine blk_drew ?_ | refine blk_alloc ?_ _)); exact BK39001.out)) : gb39001 ≠ gb39002)); have n6_ := Aside0.mk ((by rw [hg]; exact Nat.ne_of_gt (blk_lt (g := gb39001) (o := .cells #[.slice A0_0 l0_0.length c0_0, .slice A0_1 l0_1.length c0_1, .int .i64 a0_2] 35 (0, 0)) (by (with_reducible repeat (first | refine blk_drewN ?_ _ | refine blk_drew ?_ | refine blk_alloc ?_ _)); exact BK39001.out)) : gb39002 ≠ gb39001)); clear BK39001; clear HB; have BK39001 := n0_; have HB := n1_; have BK39002 := n2_; have GW39002 := n3_; have GE39002 := n4_; have NB39001_39002 := n5_; have NB39002_39001 := n6_; clear n0_ n1_ n2_ n3_ n4_ n5_ n6_; clear hb hbox hg; have hnb13 := NB39001_39002.out; have hnc13 := NB39002_39001.out; have hcz14_0 : w12.cell? ⟨gb39001, 0, none⟩ = some (.slice A0_0 l0_0.length c0_0) := (blk_cell BK39001.out 0).trans rfl; have hcz14_1 : w12.cell? ⟨gb39001, 1, none⟩ = some (.slice A0_1 l0_1.length c0_1) := (blk_cell BK39001.out 1).trans rfl; have hcz14_2 : w12.cell? ⟨gb39001, 2, none⟩ = some (.int .i64 a0_2) := (blk_cell BK39001.out 2).trans rfl; have hfz14_0 := blk_frozen BK39001.out 0; have hfz14_1 := blk_frozen BK39001.out 1; have hfz14_2 := blk_frozen BK39001.out 2; have hcz15_0 : w12.cell? ⟨gb39002, 0, none⟩ = some (.int .i64 a1_0) := (blk_cell BK39002.out 0).trans rfl; have hcz15_1 : w12.cell? ⟨gb39002, 1, none⟩ = some (.slice A1_1 l1_1.length c1_1) := (blk_cell BK39002.out 1).trans rfl; have hcz15_2 : w12.cell? ⟨gb39002, 2, none⟩ = some (.slice A1_2 l1_2.length c1_2) := (blk_cell BK39002.out 2).trans rfl; have hfz15_0 := blk_frozen BK39002.out 0; have hfz15_1 := blk_frozen BK39002.out 1; have hfz15_2 := blk_frozen BK39002.out 2) | ((with_reducible refine gate_callee (f := 95) rfl ?_); refine goesL_ (some 9) rfl rfl Try.func95 (by kernel_rfl) rfl #[.agg #[.slice A0_0 l0_0.length c0_0, .slice A0_1 l0_1.length c0_1, .int .i64 a0_2], .agg #[.int .i64 a1_0, .slice A1_1 l1_1.length c1_1, .slice A1_2 l1_2.length c1_2]] rfl (by (try simp only [List.map_toArray, List.map_cons, List.map_nil]); first | done | rfl | (simp only [List.length_drop, List.length_take]; rfl)) ?_; (with_reducible refine (spec_StateOk.calls k _ _ l0_0 _ _ l0_1 a0_2 a1_0 _ _ l1_1 _ _ l1_2 true _ ?side1 ?side2 ?side3 ?side4 ?side5 ?side6 ?side7 ?side8 A4.out).mono ?_); (case side1 => repeat (first | exact (Kd.C_below HR0_0.out HB.out) | (with_reducible refine Kd.C_alloc ?_ _) | (with_reducible refine Kd.C_drewN ?_ _) | (with_reducible refine Kd.C_drew ?_))); (case side2 => exact HC0_0.out); (case side3 => repeat (first | exact (Kd.C_below HR0_1.out HB.out) | (with_reducible refine Kd.C_alloc ?_ _) | (with_reducible refine Kd.C_drewN ?_ _) | (with_reducible refine Kd.C_drew ?_))); (case side4 => exact HC0_1.out); (case side5 => repeat (first | exact (Kd.C_below HR1_1.out HB.out) | (with_reducible refine Kd.C_alloc ?_ _) | (with_reducible refine Kd.C_drewN ?_ _) | (with_reducible refine Kd.C_drew ?_))); (case side6 => exact HC1_1.out); (case side7 => repeat (first | exact (Kd.C_below HR1_2.out HB.out) | (with_reducible refine Kd.C_alloc ?_ _) | (with_reducible refine Kd.C_drewN ?_ _) | (with_reducible refine Kd.C_drew ?_))); (case side8 => exact HC1_2.out); rintro e w16 ⟨rfl, hb⟩; refine ⟨_, rfl, ?_⟩; have n0_ := Aside0.mk (blk_below (g := gb39001) (o := .cells #[.slice A0_0 l0_0.length c0_0, .slice A0_1 l0_1.length c0_1, .int .i64 a0_2] 35 (0, 0)) (by (with_reducible repeat (first | refine blk_drewN ?_ _ | refine blk_drew ?_ | refine blk_alloc ?_ _)); exact BK39001.out) hb); have n1_ := Aside0.mk (blk_below (g := gb39002) (o := .cells #[.int .i64 a1_0, .slice A1_1 l1_1.length c1_1, .slice A1_2 l1_2.length c1_2] 66 (0, 0)) (by (with_reducible repeat (first | refine blk_drewN ?_ _ | refine blk_drew ?_ | refine blk_alloc ?_ _)); exact BK39002.out) hb); have n2_ := Aside0.mk (below_step (by repeat (first | (with_reducible first | exact HB.out | apply below_alloc | apply pw_below_drewN | apply below_drew1 | refine below_set ?_ GE39001.out | refine below_set ?_ GE39002.out) | exact HB.out)) hb); clear BK39001; clear BK39002; clear HB; have BK39001 := n0_; have BK39002 := n1_; have HB := n2_; clear n0_ n1_ n2_; (try clear hb); (try clear hb2); (try clear hk); (try clear hi); have hcz17_0 : w16.cell? ⟨gb39001, 0, none⟩ = some (.slice A0_0 l0_0.length c0_0) := (blk_cell BK39001.out 0).trans rfl; have hcz17_1 : w16.cell? ⟨gb39001, 1, none⟩ = some (.slice A0_1 l0_1.length c0_1) := (blk_cell BK39001.out 1).trans rfl; have hcz17_2 : w16.cell? ⟨gb39001, 2, none⟩ = some (.int .i64 a0_2) := (blk_cell BK39001.out 2).trans rfl; have hfz17_0 := blk_frozen BK39001.out 0; have hfz17_1 := blk_frozen BK39001.out 1; have hfz17_2 := blk_frozen BK39001.out 2) | (go_at_call 68; (with_reducible refine (spec_l01In.calls a2 0 (wrap64 ((l0_0.length : Int) - 1)) true _ A6.out).mono ?_); rintro e w' ⟨rfl, ⟨nd, rfl⟩⟩))
          (try (rw [drewN_self w16]; generalize hq_ : World.drewN w16 _ = w16; have n0_ : Aside0 (w16.heap[gb39001]? = some (.cells #[.slice A0_0 l0_0.length c0_0, .slice A0_1 l0_1.length c0_1, .int .i64 a0_2] 35 (0, 0))) := ⟨by rw [← hq_]; exact (by (with_reducible repeat (first | refine blk_drewN ?_ _ | refine blk_drew ?_ | refine blk_alloc ?_ _)); exact BK39001.out)⟩; have n1_ : Aside0 (w16.heap[gb39002]? = some (.cells #[.int .i64 a1_0, .slice A1_1 l1_1.length c1_1, .slice A1_2 l1_2.length c1_2] 66 (0, 0))) := ⟨by rw [← hq_]; exact (by (with_reducible repeat (first | refine blk_drewN ?_ _ | refine blk_drew ?_ | refine blk_alloc ?_ _)); exact BK39002.out)⟩; have n2_ : Aside0 (Below w.heap.size w w16) := ⟨by rw [← hq_]; exact (by repeat (first | (with_reducible first | exact HB.out | apply below_alloc | apply pw_below_drewN | apply below_drew1 | refine below_set ?_ GE39001.out | refine below_set ?_ GE39002.out) | exact HB.out))⟩; clear BK39001 BK39002 HB hq_; have BK39001 := n0_; have BK39002 := n1_; have HB := n2_; clear n0_ n1_ n2_))
          have n0_ := Aside0.mk (blk_drew BK39001.out)
          have n1_ := Aside0.mk (blk_drew BK39002.out)
          have n2_ := Aside0.mk (below_drew1 HB.out)
          clear BK39001
          clear BK39002
          clear HB
          have BK39001 := n0_
          have BK39002 := n1_
          have HB := n2_
          clear n0_ n1_ n2_
          have p39005 : 0 ≤ (a2 : Int) := of_decide_eq_true (by first | (with_reducible assumption) | assumption)
          have q39005 : a2 < (l0_0.length : Int) := of_decide_eq_true (by first | (with_reducible assumption) | assumption)
          obtain ⟨ad39005, A39005_1, c39005_1, e39005, hx39005_0, hx39005_1, hx39005_2, hl39005_1, hi39005_1⟩ := at_T116 HR0_0.out a2 p39005 q39005
          have hw39005_2 := hx39005_2
          have hw39005_1 := hx39005_1
          have hw39005_0 := hx39005_0
          cases e39005
          replace hx39005_0 := (HB.out.cell (World.block_lt_of_cell? w _ hx39005_0)).trans hx39005_0
          replace hx39005_1 := (HB.out.cell (World.block_lt_of_cell? w _ hx39005_1)).trans hx39005_1
          replace hx39005_2 := (HB.out.cell (World.block_lt_of_cell? w _ hx39005_2)).trans hx39005_2
          have HR39005_1 := Aside0.mk hi39005_1
          have HC39005_1 := Aside0.mk hl39005_1
          clear hi39005_1 hl39005_1
          replace p39005 := eq_true p39005
          replace q39005 := eq_true q39005
          refine start_ (n := 10) (S := fun w' => w'.cell? ⟨gb39001, 0, none⟩ = some (.slice (some ad39005) l0_0.length c0_0) ∧ w'.cell? ⟨gb39001, 1, none⟩ = some (.slice A0_1 l0_1.length c0_1) ∧ w'.cell? ⟨gb39001, 2, none⟩ = some (.int .i64 a0_2) ∧ w'.cell? ⟨gb39002, 0, none⟩ = some (.int .i64 a1_0) ∧ w'.cell? ⟨gb39002, 1, none⟩ = some (.slice A1_1 l1_1.length c1_1) ∧ w'.cell? ⟨gb39002, 2, none⟩ = some (.slice A1_2 l1_2.length c1_2) ∧ w'.cell? (ad39005.add ((a2).toNat * 3)) = some (.string ((rd_T116 l0_0 a2).f0)) ∧ w'.cell? ⟨(ad39005.add ((a2).toNat * 3)).block, (ad39005.add ((a2).toNat * 3)).off + 1, none⟩ = some (.slice A39005_1 ((rd_T116 l0_0 a2).f1).length c39005_1) ∧ w'.cell? ⟨(ad39005.add ((a2).toNat * 3)).block, (ad39005.add ((a2).toNat * 3)).off + 2, none⟩ = some (.int .i64 ((rd_T116 l0_0 a2).f2))) (ds := []) #[false, false, false, false, false, false, false, false, false, false] (by kernel_rfl) rfl rfl ⟨(blk_cell BK39001.out 0).trans rfl, (blk_cell BK39001.out 1).trans rfl, (blk_cell BK39001.out 2).trans rfl, (blk_cell BK39002.out 0).trans rfl, (blk_cell BK39002.out 1).trans rfl, (blk_cell BK39002.out 2).trans rfl, ((HB.out.cell (World.block_lt_of_cell? w _ hw39005_0)).trans hw39005_0), ((HB.out.cell (World.block_lt_of_cell? w _ hw39005_1)).trans hw39005_1), ((HB.out.cell (World.block_lt_of_cell? w _ hw39005_2)).trans hw39005_2)⟩ (fun hHeld => ?_); refine with_tabW spec_NodeState.tab3 spec_NodeState.bits3 (fun HT_ HW_ => ?_)
          generalize w16.drew = w18 at BK39001 BK39002 HB HR39005_1 hx39005_0 hx39005_1 hx39005_2 hHeld ⊢
          refine pure_ (i := 0) (N := some 20) (v := ?_) (a' := ?_) #[true, false, false, false, false, false, false, false, false, false] rfl rfl (any_of HT_.out (by kernel_rfl)) (fun _ _ _ h => h) (Or.inl ⟨by rfl, ?_⟩) ?_ ?_
          rotate_left
          · intro w'
            go_simp
            with_reducible rfl
          rotate_left
          · simp only [Act.put, List.setIfInBounds_toArray, List.set_cons_zero, List.set_cons_succ, i64_w, i32_w]
            rfl
          refine pure_ (i := 2) (N := some 22) (v := ?_) (a' := ?_) #[true, false, true, false, false, false, false, false, false, false] rfl rfl (any_of HT_.out (by kernel_rfl)) (fun _ _ _ h => h) (Or.inl ⟨by rfl, ?_⟩) ?_ ?_
          rotate_left
          · intro w'
            go_simp
            with_reducible rfl
          rotate_left
          · simp only [Act.put, List.setIfInBounds_toArray, List.set_cons_zero, List.set_cons_succ, i64_w, i32_w]
            rfl
          refine pure_ (i := 6) (N := some 26) (v := ?_) (a' := ?_) #[true, false, true, false, false, false, true, false, false, false] rfl rfl (any_of HT_.out (by kernel_rfl)) (fun _ _ _ h => h) (Or.inl ⟨by rfl, ?_⟩) ?_ ?_
          rotate_left
          · intro w'
            go_simp
            with_reducible rfl
          rotate_left
          · simp only [Act.put, List.setIfInBounds_toArray, List.set_cons_zero, List.set_cons_succ, i64_w, i32_w]
            rfl
          refine take_ (i := 1) (N := some 21) (v := ?_) (a' := ?_) #[true, true, true, false, false, false, true, false, false, false] rfl rfl (take_ofW HT_.out HW_.out (by kernel_rfl)) (fun _ _ _ h => h) (Or.inl ⟨by rfl, ?_⟩) hHeld ?_ ?_
          rotate_left
          · rintro w' ⟨s0, s1, s2, s3, s4, s5, s6, s7, s8⟩
            go_simp
            with_reducible rfl
          rotate_left
          · simp only [Act.put, List.setIfInBounds_toArray, List.set_cons_zero, List.set_cons_succ, i64_w, i32_w]
            rfl
          refine pure_ (i := 3) (N := some 23) (v := ?_) (a' := ?_) #[true, true, true, true, false, false, true, false, false, false] rfl rfl (any_of HT_.out (by kernel_rfl)) (fun _ _ _ h => h) (Or.inl ⟨by rfl, ?_⟩) ?_ ?_
          rotate_left
          · intro w'
            go_simp
            with_reducible rfl
          rotate_left
          · simp only [Act.put, List.setIfInBounds_toArray, List.set_cons_zero, List.set_cons_succ, i64_w, i32_w]
            rfl
          refine pure_ (i := 4) (N := some 24) (v := ?_) (a' := ?_) #[true, true, true, true, true, false, true, false, false, false] rfl rfl (any_of HT_.out (by kernel_rfl)) (fun _ _ _ h => h) (Or.inl ⟨by rfl, ?_⟩) ?_ ?_
          rotate_left
          · intro w'
            go_simp
            with_reducible rfl
          rotate_left
          · simp only [Act.put, List.setIfInBounds_toArray, List.set_cons_zero, List.set_cons_succ, i64_w, i32_w]
            rfl
          refine take_ (i := 5) (N := some 25) (v := ?_) (a' := ?_) #[true, true, true, true, true, true, true, false, false, false] rfl rfl (take_ofW HT_.out HW_.out (by kernel_rfl)) (fun _ _ _ h => h) (Or.inl ⟨by rfl, ?_⟩) hHeld ?_ ?_
          rotate_left
          · rintro w' ⟨s0, s1, s2, s3, s4, s5, s6, s7, s8⟩
            go_simp
            with_reducible rfl
          rotate_left
          · simp only [Act.put, List.setIfInBounds_toArray, List.set_cons_zero, List.set_cons_succ, i64_w, i32_w]
            rfl
          refine take_ (i := 7) (N := some 27) (v := ?_) (a' := ?_) #[true, true, true, true, true, true, true, true, false, false] rfl rfl (take_ofW HT_.out HW_.out (by kernel_rfl)) (fun _ _ _ h => h) (Or.inl ⟨by rfl, ?_⟩) hHeld ?_ ?_
          rotate_left
          · rintro w' ⟨s0, s1, s2, s3, s4, s5, s6, s7, s8⟩
            go_simp
            with_reducible rfl
          rotate_left
          · simp only [Act.put, List.setIfInBounds_toArray, List.set_cons_zero, List.set_cons_succ, i64_w, i32_w]
            rfl
          refine one_ (i := 8) (N := some 28) #[true, true, true, true, true, true, true, true, true, false] rfl rfl (one_of HT_.out (by kernel_rfl)) (by decide) (fun K hK => ?_)
          refine goes_ Try.func96 (by kernel_rfl) rfl #[.slice A39005_1 ((rd_T116 l0_0 a2).f1).length c39005_1, .slice A1_2 l1_2.length c1_2] (by rfl) rfl rfl (by (try simp only [List.map_toArray, List.map_cons, List.map_nil]); first | done | rfl | (simp only [List.length_drop, List.length_take]; rfl)) ?_
          with_reducible refine (spec_l07State.calls k _ _ ((rd_T116 l0_0 a2).f1) _ _ l1_2 t39006 _ ?side1 ?side2 ?side3 ?side4 A10.out).mono ?_
          (case side1 => repeat (first | exact (Kd.C_below HR39005_1.out HB.out) | (with_reducible refine Kd.C_alloc ?_ _) | (with_reducible refine Kd.C_drewN ?_ _) | (with_reducible refine Kd.C_drew ?_)))
          (case side2 => exact HC39005_1.out)
          (case side3 => repeat (first | exact (Kd.C_below HR1_2.out HB.out) | (with_reducible refine Kd.C_alloc ?_ _) | (with_reducible refine Kd.C_drewN ?_ _) | (with_reducible refine Kd.C_drew ?_)))
          (case side4 => exact HC1_2.out)
          rintro e w19 ⟨rfl, hb⟩
          refine ⟨_, rfl, ?_⟩
          have n0_ := Aside0.mk (blk_below (g := gb39001) (o := .cells #[.slice (some ad39005) l0_0.length c0_0, .slice A0_1 l0_1.length c0_1, .int .i64 a0_2] 35 (0, 0)) (by (with_reducible repeat (first | refine blk_drewN ?_ _ | refine blk_drew ?_ | refine blk_alloc ?_ _)); exact BK39001.out) hb)
          have n1_ := Aside0.mk (blk_below (g := gb39002) (o := .cells #[.int .i64 a1_0, .slice A1_1 l1_1.length c1_1, .slice A1_2 l1_2.length c1_2] 66 (0, 0)) (by (with_reducible repeat (first | refine blk_drewN ?_ _ | refine blk_drew ?_ | refine blk_alloc ?_ _)); exact BK39002.out) hb)
          have n2_ := Aside0.mk (below_step (by repeat (first | (with_reducible first | exact HB.out | apply below_alloc | apply pw_below_drewN | apply below_drew1 | refine below_set ?_ GE39001.out | refine below_set ?_ GE39002.out) | exact HB.out)) hb)
          clear BK39001
          clear BK39002
          clear HB
          have BK39001 := n0_
          have BK39002 := n1_
          have HB := n2_
          clear n0_ n1_ n2_
          (try clear hb)
          (try clear hb2)
          (try clear hk)
          (try clear hi)
          refine hK.out _ _ ⟨(blk_cell BK39001.out 0).trans rfl, (blk_cell BK39001.out 1).trans rfl, (blk_cell BK39001.out 2).trans rfl, (blk_cell BK39002.out 0).trans rfl, (blk_cell BK39002.out 1).trans rfl, (blk_cell BK39002.out 2).trans rfl, ((HB.out.cell (World.block_lt_of_cell? w _ hw39005_0)).trans hw39005_0), ((HB.out.cell (World.block_lt_of_cell? w _ hw39005_1)).trans hw39005_1), ((HB.out.cell (World.block_lt_of_cell? w _ hw39005_2)).trans hw39005_2)⟩ (fun hHeld => ?_)
          clear hK K
          refine norm_ (a' := ?_) ?_ ?_
          rotate_left
          · show Act.put _ (some 28) _ = _
            simp only [Act.put, List.setIfInBounds_toArray, List.set_cons_zero, List.set_cons_succ, i64_w, i32_w]
            rfl
          refine pure_ (i := 9) (N := some 6) (v := ?_) (a' := ?_) #[true, true, true, true, true, true, true, true, true, true] rfl rfl (any_of HT_.out (by kernel_rfl)) (fun _ _ _ h => h) (Or.inl ⟨by rfl, ?_⟩) ?_ ?_
          rotate_left
          · intro w'
            go_simp
            with_reducible rfl
          rotate_left
          · simp only [Act.put, List.setIfInBounds_toArray, List.set_cons_zero, List.set_cons_succ, i64_w, i32_w]
            rfl
          refine done_ (done_of HT_.out (by kernel_rfl)) ?_
          try go_wp2
          go_ret
          exact ⟨by first | rfl | (simp [errW_none, errW_some] <;> rfl) | (simp [*, errW_none, errW_some] <;> rfl), by repeat (first | (with_reducible first | exact HB.out | apply below_alloc | apply pw_below_drewN | apply below_drew1 | refine below_set ?_ GE39001.out | refine below_set ?_ GE39002.out) | exact HB.out)⟩
        · rw [if_neg c9] at H
          exact absurd H (by simp)
      · rw [if_neg c8] at H
        exact absurd H (by simp)
    · replace c7 := Bool.eq_false_iff.mpr c7
      subst c7
      have H1 : (some (-1)) = some r := by rw [if_neg (show ¬ (false = true) by decide)] at H; exact H
      clear H
      have H := H1
      clear H1
      obtain rfl := Option.some.inj H
      go_enter Try.func39, Try.ntmps39
      go_wp2_with (first | ((with_reducible refine gate_dst (N := 3) rfl ?_); (try (refine gate_guard (by rfl) ?_; dsimp only)); refine box_event ?hg (N := 3) ?hd (cs := #[.slice A0_0 l0_0.length c0_0, .slice A0_1 l0_1.length c0_1, .int .i64 a0_2]) (t := 35) ?hr ?_; (case hd => rfl); (case hg => rfl); (case hr => first | (go_simp; done) | (go_simp; rfl)); intro gb39001 hg w20 hbox hb; have n0_ := Aside0.mk (below_step (by repeat (first | (with_reducible first | exact HB.out | apply below_alloc | apply pw_below_drewN | apply below_drew1) | exact HB.out)) hb); have n1_ := Aside0.mk (hbox); have n2_ := Aside0.mk ((by rw [hg]; exact (below_size (by repeat (first | (with_reducible first | exact HB.out | apply below_alloc | apply pw_below_drewN | apply below_drew1) | exact HB.out))) : w.heap.size ≤ gb39001)); have n3_ := Aside0.mk ((by rw [hg]; exact (below_size (by repeat (first | (with_reducible first | exact HB.out | apply below_alloc | apply pw_below_drewN | apply below_drew1) | exact HB.out))) : w.heap.size ≤ gb39001)); clear HB; have HB := n0_; have BK39001 := n1_; have GW39001 := n2_; have GE39001 := n3_; clear n0_ n1_ n2_ n3_; clear hb hbox hg) | ((with_reducible refine gate_dst (N := 4) rfl ?_); (try (refine gate_guard (by rfl) ?_; dsimp only)); refine box_event ?hg (N := 4) ?hd (cs := #[.int .i64 a1_0, .slice A1_1 l1_1.length c1_1, .slice A1_2 l1_2.length c1_2]) (t := 66) ?hr ?_; (case hd => rfl); (case hg => rfl); (case hr => first | (go_simp; done) | (go_simp; rfl)); intro gb39002 hg w21 hbox hb; have n0_ := Aside0.mk (blk_below (g := gb39001) (o := .cells #[.slice A0_0 l0_0.length c0_0, .slice A0_1 l0_1.length c0_1, .int .i64 a0_2] 35 (0, 0)) (by (with_reducible repeat (first | refine blk_drewN ?_ _ | refine blk_drew ?_ | refine blk_alloc ?_ _)); exact BK39001.out) hb); have n1_ := Aside0.mk (below_step (by repeat (first | (with_reducible first | exact HB.out | apply below_alloc | apply pw_below_drewN | apply below_drew1 | refine below_set ?_ GE39001.out) | exact HB.out)) hb); have n2_ := Aside0.mk (hbox); have n3_ := Aside0.mk ((by rw [hg]; exact (below_size (by repeat (first | (with_reducible first | exact HB.out | apply below_alloc | apply pw_below_drewN | apply below_drew1 | refine below_set ?_ GE39001.out) | exact HB.out))) : w.heap.size ≤ gb39002)); have n4_ := Aside0.mk ((by rw [hg]; exact (below_size (by repeat (first | (with_reducible first | exact HB.out | apply below_alloc | apply pw_below_drewN | apply below_drew1 | refine below_set ?_ GE39001.out) | exact HB.out))) : w.heap.size ≤ gb39002)); have n5_ := Aside0.mk ((by rw [hg]; exact Nat.ne_of_lt (blk_lt (g := gb39001) (o := .cells #[.slice A0_0 l0_0.length c0_0, .slice A0_1 l0_1.length c0_1, .int .i64 a0_2] 35 (0, 0)) (by (with_reducible repeat (first | refine blk_drewN ?_ _ | refine blk_drew ?_ | refine blk_alloc ?_ _)); exact BK39001.out)) : gb39001 ≠ gb39002)); have n6_ := Aside0.mk ((by rw [hg]; exact Nat.ne_of_gt (blk_lt (g := gb39001) (o := .cells #[.slice A0_0 l0_0.length c0_0, .slice A0_1 l0_1.length c0_1, .int .i64 a0_2] 35 (0, 0)) (by (with_reducible repeat (first | refine blk_drewN ?_ _ | refine blk_drew ?_ | refine blk_alloc ?_ _)); exact BK39001.out)) : gb39002 ≠ gb39001)); clear BK39001; clear HB; have BK39001 := n0_; have HB := n1_; have BK39002 := n2_; have GW39002 := n3_; have GE39002 := n4_; have NB39001_39002 := n5_; have NB39002_39001 := n6_; clear n0_ n1_ n2_ n3_ n4_ n5_ n6_; clear hb hbox hg; have hnb22 := NB39001_39002.out; have hnc22 := NB39002_39001.out; have hcz23_0 : w21.cell? ⟨gb39001, 0, none⟩ = some (.slice A0_0 l0_0.length c0_0) := (blk_cell BK39001.out 0).trans rfl; have hcz23_1 : w21.cell? ⟨gb39001, 1, none⟩ = some (.slice A0_1 l0_1.length c0_1) := (blk_cell BK39001.out 1).trans rfl; have hcz23_2 : w21.cell? ⟨gb39001, 2, none⟩ = some (.int .i64 a0_2) := (blk_cell BK39001.out 2).trans rfl; have hfz23_0 := blk_frozen BK39001.out 0; have hfz23_1 := blk_frozen BK39001.out 1; have hfz23_2 := blk_frozen BK39001.out 2; have hcz24_0 : w21.cell? ⟨gb39002, 0, none⟩ = some (.int .i64 a1_0) := (blk_cell BK39002.out 0).trans rfl; have hcz24_1 : w21.cell? ⟨gb39002, 1, none⟩ = some (.slice A1_1 l1_1.length c1_1) := (blk_cell BK39002.out 1).trans rfl; have hcz24_2 : w21.cell? ⟨gb39002, 2, none⟩ = some (.slice A1_2 l1_2.length c1_2) := (blk_cell BK39002.out 2).trans rfl; have hfz24_0 := blk_frozen BK39002.out 0; have hfz24_1 := blk_frozen BK39002.out 1; have hfz24_2 := blk_frozen BK39002.out 2) | ((with_reducible refine gate_callee (f := 95) rfl ?_); refine goesL_ (some 9) rfl rfl Try.func95 (by kernel_rfl) rfl #[.agg #[.slice A0_0 l0_0.length c0_0, .slice A0_1 l0_1.length c0_1, .int .i64 a0_2], .agg #[.int .i64 a1_0, .slice A1_1 l1_1.length c1_1, .slice A1_2 l1_2.length c1_2]] rfl (by (try simp only [List.map_toArray, List.map_cons, List.map_nil]); first | done | rfl | (simp only [List.length_drop, List.length_take]; rfl)) ?_; (with_reducible refine (spec_StateOk.calls k _ _ l0_0 _ _ l0_1 a0_2 a1_0 _ _ l1_1 _ _ l1_2 true _ ?side1 ?side2 ?side3 ?side4 ?side5 ?side6 ?side7 ?side8 A4.out).mono ?_); (case side1 => repeat (first | exact (Kd.C_below HR0_0.out HB.out) | (with_reducible refine Kd.C_alloc ?_ _) | (with_reducible refine Kd.C_drewN ?_ _) | (with_reducible refine Kd.C_drew ?_))); (case side2 => exact HC0_0.out); (case side3 => repeat (first | exact (Kd.C_below HR0_1.out HB.out) | (with_reducible refine Kd.C_alloc ?_ _) | (with_reducible refine Kd.C_drewN ?_ _) | (with_reducible refine Kd.C_drew ?_))); (case side4 => exact HC0_1.out); (case side5 => repeat (first | exact (Kd.C_below HR1_1.out HB.out) | (with_reducible refine Kd.C_alloc ?_ _) | (with_reducible refine Kd.C_drewN ?_ _) | (with_reducible refine Kd.C_drew ?_))); (case side6 => exact HC1_1.out); (case side7 => repeat (first | exact (Kd.C_below HR1_2.out HB.out) | (with_reducible refine Kd.C_alloc ?_ _) | (with_reducible refine Kd.C_drewN ?_ _) | (with_reducible refine Kd.C_drew ?_))); (case side8 => exact HC1_2.out); rintro e w25 ⟨rfl, hb⟩; refine ⟨_, rfl, ?_⟩; have n0_ := Aside0.mk (blk_below (g := gb39001) (o := .cells #[.slice A0_0 l0_0.length c0_0, .slice A0_1 l0_1.length c0_1, .int .i64 a0_2] 35 (0, 0)) (by (with_reducible repeat (first | refine blk_drewN ?_ _ | refine blk_drew ?_ | refine blk_alloc ?_ _)); exact BK39001.out) hb); have n1_ := Aside0.mk (blk_below (g := gb39002) (o := .cells #[.int .i64 a1_0, .slice A1_1 l1_1.length c1_1, .slice A1_2 l1_2.length c1_2] 66 (0, 0)) (by (with_reducible repeat (first | refine blk_drewN ?_ _ | refine blk_drew ?_ | refine blk_alloc ?_ _)); exact BK39002.out) hb); have n2_ := Aside0.mk (below_step (by repeat (first | (with_reducible first | exact HB.out | apply below_alloc | apply pw_below_drewN | apply below_drew1 | refine below_set ?_ GE39001.out | refine below_set ?_ GE39002.out) | exact HB.out)) hb); clear BK39001; clear BK39002; clear HB; have BK39001 := n0_; have BK39002 := n1_; have HB := n2_; clear n0_ n1_ n2_; (try clear hb); (try clear hb2); (try clear hk); (try clear hi); have hcz26_0 : w25.cell? ⟨gb39001, 0, none⟩ = some (.slice A0_0 l0_0.length c0_0) := (blk_cell BK39001.out 0).trans rfl; have hcz26_1 : w25.cell? ⟨gb39001, 1, none⟩ = some (.slice A0_1 l0_1.length c0_1) := (blk_cell BK39001.out 1).trans rfl; have hcz26_2 : w25.cell? ⟨gb39001, 2, none⟩ = some (.int .i64 a0_2) := (blk_cell BK39001.out 2).trans rfl; have hfz26_0 := blk_frozen BK39001.out 0; have hfz26_1 := blk_frozen BK39001.out 1; have hfz26_2 := blk_frozen BK39001.out 2) | (go_at_call 68; (with_reducible refine (spec_l01In.calls a2 0 (wrap64 ((l0_0.length : Int) - 1)) false _ A6.out).mono ?_); rintro e w' ⟨rfl, ⟨nd, rfl⟩⟩))
      go_ret
      exact ⟨by first | rfl | (simp [errW_none, errW_some] <;> rfl) | (simp [*, errW_none, errW_some] <;> rfl), by repeat (first | (with_reducible first | exact HB.out | apply below_alloc | apply pw_below_drewN | apply below_drew1 | refine below_set ?_ GE39001.out | refine below_set ?_ GE39002.out) | exact HB.out)⟩
  · replace c5 := Bool.eq_false_iff.mpr c5
    subst c5
    have H1 : (some (-1)) = some r := by rw [if_neg (show ¬ (false = true) by decide)] at H; exact H
    clear H
    have H := H1
    clear H1
    obtain rfl := Option.some.inj H
    go_enter Try.func39, Try.ntmps39
    go_wp2_with (first | ((with_reducible refine gate_dst (N := 3) rfl ?_); (try (refine gate_guard (by rfl) ?_; dsimp only)); refine box_event ?hg (N := 3) ?hd (cs := #[.slice A0_0 l0_0.length c0_0, .slice A0_1 l0_1.length c0_1, .int .i64 a0_2]) (t := 35) ?hr ?_; (case hd => rfl); (case hg => rfl); (case hr => first | (go_simp; done) | (go_simp; rfl)); intro gb39001 hg w27 hbox hb; have n0_ := Aside0.mk (below_step (by repeat (first | (with_reducible first | exact HB.out | apply below_alloc | apply pw_below_drewN | apply below_drew1) | exact HB.out)) hb); have n1_ := Aside0.mk (hbox); have n2_ := Aside0.mk ((by rw [hg]; exact (below_size (by repeat (first | (with_reducible first | exact HB.out | apply below_alloc | apply pw_below_drewN | apply below_drew1) | exact HB.out))) : w.heap.size ≤ gb39001)); have n3_ := Aside0.mk ((by rw [hg]; exact (below_size (by repeat (first | (with_reducible first | exact HB.out | apply below_alloc | apply pw_below_drewN | apply below_drew1) | exact HB.out))) : w.heap.size ≤ gb39001)); clear HB; have HB := n0_; have BK39001 := n1_; have GW39001 := n2_; have GE39001 := n3_; clear n0_ n1_ n2_ n3_; clear hb hbox hg) | ((with_reducible refine gate_dst (N := 4) rfl ?_); (try (refine gate_guard (by rfl) ?_; dsimp only)); refine box_event ?hg (N := 4) ?hd (cs := #[.int .i64 a1_0, .slice A1_1 l1_1.length c1_1, .slice A1_2 l1_2.length c1_2]) (t := 66) ?hr ?_; (case hd => rfl); (case hg => rfl); (case hr => first | (go_simp; done) | (go_simp; rfl)); intro gb39002 hg w28 hbox hb; have n0_ := Aside0.mk (blk_below (g := gb39001) (o := .cells #[.slice A0_0 l0_0.length c0_0, .slice A0_1 l0_1.length c0_1, .int .i64 a0_2] 35 (0, 0)) (by (with_reducible repeat (first | refine blk_drewN ?_ _ | refine blk_drew ?_ | refine blk_alloc ?_ _)); exact BK39001.out) hb); have n1_ := Aside0.mk (below_step (by repeat (first | (with_reducible first | exact HB.out | apply below_alloc | apply pw_below_drewN | apply below_drew1 | refine below_set ?_ GE39001.out) | exact HB.out)) hb); have n2_ := Aside0.mk (hbox); have n3_ := Aside0.mk ((by rw [hg]; exact (below_size (by repeat (first | (with_reducible first | exact HB.out | apply below_alloc | apply pw_below_drewN | apply below_drew1 | refine below_set ?_ GE39001.out) | exact HB.out))) : w.heap.size ≤ gb39002)); have n4_ := Aside0.mk ((by rw [hg]; exact (below_size (by repeat (first | (with_reducible first | exact HB.out | apply below_alloc | apply pw_below_drewN | apply below_drew1 | refine below_set ?_ GE39001.out) | exact HB.out))) : w.heap.size ≤ gb39002)); have n5_ := Aside0.mk ((by rw [hg]; exact Nat.ne_of_lt (blk_lt (g := gb39001) (o := .cells #[.slice A0_0 l0_0.length c0_0, .slice A0_1 l0_1.length c0_1, .int .i64 a0_2] 35 (0, 0)) (by (with_reducible repeat (first | refine blk_drewN ?_ _ | refine blk_drew ?_ | refine blk_alloc ?_ _)); exact BK39001.out)) : gb39001 ≠ gb39002)); have n6_ := Aside0.mk ((by rw [hg]; exact Nat.ne_of_gt (blk_lt (g := gb39001) (o := .cells #[.slice A0_0 l0_0.length c0_0, .slice A0_1 l0_1.length c0_1, .int .i64 a0_2] 35 (0, 0)) (by (with_reducible repeat (first | refine blk_drewN ?_ _ | refine blk_drew ?_ | refine blk_alloc ?_ _)); exact BK39001.out)) : gb39002 ≠ gb39001)); clear BK39001; clear HB; have BK39001 := n0_; have HB := n1_; have BK39002 := n2_; have GW39002 := n3_; have GE39002 := n4_; have NB39001_39002 := n5_; have NB39002_39001 := n6_; clear n0_ n1_ n2_ n3_ n4_ n5_ n6_; clear hb hbox hg; have hnb29 := NB39001_39002.out; have hnc29 := NB39002_39001.out; have hcz30_0 : w28.cell? ⟨gb39001, 0, none⟩ = some (.slice A0_0 l0_0.length c0_0) := (blk_cell BK39001.out 0).trans rfl; have hcz30_1 : w28.cell? ⟨gb39001, 1, none⟩ = some (.slice A0_1 l0_1.length c0_1) := (blk_cell BK39001.out 1).trans rfl; have hcz30_2 : w28.cell? ⟨gb39001, 2, none⟩ = some (.int .i64 a0_2) := (blk_cell BK39001.out 2).trans rfl; have hfz30_0 := blk_frozen BK39001.out 0; have hfz30_1 := blk_frozen BK39001.out 1; have hfz30_2 := blk_frozen BK39001.out 2; have hcz31_0 : w28.cell? ⟨gb39002, 0, none⟩ = some (.int .i64 a1_0) := (blk_cell BK39002.out 0).trans rfl; have hcz31_1 : w28.cell? ⟨gb39002, 1, none⟩ = some (.slice A1_1 l1_1.length c1_1) := (blk_cell BK39002.out 1).trans rfl; have hcz31_2 : w28.cell? ⟨gb39002, 2, none⟩ = some (.slice A1_2 l1_2.length c1_2) := (blk_cell BK39002.out 2).trans rfl; have hfz31_0 := blk_frozen BK39002.out 0; have hfz31_1 := blk_frozen BK39002.out 1; have hfz31_2 := blk_frozen BK39002.out 2) | ((with_reducible refine gate_callee (f := 95) rfl ?_); refine goesL_ (some 9) rfl rfl Try.func95 (by kernel_rfl) rfl #[.agg #[.slice A0_0 l0_0.length c0_0, .slice A0_1 l0_1.length c0_1, .int .i64 a0_2], .agg #[.int .i64 a1_0, .slice A1_1 l1_1.length c1_1, .slice A1_2 l1_2.length c1_2]] rfl (by (try simp only [List.map_toArray, List.map_cons, List.map_nil]); first | done | rfl | (simp only [List.length_drop, List.length_take]; rfl)) ?_; (with_reducible refine (spec_StateOk.calls k _ _ l0_0 _ _ l0_1 a0_2 a1_0 _ _ l1_1 _ _ l1_2 false _ ?side1 ?side2 ?side3 ?side4 ?side5 ?side6 ?side7 ?side8 A4.out).mono ?_); (case side1 => repeat (first | exact (Kd.C_below HR0_0.out HB.out) | (with_reducible refine Kd.C_alloc ?_ _) | (with_reducible refine Kd.C_drewN ?_ _) | (with_reducible refine Kd.C_drew ?_))); (case side2 => exact HC0_0.out); (case side3 => repeat (first | exact (Kd.C_below HR0_1.out HB.out) | (with_reducible refine Kd.C_alloc ?_ _) | (with_reducible refine Kd.C_drewN ?_ _) | (with_reducible refine Kd.C_drew ?_))); (case side4 => exact HC0_1.out); (case side5 => repeat (first | exact (Kd.C_below HR1_1.out HB.out) | (with_reducible refine Kd.C_alloc ?_ _) | (with_reducible refine Kd.C_drewN ?_ _) | (with_reducible refine Kd.C_drew ?_))); (case side6 => exact HC1_1.out); (case side7 => repeat (first | exact (Kd.C_below HR1_2.out HB.out) | (with_reducible refine Kd.C_alloc ?_ _) | (with_reducible refine Kd.C_drewN ?_ _) | (with_reducible refine Kd.C_drew ?_))); (case side8 => exact HC1_2.out); rintro e w32 ⟨rfl, hb⟩; refine ⟨_, rfl, ?_⟩; have n0_ := Aside0.mk (blk_below (g := gb39001) (o := .cells #[.slice A0_0 l0_0.length c0_0, .slice A0_1 l0_1.length c0_1, .int .i64 a0_2] 35 (0, 0)) (by (with_reducible repeat (first | refine blk_drewN ?_ _ | refine blk_drew ?_ | refine blk_alloc ?_ _)); exact BK39001.out) hb); have n1_ := Aside0.mk (blk_below (g := gb39002) (o := .cells #[.int .i64 a1_0, .slice A1_1 l1_1.length c1_1, .slice A1_2 l1_2.length c1_2] 66 (0, 0)) (by (with_reducible repeat (first | refine blk_drewN ?_ _ | refine blk_drew ?_ | refine blk_alloc ?_ _)); exact BK39002.out) hb); have n2_ := Aside0.mk (below_step (by repeat (first | (with_reducible first | exact HB.out | apply below_alloc | apply pw_below_drewN | apply below_drew1 | refine below_set ?_ GE39001.out | refine below_set ?_ GE39002.out) | exact HB.out)) hb); clear BK39001; clear BK39002; clear HB; have BK39001 := n0_; have BK39002 := n1_; have HB := n2_; clear n0_ n1_ n2_; (try clear hb); (try clear hb2); (try clear hk); (try clear hi)))
    go_ret
    exact ⟨by first | rfl | (simp [errW_none, errW_some] <;> rfl) | (simp [*, errW_none, errW_some] <;> rfl), by repeat (first | (with_reducible first | exact HB.out | apply below_alloc | apply pw_below_drewN | apply below_drew1 | refine below_set ?_ GE39001.out | refine below_set ?_ GE39002.out) | exact HB.out)⟩

end Go.Proofs.Ytodfnelilhjoeaa.Pr

namespace Go.Proofs.Ytodfnelilhjoeaa.Pr
open Go.RowKit Go.Proofs.YtodfnelilhjoeaaW.PrintWords Go.Proofs.YtodfnelilhjoeaaW.PrintLast Go.Proofs.YtodfnelilhjoeaaW.PrintMore
attribute [local go_sem] max2_int min2_int max_two min_two max_three min_three max_four min_four
set_option linter.unusedVariables false
set_option linter.unusedSimpArgs false

/-! ### impl_isNode: function 90 -/
def impl_isNode.f (a0 : Int) (a1 : Int) : Option (Bool) := if a1 ≥ 0 then (some (decide (a1 < a0))) else (some false)
set_option maxHeartbeats 8000000 in
set_option maxRecDepth 100000 in
theorem impl_isNode.calls (a0 : Int) (a1 : Int) (r : Bool) (w : World) (h : impl_isNode.f a0 a1 = some r) :
    Calls Try.prog 90 #[.int .i64 a0, .int .i64 a1] w fun e w' => e = .returned (.bool r) ∧ Drawn0 w w' := by
  have H : (if a1 ≥ 0 then (some (decide (a1 < a0))) else (some false)) = some r := h
  clear h
  by_cases c3 : a1 ≥ 0
  · rw [if_pos c3] at H
    have c3b0 : decide (0 ≤ a1) = true := decide_eq_true c3
    clear c3
    obtain rfl := Option.some.inj H
    go_enter Try.func90, Try.ntmps90
    go_wp2
    go_ret
    exact ⟨by first | rfl | (simp; done) | (simp [*]; done), by repeat (first | exact Drawn0.refl _ | apply Drawn0.step)⟩
  · rw [if_neg c3] at H
    have c3b0 : decide (0 ≤ a1) = false := decide_eq_false c3
    clear c3
    obtain rfl := Option.some.inj H
    go_enter Try.func90, Try.ntmps90
    go_wp2
    go_ret
    exact ⟨by first | rfl | (simp; done) | (simp [*]; done), by repeat (first | exact Drawn0.refl _ | apply Drawn0.step)⟩

end Go.Proofs.Ytodfnelilhjoeaa.Pr

namespace Go.Proofs.Ytodfnelilhjoeaa.Pr
open Go.RowKit Go.Proofs.YtodfnelilhjoeaaW.PrintWords Go.Proofs.YtodfnelilhjoeaaW.PrintLast Go.Proofs.YtodfnelilhjoeaaW.PrintMore
attribute [local go_sem] max2_int min2_int max_two min_two max_three min_three max_four min_four
set_option linter.unusedVariables false
set_option linter.unusedSimpArgs false

/-! ### impl_Node: function 164 (by hand) -/
-- IMPORT Derived.Deep.LoopGhost
-- IMPORT Derived.Shelf.Abstract
-- IMPORT Derived.Test.YtodfnelilhjoeaaQNice
open Go.Proofs.Ytodfnelilhjoeaa.Ni
set_option maxHeartbeats 4000000 in
theorem impl_Node.any (p : S116 → Bool) (g : Nat) (lb : Array Value) (eg : ∀ args w, (callFunc g args).run Try.prog w = .ok (.enter g args) w) (A0 : Option Addr) (c0 : Nat) (l0 : List S116) (w : World) (hr0 : Kd.C k116 w A0 l0.length l0)
    (hp : ∀ (W : World) (x : S116) (A1_ : Option Addr) (c1_ : Nat), x ∈ l0 → Below w.heap.size w W → x.f1.length ≤ c1_ → Kd.C (Kd.int .i64) W A1_ x.f1.length x.f1 → Calls Try.prog g (#[.agg #[.string x.f0, .slice A1_ x.f1.length c1_, .int .i64 x.f2]] ++ lb) W fun e w' => e = .returned (.bool (p x)) ∧ Below W.heap.size W w') :
    Calls Try.prog 164 #[.slice A0 l0.length c0, .func (.func g) #[] lb] w fun e w' => e = .returned (.int .i64 (idxOf p l0)) ∧ Below w.heap.size w w' := by
  have HR0 := Aside0.mk hr0
  have HP := Aside0.mk hp
  clear hr0 hp
  have HL : l0.length ≤ 9223372036854775807 := HR0.out.2.1
  go_enter Try.func164, Try.ntmps164
  go_wp2
  go_loopg [5, 8] l0.length (fun gg _ s8 wr => ∃ kk : Nat, Aside0 (kk ≤ l0.length) ∧ Aside0 (l0.length - kk ≤ gg) ∧ s8 = .int .i64 kk ∧ Aside0 (Below w.heap.size w wr) ∧ Aside0 (∀ j y, j < kk → l0[j]? = some y → p y = false))
  case atStart => exact ⟨0, ⟨Nat.zero_le _⟩, ⟨by omega⟩, rfl, ⟨Below.refl _ _⟩, ⟨fun j y hj => absurd hj (Nat.not_lt_zero _)⟩⟩
  case round =>
    obtain ⟨kk, HK, HG, rfl, HB, HN⟩ := hrel
    by_cases hlt : kk < l0.length
    · have hltz : (kk : Int) < (l0.length : Int) := by omega
      obtain ⟨ad, A1_, c1_, e1, hx0, hx1, hx2, l1_, g1_⟩ := at_T116 HR0.out (kk : Int) (by omega) hltz
      cases e1
      replace hx0 := (HB.out.cell (World.block_lt_of_cell? w _ hx0)).trans hx0
      rw [Int.toNat_natCast] at hx0
      replace hx1 := (HB.out.cell (World.block_lt_of_cell? w _ hx1)).trans hx1
      rw [Int.toNat_natCast] at hx1
      replace hx2 := (HB.out.cell (World.block_lt_of_cell? w _ hx2)).trans hx2
      rw [Int.toNat_natCast] at hx2
      have hxe : l0[kk]? = some (rd_T116 l0 (kk : Int)) := by
        unfold rd_T116
        rw [Int.toNat_natCast, List.getD_eq_getElem?_getD, List.getElem?_eq_getElem hlt]; rfl

      generalize rd_T116 l0 (kk : Int) = y at hx0 hx1 hx2 l1_ g1_ hxe
      have HX := Aside0.mk hxe
      clear hxe
      have hcall := HP.out wr y A1_ c1_ (List.mem_of_getElem? HX.out) HB.out l1_ (Kd.C_below g1_ HB.out)
      clear g1_ l1_
      cases hq : p y with
      | true =>
        have HQ := Aside0.mk hq
        rw [hq] at hcall
        clear hq
        go_wp2_with (go_at_fn g; refine hcall.mono ?_; rintro e w' ⟨rfl, hb⟩)
        go_ret
        exact ⟨by rw [idxOf_hit p l0 kk y HX.out HQ.out HN.out]; rfl, HB.out.trans (hb.mono HB.out.size)⟩
      | false =>
        have HQ := Aside0.mk hq
        rw [hq] at hcall
        clear hq
        go_wp2_with (go_at_fn g; refine hcall.mono ?_; rintro e w' ⟨rfl, hb⟩)
        go_roundg (l0.length - (kk + 1))
        case measure => have := HG.out; omega
        case rel =>
          refine ⟨kk + 1, ⟨by omega⟩, ⟨by omega⟩, by go_num, ⟨HB.out.trans (hb.mono HB.out.size)⟩, ⟨fun j y' hj hy => ?_⟩⟩
          by_cases e : j = kk
          · subst e
            rw [HX.out] at hy
            cases hy
            exact HQ.out
          · exact HN.out j y' (by omega) hy
    · have hltz : ¬ (kk : Int) < (l0.length : Int) := by omega
      have : kk = l0.length := by have := HK.out; omega
      subst this
      go_wp2
      go_ret
      exact ⟨by rw [idxOf_miss p l0 HN.out]; rfl, HB.out⟩

end Go.Proofs.Ytodfnelilhjoeaa.Pr

namespace Go.Proofs.Ytodfnelilhjoeaa.Pr
open Go.RowKit Go.Proofs.YtodfnelilhjoeaaW.PrintWords Go.Proofs.YtodfnelilhjoeaaW.PrintLast Go.Proofs.YtodfnelilhjoeaaW.PrintMore
attribute [local go_sem] max2_int min2_int max_two min_two max_three min_three max_four min_four
set_option linter.unusedVariables false
set_option linter.unusedSimpArgs false

/-! ### impl_watcher: function 126 (by hand) -/
open Go.Proofs.Ytodfnelilhjoeaa.Ni
-- IMPORT Derived.Test.YtodfnelilhjoeaaQNice
def pwatchI (ns : List S116) (p : Int) : Int := idxOf (fun n => decide (0 < p) && decide (n.f2 = p)) ns
def impl_watcher.f (l0_0 : List (S116)) (l0_1 : List (S90)) (a0_2 : Int) (a1 : Int) : Option Int := some (pwatchI l0_0 a1)
theorem impl_watcher_1.clo (B : Nat) (p : Int) (W : World) (hB : W.cell? ⟨B, 0, none⟩ = some (.int .i64 p)) (x : S116) (A1_ : Option Addr) (c1_ : Nat) :
    Calls Try.prog 165 #[.agg #[.string x.f0, .slice A1_ x.f1.length c1_, .int .i64 x.f2], .pointer (some ⟨B, 0, none⟩)] W fun e w' => e = .returned (.bool (decide (0 < p) && decide (x.f2 = p))) ∧ Below W.heap.size W w' := by
  have hlt : B < W.heap.size := World.block_lt_of_cell? W _ hB
  have HE := Aside0.mk (show (x.f2 == p) = decide (x.f2 = p) by rw [Bool.eq_iff_iff]; simp)
  cases hp : decide (0 < p) with
  | false =>
    go_enter Try.func165, Try.ntmps165
    go_wp2
    go_ret
    exact ⟨rfl, (Below.refl _ _).alloc (Nat.le_refl _) _⟩
  | true =>
    go_enter Try.func165, Try.ntmps165
    go_wp2
    go_ret
    exact ⟨by rw [← HE.out]; rfl, (Below.refl _ _).alloc (Nat.le_refl _) _⟩
set_option maxHeartbeats 4000000 in
theorem impl_watcher.calls (A0_0 : Option Addr) (c0_0 : Nat) (l0_0 : List (S116)) (A0_1 : Option Addr) (c0_1 : Nat) (l0_1 : List (S90)) (a0_2 : Int) (a1 : Int) (r : Int) (w : World) (hr0_0 : Kd.C k116 w A0_0 l0_0.length l0_0) (hc0_0 : l0_0.length ≤ c0_0) (hr0_1 : Kd.C k90 w A0_1 l0_1.length l0_1) (hc0_1 : l0_1.length ≤ c0_1) (h : impl_watcher.f l0_0 l0_1 a0_2 a1 = some r) :
    Calls Try.prog 126 #[.agg #[.slice A0_0 l0_0.length c0_0, .slice A0_1 l0_1.length c0_1, .int .i64 a0_2], .int .i64 a1] w fun e w' => e = .returned (.int .i64 r) ∧ Below w.heap.size w w' := by
  obtain rfl := Option.some.inj h
  have HC' := Aside0.mk fun (W : World) (B : Nat) (hb : Below w.heap.size w W) (hcell : W.cell? ⟨B, 0, none⟩ = some (.int .i64 a1)) => impl_Node.any (fun n => decide (0 < a1) && decide (n.f2 = a1)) 165 #[.pointer (some ⟨B, 0, none⟩)] (enters_of Try.func165 (by kernel_rfl) rfl) A0_0 c0_0 l0_0 W (Kd.C_below hr0_0 hb)
        (fun W' x A1_ c1_ _ hb' _ _ => impl_watcher_1.clo B a1 W' ((hb'.cell (World.block_lt_of_cell? W _ hcell)).trans hcell) x A1_ c1_)
  clear hr0_0 hr0_1 h
  have HB2 := Aside0.mk (((Below.refl w.heap.size w).alloc (Nat.le_refl _) (.cells #[.slice A0_0 l0_0.length c0_0, .slice A0_1 l0_1.length c0_1, .int .i64 a0_2] 35)).alloc (by simp) (.cells #[.int .i64 a1] 3))
  have hu := Try.underlying35
  go_enter Try.func126, Try.ntmps126
  go_wp2_with fail
  refine (HC'.out _ _ HB2.out (by go_simp)).mono ?_
  rintro e w' ⟨rfl, hb⟩
  go_wp2
  go_ret
  exact ⟨rfl, HB2.out.trans (hb.mono HB2.out.size)⟩

end Go.Proofs.Ytodfnelilhjoeaa.Pr

namespace Go.Proofs.Ytodfnelilhjoeaa.Pr
open Go.RowKit Go.Proofs.YtodfnelilhjoeaaW.PrintWords Go.Proofs.YtodfnelilhjoeaaW.PrintLast Go.Proofs.YtodfnelilhjoeaaW.PrintMore
attribute [local go_sem] max2_int min2_int max_two min_two max_three min_three max_four min_four
set_option linter.unusedVariables false
set_option linter.unusedSimpArgs false

/-! ### impl_ValuesOk_1: function 177 -/
def impl_ValuesOk_1.f (a0 : Int) : Option (Bool) := if a0 < (-1) then (some true) else (some (decide (a0 > 1)))
set_option maxHeartbeats 8000000 in
set_option maxRecDepth 100000 in
theorem impl_ValuesOk_1.calls (a0 : Int) (r : Bool) (w : World) (h : impl_ValuesOk_1.f a0 = some r) :
    Calls Try.prog 177 #[.int .i64 a0] w fun e w' => e = .returned (.bool r) ∧ Drawn0 w w' := by
  have H : (if a0 < (-1) then (some true) else (some (decide (a0 > 1)))) = some r := h
  clear h
  by_cases c2 : a0 < (-1)
  · rw [if_pos c2] at H
    have c2b0 : decide (a0 < (-1)) = true := decide_eq_true c2
    clear c2
    obtain rfl := Option.some.inj H
    go_enter Try.func177, Try.ntmps177
    go_wp2
    go_ret
    exact ⟨by first | rfl | (simp; done) | (simp [*]; done), by repeat (first | exact Drawn0.refl _ | apply Drawn0.step)⟩
  · rw [if_neg c2] at H
    have c2b0 : decide (a0 < (-1)) = false := decide_eq_false c2
    clear c2
    obtain rfl := Option.some.inj H
    go_enter Try.func177, Try.ntmps177
    go_wp2
    go_ret
    exact ⟨by first | rfl | (simp; done) | (simp [*]; done), by repeat (first | exact Drawn0.refl _ | apply Drawn0.step)⟩

end Go.Proofs.Ytodfnelilhjoeaa.Pr

namespace Go.Proofs.Ytodfnelilhjoeaa.Pr
open Go.RowKit Go.Proofs.YtodfnelilhjoeaaW.PrintWords Go.Proofs.YtodfnelilhjoeaaW.PrintLast Go.Proofs.YtodfnelilhjoeaaW.PrintMore
attribute [local go_sem] max2_int min2_int max_two min_two max_three min_three max_four min_four
set_option linter.unusedVariables false
set_option linter.unusedSimpArgs false

/-! ### impl_ValuesOk: function 167 (by hand) -/
open Go.Proofs.Ytodfnelilhjoeaa.Ni
-- IMPORT Derived.Test.YtodfnelilhjoeaaQNice
def impl_ValuesOk.f (l0 : List Int) : Option Bool := some (valsB l0)
theorem impl_ValuesOk.calls (A0 : Option Addr) (c0 : Nat) (l0 : List Int) (r : Bool) (w : World) (hr0 : Kd.C (Kd.int .i64) w A0 l0.length l0) (hc0 : l0.length ≤ c0) (h : impl_ValuesOk.f l0 = some r) :
    Calls Try.prog 167 #[.slice A0 l0.length c0] w fun e w' => e = .returned (.bool r) ∧ Below w.heap.size w w' := by
  obtain rfl : valsB l0 = r := Option.some.inj h
  have hv : l0.length = 3 → (!(l0.any fun n => decide (n < -1) || decide (n > 1))) = valsB l0 := fun hl => by
    unfold valsB
    rw [decide_eq_true hl, Bool.true_and, List.not_any_eq_all_not]
    congr 1
    funext n
    rw [Bool.eq_iff_iff]
    simp
  have hn : ¬ l0.length = 3 → valsB l0 = false := fun hl => by simp [valsB, hl]
  have HV := Aside0.mk hv
  have HN := Aside0.mk hn
  have HC := Aside0.mk (slices_ContainsFunc_int_int.any (fun n => decide (n < -1) || decide (n > 1)) 177 #[] (enters_of Try.func177 (by kernel_rfl) rfl) A0 c0 l0 w hr0
    (fun W x _ _ => (impl_ValuesOk_1.calls x (decide (x < -1) || decide (x > 1)) W (by
      unfold impl_ValuesOk_1.f
      by_cases h1 : x < -1
      · rw [if_pos h1, decide_eq_true h1]; rfl
      · rw [if_neg h1, decide_eq_false h1]; rfl)).mono fun e w' ⟨he, hd⟩ => ⟨he, hd.below⟩))
  clear hv hn h hr0 hc0
  by_cases hl : l0.length = 3
  · have h3 : ((l0.length : Int) == 3) = true := by rw [beq_iff_eq]; omega
    have HL := Aside0.mk hl
    clear hl
    go_enter Try.func167, Try.ntmps167
    go_wp2_with (go_at_call 123; refine HC.out.mono ?_; rintro e w' ⟨rfl, hb⟩)
    go_ret
    exact ⟨by rw [← HV.out HL.out]; rfl, hb⟩
  · have h3 : ((l0.length : Int) == 3) = false := by rw [beq_eq_false_iff_ne]; omega
    have HL := Aside0.mk hl
    clear hl
    go_enter Try.func167, Try.ntmps167
    go_wp2
    go_ret
    exact ⟨by rw [HN.out HL.out]; rfl, Below.refl _ _⟩

end Go.Proofs.Ytodfnelilhjoeaa.Pr

namespace Go.Proofs.Ytodfnelilhjoeaa.Pr
open Go.RowKit Go.Proofs.YtodfnelilhjoeaaW.PrintWords Go.Proofs.YtodfnelilhjoeaaW.PrintLast Go.Proofs.YtodfnelilhjoeaaW.PrintMore
attribute [local go_sem] max2_int min2_int max_two min_two max_three min_three max_four min_four
set_option linter.unusedVariables false
set_option linter.unusedSimpArgs false

/-! ### impl_isState: function 142 -/
mutual
def impl_isState.j0 : Nat → Bool → List (S116) → List (S90) → Int → Int → List Int → List Int → Option (Bool)
  | 0, _, _, _, _, _, _, _ => none
  | k + 1, x35, x142002000, x142002001, x142002002, x142003000, x142003001, x142003002 => if x35 = true then (some false) else (impl_isState.l0 k x142003001 (x142003001.length : Int) 0 x142002000 x142002001 x142002002 x142003000 x142003001 x142003002)
def impl_isState.l0 : Nat → List Int → Int → Int → List (S116) → List (S90) → Int → Int → List Int → List Int → Option (Bool)
  | 0, _, _, _, _, _, _, _, _, _ => none
  | k + 1, x37, x38, x39, x142002000, x142002001, x142002002, x142003000, x142003001, x142003002 => if x39 < x38 then (if 0 ≤ x39 then (if x39 < (x37.length : Int) then (if x39 = 0 then (if (rd x37 x39) = 0 then (if x39 > 0 then (if (rd x37 x39) < (-1) then (some false) else (if (rd x37 x39) > (wrap64 (x142003000 - 1)) then (some false) else (impl_isState.l0 k x37 x38 (wrap64 (x39 + 1)) x142002000 x142002001 x142002002 x142003000 x142003001 x142003002))) else (impl_isState.l0 k x37 x38 (wrap64 (x39 + 1)) x142002000 x142002001 x142002002 x142003000 x142003001 x142003002)) else (some false)) else (if x39 > 0 then (if (rd x37 x39) < (-1) then (some false) else (if (rd x37 x39) > (wrap64 (x142003000 - 1)) then (some false) else (impl_isState.l0 k x37 x38 (wrap64 (x39 + 1)) x142002000 x142002001 x142002002 x142003000 x142003001 x142003002))) else (impl_isState.l0 k x37 x38 (wrap64 (x39 + 1)) x142002000 x142002001 x142002002 x142003000 x142003001 x142003002))) else (none)) else (none)) else (impl_isState.l1 k x142003002 (x142003002.length : Int) 0 x142002000 x142002001 x142002002 x142003000 x142003001 x142003002)
def impl_isState.l1 : Nat → List Int → Int → Int → List (S116) → List (S90) → Int → Int → List Int → List Int → Option (Bool)
  | 0, _, _, _, _, _, _, _, _, _ => none
  | k + 1, x67, x68, x69, x142002000, x142002001, x142002002, x142003000, x142003001, x142003002 => if x69 < x68 then (if 0 ≤ x69 then (if x69 < (x67.length : Int) then ((impl_watcher.f x142002000 x142002001 x142002002 (wrap64 (x69 + 1))).bind fun t142006 => (if t142006 ≥ 0 then (if 0 ≤ t142006 then (if t142006 < (x142003001.length : Int) then (if (((rd x67 x69) != 0) != ((rd x142003001 t142006) != (-1))) = true then (some false) else (impl_isState.l1 k x67 x68 (wrap64 (x69 + 1)) x142002000 x142002001 x142002002 x142003000 x142003001 x142003002)) else (none)) else (none)) else (if (((rd x67 x69) != 0) != false) = true then (some false) else (impl_isState.l1 k x67 x68 (wrap64 (x69 + 1)) x142002000 x142002001 x142002002 x142003000 x142003001 x142003002)))) else (none)) else (none)) else (some true)
end
def impl_isState.f (k : Nat) (l0_0 : List (S116)) (l0_1 : List (S90)) (a0_2 : Int) (a1_0 : Int) (l1_1 : List Int) (l1_2 : List Int) : Option (Bool) := if a1_0 < 0 then (impl_isState.j0 k true l0_0 l0_1 a0_2 a1_0 l1_1 l1_2) else (if a1_0 > (wrap64 (a0_2 + 1)) then (impl_isState.j0 k true l0_0 l0_1 a0_2 a1_0 l1_1 l1_2) else (if (l1_1.length : Int) = (l0_0.length : Int) then ((impl_ValuesOk.f l1_2).bind fun t142003 => (impl_isState.j0 k (!t142003) l0_0 l0_1 a0_2 a1_0 l1_1 l1_2)) else (impl_isState.j0 k true l0_0 l0_1 a0_2 a1_0 l1_1 l1_2)))
set_option maxHeartbeats 8000000 in
set_option maxRecDepth 100000 in
theorem impl_isState.calls (k : Nat) (A0_0 : Option Addr) (c0_0 : Nat) (l0_0 : List (S116)) (A0_1 : Option Addr) (c0_1 : Nat) (l0_1 : List (S90)) (a0_2 : Int) (a1_0 : Int) (A1_1 : Option Addr) (c1_1 : Nat) (l1_1 : List Int) (A1_2 : Option Addr) (c1_2 : Nat) (l1_2 : List Int) (r : Bool) (w : World) (hr0_0 : Kd.C k116 w A0_0 l0_0.length l0_0) (hc0_0 : l0_0.length ≤ c0_0) (hr0_1 : Kd.C k90 w A0_1 l0_1.length l0_1) (hc0_1 : l0_1.length ≤ c0_1) (hr1_1 : Kd.C (Kd.int .i64) w A1_1 l1_1.length l1_1) (hc1_1 : l1_1.length ≤ c1_1) (hr1_2 : Kd.C (Kd.int .i64) w A1_2 l1_2.length l1_2) (hc1_2 : l1_2.length ≤ c1_2) (h : impl_isState.f k l0_0 l0_1 a0_2 a1_0 l1_1 l1_2 = some r) :
    Calls Try.prog 142 #[.agg #[.slice A0_0 l0_0.length c0_0, .slice A0_1 l0_1.length c0_1, .int .i64 a0_2], .agg #[.int .i64 a1_0, .slice A1_1 l1_1.length c1_1, .slice A1_2 l1_2.length c1_2]] w fun e w' => e = .returned (.bool r) ∧ Below w.heap.size w w' := by
  have hu35 := Try.underlying35
  have hu66 := Try.underlying66
  have HR0_0 := Aside0.mk hr0_0
  have HC0_0 := Aside0.mk hc0_0
  clear hr0_0 hc0_0
  have HR0_1 := Aside0.mk hr0_1
  have HC0_1 := Aside0.mk hc0_1
  clear hr0_1 hc0_1
  have HR1_1 := Aside0.mk hr1_1
  have HC1_1 := Aside0.mk hc1_1
  clear hr1_1 hc1_1
  have HR1_2 := Aside0.mk hr1_2
  have HC1_2 := Aside0.mk hc1_2
  clear hr1_2 hc1_2
  have HB := Aside0.mk (Below.refl w.heap.size w)
  have H : (if a1_0 < 0 then (impl_isState.j0 k true l0_0 l0_1 a0_2 a1_0 l1_1 l1_2) else (if a1_0 > (wrap64 (a0_2 + 1)) then (impl_isState.j0 k true l0_0 l0_1 a0_2 a1_0 l1_1 l1_2) else (if (l1_1.length : Int) = (l0_0.length : Int) then ((impl_ValuesOk.f l1_2).bind fun t142003 => (impl_isState.j0 k (!t142003) l0_0 l0_1 a0_2 a1_0 l1_1 l1_2)) else (impl_isState.j0 k true l0_0 l0_1 a0_2 a1_0 l1_1 l1_2)))) = some r := h
  clear h
  have HC3 := Aside0.mk H
  clear H
  go_enter Try.func142, Try.ntmps142
  go_upto_region 1 with (first | ((with_reducible refine gate_dst (N := 2) rfl ?_); (try (refine gate_guard (by rfl) ?_; dsimp only)); refine box_event ?hg (N := 2) ?hd (cs := #[.slice A0_0 l0_0.length c0_0, .slice A0_1 l0_1.length c0_1, .int .i64 a0_2]) (t := 35) ?hr ?_; (case hd => rfl); (case hg => rfl); (case hr => first | (go_simp; done) | (go_simp; rfl)); intro gb142001 hg w4 hbox hb; have n0_ := Aside0.mk (below_step (by repeat (first | (with_reducible first | exact HB.out | apply below_alloc | apply pw_below_drewN | apply below_drew1) | exact HB.out)) hb); have n1_ := Aside0.mk (hbox); have n2_ := Aside0.mk ((by rw [hg]; exact (below_size (by repeat (first | (with_reducible first | exact HB.out | apply below_alloc | apply pw_below_drewN | apply below_drew1) | exact HB.out))) : w.heap.size ≤ gb142001)); have n3_ := Aside0.mk ((by rw [hg]; exact (below_size (by repeat (first | (with_reducible first | exact HB.out | apply below_alloc | apply pw_below_drewN | apply below_drew1) | exact HB.out))) : w.heap.size ≤ gb142001)); clear HB; have HB := n0_; have BK142001 := n1_; have GW142001 := n2_; have GE142001 := n3_; clear n0_ n1_ n2_ n3_; clear hb hbox hg) | ((with_reducible refine gate_dst (N := 3) rfl ?_); (try (refine gate_guard (by rfl) ?_; dsimp only)); refine box_event ?hg (N := 3) ?hd (cs := #[.int .i64 a1_0, .slice A1_1 l1_1.length c1_1, .slice A1_2 l1_2.length c1_2]) (t := 66) ?hr ?_; (case hd => rfl); (case hg => rfl); (case hr => first | (go_simp; done) | (go_simp; rfl)); intro gb142002 hg w5 hbox hb; have n0_ := Aside0.mk (blk_below (g := gb142001) (o := .cells #[.slice A0_0 l0_0.length c0_0, .slice A0_1 l0_1.length c0_1, .int .i64 a0_2] 35 (0, 0)) (by (with_reducible repeat (first | refine blk_drewN ?_ _ | refine blk_drew ?_ | refine blk_alloc ?_ _)); exact BK142001.out) hb); have n1_ := Aside0.mk (below_step (by repeat (first | (with_reducible first | exact HB.out | apply below_alloc | apply pw_below_drewN | apply below_drew1 | refine below_set ?_ GE142001.out) | exact HB.out)) hb); have n2_ := Aside0.mk (hbox); have n3_ := Aside0.mk ((by rw [hg]; exact (below_size (by repeat (first | (with_reducible first | exact HB.out | apply below_alloc | apply pw_below_drewN | apply below_drew1 | refine below_set ?_ GE142001.out) | exact HB.out))) : w.heap.size ≤ gb142002)); have n4_ := Aside0.mk ((by rw [hg]; exact (below_size (by repeat (first | (with_reducible first | exact HB.out | apply below_alloc | apply pw_below_drewN | apply below_drew1 | refine below_set ?_ GE142001.out) | exact HB.out))) : w.heap.size ≤ gb142002)); have n5_ := Aside0.mk ((by rw [hg]; exact Nat.ne_of_lt (blk_lt (g := gb142001) (o := .cells #[.slice A0_0 l0_0.length c0_0, .slice A0_1 l0_1.length c0_1, .int .i64 a0_2] 35 (0, 0)) (by (with_reducible repeat (first | refine blk_drewN ?_ _ | refine blk_drew ?_ | refine blk_alloc ?_ _)); exact BK142001.out)) : gb142001 ≠ gb142002)); have n6_ := Aside0.mk ((by rw [hg]; exact Nat.ne_of_gt (blk_lt (g := gb142001) (o := .cells #[.slice A0_0 l0_0.length c0_0, .slice A0_1 l0_1.length c0_1, .int .i64 a0_2] 35 (0, 0)) (by (with_reducible repeat (first | refine blk_drewN ?_ _ | refine blk_drew ?_ | refine blk_alloc ?_ _)); exact BK142001.out)) : gb142002 ≠ gb142001)); clear BK142001; clear HB; have BK142001 := n0_; have HB := n1_; have BK142002 := n2_; have GW142002 := n3_; have GE142002 := n4_; have NB142001_142002 := n5_; have NB142002_142001 := n6_; clear n0_ n1_ n2_ n3_ n4_ n5_ n6_; clear hb hbox hg))
  (try simp only [Act.put, List.setIfInBounds_toArray, List.set_cons_zero, List.set_cons_succ])
  go_cut [35] (fun v35 wc => ∃ (kq : Nat) (x35_2 : Bool), v35 = .bool x35_2 ∧ Aside0 (impl_isState.j0 kq x35_2 l0_0 l0_1 a0_2 a1_0 l1_1 l1_2 = some r) ∧ Aside0 (kq ≤ k) ∧ Aside0 (wc.heap[gb142001]? = some (.cells #[(.slice A0_0 l0_0.length c0_0), (.slice A0_1 l0_1.length c0_1), .int .i64 a0_2] 35 (0, 0))) ∧ Aside0 (wc.heap[gb142002]? = some (.cells #[.int .i64 a1_0, (.slice A1_1 l1_1.length c1_1), (.slice A1_2 l1_2.length c1_2)] 66 (0, 0))) ∧ Aside0 (Below w.heap.size w wc))
  case first =>
    have H := HC3.out
    clear HC3
    by_cases c6 : a1_0 < 0
    · rw [if_pos c6] at H
      have c6b0 : decide (a1_0 < 0) = true := decide_eq_true c6
      clear c6
      (first | rw [c6b0] | (simp only [i64_w, i32_w]; rw [c6b0]) | skip)
      have H' := Aside0.mk H
      clear H
      have hnb7 := NB142002_142001.out
      have hnc7 := NB142001_142002.out
      have hcz8_0 : w5.cell? ⟨gb142002, 0, none⟩ = some (.int .i64 a1_0) := (blk_cell BK142002.out 0).trans rfl
      have hcz8_1 : w5.cell? ⟨gb142002, 1, none⟩ = some (.slice A1_1 l1_1.length c1_1) := (blk_cell BK142002.out 1).trans rfl
      have hcz8_2 : w5.cell? ⟨gb142002, 2, none⟩ = some (.slice A1_2 l1_2.length c1_2) := (blk_cell BK142002.out 2).trans rfl
      have hfz8_0 := blk_frozen BK142002.out 0
      have hfz8_1 := blk_frozen BK142002.out 1
      have hfz8_2 := blk_frozen BK142002.out 2
      go_wp2
      go_meet
      case rel => exact ⟨_, (true), (by first | rfl | (simp; done) | (simp [*]; done)), H', ⟨by first | omega | exact Nat.le_refl _⟩, ⟨by (with_reducible repeat (first | refine blk_drewN ?_ _ | refine blk_drew ?_ | refine blk_alloc ?_ _)); exact BK142001.out⟩, ⟨by (with_reducible repeat (first | refine blk_drewN ?_ _ | refine blk_drew ?_ | refine blk_alloc ?_ _)); exact BK142002.out⟩, ⟨by repeat (first | (with_reducible first | exact HB.out | apply below_alloc | apply pw_below_drewN | apply below_drew1 | refine below_set ?_ GE142001.out | refine below_set ?_ GE142002.out) | exact HB.out)⟩⟩
    · rw [if_neg c6] at H
      have c6b0 : decide (a1_0 < 0) = false := decide_eq_false c6
      clear c6
      (first | rw [c6b0] | (simp only [i64_w, i32_w]; rw [c6b0]) | skip)
      by_cases c9 : a1_0 > (wrap64 (a0_2 + 1))
      · rw [if_pos c9] at H
        have c9b0 : decide ((wrap64 (a0_2 + 1)) < a1_0) = true := decide_eq_true c9
        clear c9
        have H' := Aside0.mk H
        clear H
        have hnb10 := NB142002_142001.out
        have hnc10 := NB142001_142002.out
        have hcz11_0 : w5.cell? ⟨gb142002, 0, none⟩ = some (.int .i64 a1_0) := (blk_cell BK142002.out 0).trans rfl
        have hcz11_1 : w5.cell? ⟨gb142002, 1, none⟩ = some (.slice A1_1 l1_1.length c1_1) := (blk_cell BK142002.out 1).trans rfl
        have hcz11_2 : w5.cell? ⟨gb142002, 2, none⟩ = some (.slice A1_2 l1_2.length c1_2) := (blk_cell BK142002.out 2).trans rfl
        have hfz11_0 := blk_frozen BK142002.out 0
        have hfz11_1 := blk_frozen BK142002.out 1
        have hfz11_2 := blk_frozen BK142002.out 2
        have hcz12_0 : w5.cell? ⟨gb142001, 0, none⟩ = some (.slice A0_0 l0_0.length c0_0) := (blk_cell BK142001.out 0).trans rfl
        have hcz12_1 : w5.cell? ⟨gb142001, 1, none⟩ = some (.slice A0_1 l0_1.length c0_1) := (blk_cell BK142001.out 1).trans rfl
        have hcz12_2 : w5.cell? ⟨gb142001, 2, none⟩ = some (.int .i64 a0_2) := (blk_cell BK142001.out 2).trans rfl
        have hfz12_0 := blk_frozen BK142001.out 0
        have hfz12_1 := blk_frozen BK142001.out 1
        have hfz12_2 := blk_frozen BK142001.out 2
        go_wp2
        go_meet
        case rel => exact ⟨_, (true), (by first | rfl | (simp; done) | (simp [*]; done)), H', ⟨by first | omega | exact Nat.le_refl _⟩, ⟨by (with_reducible repeat (first | refine blk_drewN ?_ _ | refine blk_drew ?_ | refine blk_alloc ?_ _)); exact BK142001.out⟩, ⟨by (with_reducible repeat (first | refine blk_drewN ?_ _ | refine blk_drew ?_ | refine blk_alloc ?_ _)); exact BK142002.out⟩, ⟨by repeat (first | (with_reducible first | exact HB.out | apply below_alloc | apply pw_below_drewN | apply below_drew1 | refine below_set ?_ GE142001.out | refine below_set ?_ GE142002.out) | exact HB.out)⟩⟩
      · rw [if_neg c9] at H
        have c9b0 : decide ((wrap64 (a0_2 + 1)) < a1_0) = false := decide_eq_false c9
        clear c9
        by_cases c13 : (l1_1.length : Int) = (l0_0.length : Int)
        · rw [if_pos c13] at H
          have c13b0 : ((l1_1.length : Int) == (l0_0.length : Int)) = true := beq_iff_eq.mpr c13
          have c13b1 : ((l1_1.length : Int) != (l0_0.length : Int)) = false := bne_eq_false_iff_eq.mpr c13
          have c13b2 : (l1_1.length == l0_0.length) = true := by first | simpa using c13 | (simp at c13 ⊢; omega)
          clear c13
          replace H := Option.bind_eq_some_iff.mp H
          obtain ⟨t142003, A140, H⟩ := H
          replace H : (impl_isState.j0 k (!t142003) l0_0 l0_1 a0_2 a1_0 l1_1 l1_2) = some r := H
          have A14 := Aside0.mk A140
          clear A140
          have H' := Aside0.mk H
          clear H
          have hnb15 := NB142002_142001.out
          have hnc15 := NB142001_142002.out
          have hcz16_0 : w5.cell? ⟨gb142002, 0, none⟩ = some (.int .i64 a1_0) := (blk_cell BK142002.out 0).trans rfl
          have hcz16_1 : w5.cell? ⟨gb142002, 1, none⟩ = some (.slice A1_1 l1_1.length c1_1) := (blk_cell BK142002.out 1).trans rfl
          have hcz16_2 : w5.cell? ⟨gb142002, 2, none⟩ = some (.slice A1_2 l1_2.length c1_2) := (blk_cell BK142002.out 2).trans rfl
          have hfz16_0 := blk_frozen BK142002.out 0
          have hfz16_1 := blk_frozen BK142002.out 1
          have hfz16_2 := blk_frozen BK142002.out 2
          have hcz17_0 : w5.cell? ⟨gb142001, 0, none⟩ = some (.slice A0_0 l0_0.length c0_0) := (blk_cell BK142001.out 0).trans rfl
          have hcz17_1 : w5.cell? ⟨gb142001, 1, none⟩ = some (.slice A0_1 l0_1.length c0_1) := (blk_cell BK142001.out 1).trans rfl
          have hcz17_2 : w5.cell? ⟨gb142001, 2, none⟩ = some (.int .i64 a0_2) := (blk_cell BK142001.out 2).trans rfl
          have hfz17_0 := blk_frozen BK142001.out 0
          have hfz17_1 := blk_frozen BK142001.out 1
          have hfz17_2 := blk_frozen BK142001.out 2
          go_wp2_with (first | (go_at_call 167; (with_reducible refine (impl_ValuesOk.calls _ _ l1_2 t142003 _ ?side1 ?side2 A14.out).mono ?_); (case side1 => repeat (first | exact (Kd.C_below HR1_2.out HB.out) | (with_reducible refine Kd.C_alloc ?_ _) | (with_reducible refine Kd.C_drewN ?_ _) | (with_reducible refine Kd.C_drew ?_))); (case side2 => exact HC1_2.out); rintro e w18 ⟨rfl, hb⟩; have n0_ := Aside0.mk (blk_below (g := gb142001) (o := .cells #[.slice A0_0 l0_0.length c0_0, .slice A0_1 l0_1.length c0_1, .int .i64 a0_2] 35 (0, 0)) (by (with_reducible repeat (first | refine blk_drewN ?_ _ | refine blk_drew ?_ | refine blk_alloc ?_ _)); exact BK142001.out) hb); have n1_ := Aside0.mk (blk_below (g := gb142002) (o := .cells #[.int .i64 a1_0, .slice A1_1 l1_1.length c1_1, .slice A1_2 l1_2.length c1_2] 66 (0, 0)) (by (with_reducible repeat (first | refine blk_drewN ?_ _ | refine blk_drew ?_ | refine blk_alloc ?_ _)); exact BK142002.out) hb); have n2_ := Aside0.mk (below_step (by repeat (first | (with_reducible first | exact HB.out | apply below_alloc | apply pw_below_drewN | apply below_drew1 | refine below_set ?_ GE142001.out | refine below_set ?_ GE142002.out) | exact HB.out)) hb); clear BK142001; clear BK142002; clear HB; have BK142001 := n0_; have BK142002 := n1_; have HB := n2_; clear n0_ n1_ n2_; (try clear hb); (try clear hb2); (try clear hk); (try clear hi)))
          go_meet
          case rel => exact ⟨_, (!t142003), (by first | rfl | (simp; done) | (simp [*]; done)), H', ⟨by first | omega | exact Nat.le_refl _⟩, ⟨by (with_reducible repeat (first | refine blk_drewN ?_ _ | refine blk_drew ?_ | refine blk_alloc ?_ _)); exact BK142001.out⟩, ⟨by (with_reducible repeat (first | refine blk_drewN ?_ _ | refine blk_drew ?_ | refine blk_alloc ?_ _)); exact BK142002.out⟩, ⟨by repeat (first | (with_reducible first | exact HB.out | apply below_alloc | apply pw_below_drewN | apply below_drew1 | refine below_set ?_ GE142001.out | refine below_set ?_ GE142002.out) | exact HB.out)⟩⟩
        · rw [if_neg c13] at H
          have c13b0 : ((l1_1.length : Int) == (l0_0.length : Int)) = false := beq_eq_false_iff_ne.mpr c13
          have c13b1 : ((l1_1.length : Int) != (l0_0.length : Int)) = true := bne_iff_ne.mpr c13
          have c13b2 : (l1_1.length == l0_0.length) = false := by first | simpa using c13 | (simp at c13 ⊢; omega)
          have H' := Aside0.mk H
          clear H
          have hnb19 := NB142002_142001.out
          have hnc19 := NB142001_142002.out
          have hcz20_0 : w5.cell? ⟨gb142002, 0, none⟩ = some (.int .i64 a1_0) := (blk_cell BK142002.out 0).trans rfl
          have hcz20_1 : w5.cell? ⟨gb142002, 1, none⟩ = some (.slice A1_1 l1_1.length c1_1) := (blk_cell BK142002.out 1).trans rfl
          have hcz20_2 : w5.cell? ⟨gb142002, 2, none⟩ = some (.slice A1_2 l1_2.length c1_2) := (blk_cell BK142002.out 2).trans rfl
          have hfz20_0 := blk_frozen BK142002.out 0
          have hfz20_1 := blk_frozen BK142002.out 1
          have hfz20_2 := blk_frozen BK142002.out 2
          have hcz21_0 : w5.cell? ⟨gb142001, 0, none⟩ = some (.slice A0_0 l0_0.length c0_0) := (blk_cell BK142001.out 0).trans rfl
          have hcz21_1 : w5.cell? ⟨gb142001, 1, none⟩ = some (.slice A0_1 l0_1.length c0_1) := (blk_cell BK142001.out 1).trans rfl
          have hcz21_2 : w5.cell? ⟨gb142001, 2, none⟩ = some (.int .i64 a0_2) := (blk_cell BK142001.out 2).trans rfl
          have hfz21_0 := blk_frozen BK142001.out 0
          have hfz21_1 := blk_frozen BK142001.out 1
          have hfz21_2 := blk_frozen BK142001.out 2
          go_wp2
          go_meet
          case rel => exact ⟨_, (true), (by first | rfl | (simp; done) | (simp [*]; done)), H', ⟨by first | omega | exact Nat.le_refl _⟩, ⟨by (with_reducible repeat (first | refine blk_drewN ?_ _ | refine blk_drew ?_ | refine blk_alloc ?_ _)); exact BK142001.out⟩, ⟨by (with_reducible repeat (first | refine blk_drewN ?_ _ | refine blk_drew ?_ | refine blk_alloc ?_ _)); exact BK142002.out⟩, ⟨by repeat (first | (with_reducible first | exact HB.out | apply below_alloc | apply pw_below_drewN | apply below_drew1 | refine below_set ?_ GE142001.out | refine below_set ?_ GE142002.out) | exact HB.out)⟩⟩
  case rest =>
    clear HC3
    try clear c1
    try clear p2
    try clear c6
    try clear c6b0
    try clear p6
    try clear c7
    try clear c9
    try clear c9b0
    try clear c10
    try clear c13
    try clear c13b0
    try clear c13b1
    try clear c13b2
    try clear c14
    try clear c15
    try clear c19
    try clear hcz11_0
    try clear hcz11_1
    try clear hcz11_2
    try clear hcz12_0
    try clear hcz12_1
    try clear hcz12_2
    try clear hcz16_0
    try clear hcz16_1
    try clear hcz16_2
    try clear hcz17_0
    try clear hcz17_1
    try clear hcz17_2
    try clear hcz20_0
    try clear hcz20_1
    try clear hcz20_2
    try clear hcz21_0
    try clear hcz21_1
    try clear hcz21_2
    try clear hcz8_0
    try clear hcz8_1
    try clear hcz8_2
    try clear hfz11_0
    try clear hfz11_1
    try clear hfz11_2
    try clear hfz12_0
    try clear hfz12_1
    try clear hfz12_2
    try clear hfz16_0
    try clear hfz16_1
    try clear hfz16_2
    try clear hfz17_0
    try clear hfz17_1
    try clear hfz17_2
    try clear hfz20_0
    try clear hfz20_1
    try clear hfz20_2
    try clear hfz21_0
    try clear hfz21_1
    try clear hfz21_2
    try clear hfz8_0
    try clear hfz8_1
    try clear hfz8_2
    obtain ⟨kq, x35_2, rfl, HA, HJ2, BK142001, BK142002, HB⟩ := hcut
    cases kq with
    | zero => exact absurd HA.out (by simp [impl_isState.j0])
    | succ kj2 =>
      have H := HA.out
      clear HA
      simp only [impl_isState.j0] at H
      by_cases c22 : x35_2 = true
      · subst c22
        have H1 : (some false) = some r := by rw [if_pos rfl] at H; exact H
        clear H
        have H := H1
        clear H1
        obtain rfl := Option.some.inj H
        go_wp2
        go_ret
        exact ⟨by first | rfl | (simp [errW_none, errW_some] <;> rfl) | (simp [*, errW_none, errW_some] <;> rfl), by repeat (first | (with_reducible first | exact HB.out | apply below_alloc | apply pw_below_drewN | apply below_drew1 | refine below_set ?_ GE142001.out | refine below_set ?_ GE142002.out) | exact HB.out)⟩
      · replace c22 := Bool.eq_false_iff.mpr c22
        subst c22
        have H1 : (impl_isState.l0 kj2 l1_1 (l1_1.length : Int) 0 l0_0 l0_1 a0_2 a1_0 l1_1 l1_2) = some r := by rw [if_neg (show ¬ (false = true) by decide)] at H; exact H
        clear H
        have H := H1
        clear H1
        have H' := Aside0.mk H
        clear H
        have hnb23 := NB142002_142001.out
        have hnc23 := NB142001_142002.out
        have hcz24_0 : wc.cell? ⟨gb142002, 0, none⟩ = some (.int .i64 a1_0) := (blk_cell BK142002.out 0).trans rfl
        have hcz24_1 : wc.cell? ⟨gb142002, 1, none⟩ = some (.slice A1_1 l1_1.length c1_1) := (blk_cell BK142002.out 1).trans rfl
        have hcz24_2 : wc.cell? ⟨gb142002, 2, none⟩ = some (.slice A1_2 l1_2.length c1_2) := (blk_cell BK142002.out 2).trans rfl
        have hfz24_0 := blk_frozen BK142002.out 0
        have hfz24_1 := blk_frozen BK142002.out 1
        have hfz24_2 := blk_frozen BK142002.out 2
        go_wp2
        go_loopg [39] kj2 (fun kq v39 w' => ∃ (x39_2 : Int), v39 = .int .i64 x39_2 ∧ Aside0 (impl_isState.l0 kq l1_1 (l1_1.length : Int) x39_2 l0_0 l0_1 a0_2 a1_0 l1_1 l1_2 = some r) ∧ Aside0 (kq ≤ kj2) ∧ Aside0 (w'.heap[gb142001]? = some (.cells #[(.slice A0_0 l0_0.length c0_0), (.slice A0_1 l0_1.length c0_1), .int .i64 a0_2] 35 (0, 0))) ∧ Aside0 (w'.heap[gb142002]? = some (.cells #[.int .i64 a1_0, (.slice A1_1 l1_1.length c1_1), (.slice A1_2 l1_2.length c1_2)] 66 (0, 0))) ∧ Aside0 (Below w.heap.size w w'))
        case atStart => exact ⟨(0), (by first | rfl | (simp; done) | (simp [*]; done)), H', ⟨Nat.le_refl _⟩, ⟨by (with_reducible repeat (first | refine blk_drewN ?_ _ | refine blk_drew ?_ | refine blk_alloc ?_ _)); exact BK142001.out⟩, ⟨by (with_reducible repeat (first | refine blk_drewN ?_ _ | refine blk_drew ?_ | refine blk_alloc ?_ _)); exact BK142002.out⟩, ⟨by repeat (first | (with_reducible first | exact HB.out | apply below_alloc | apply pw_below_drewN | apply below_drew1 | refine below_set ?_ GE142001.out | refine below_set ?_ GE142002.out) | exact HB.out)⟩⟩
        case round =>
          clear H'
          try clear c1
          try clear c2
          try clear p2
          try clear c6
          try clear c6b0
          try clear p6
          try clear c7
          try clear c9
          try clear c9b0
          try clear c10
          try clear c13
          try clear c13b0
          try clear c13b1
          try clear c13b2
          try clear c14
          try clear c15
          try clear c19
          try clear c22
          try clear c23
          try clear hcz11_0
          try clear hcz11_1
          try clear hcz11_2
          try clear hcz12_0
          try clear hcz12_1
          try clear hcz12_2
          try clear hcz16_0
          try clear hcz16_1
          try clear hcz16_2
          try clear hcz17_0
          try clear hcz17_1
          try clear hcz17_2
          try clear hcz20_0
          try clear hcz20_1
          try clear hcz20_2
          try clear hcz21_0
          try clear hcz21_1
          try clear hcz21_2
          try clear hcz24_0
          try clear hcz24_1
          try clear hcz24_2
          try clear hcz8_0
          try clear hcz8_1
          try clear hcz8_2
          try clear hfz11_0
          try clear hfz11_1
          try clear hfz11_2
          try clear hfz12_0
          try clear hfz12_1
          try clear hfz12_2
          try clear hfz16_0
          try clear hfz16_1
          try clear hfz16_2
          try clear hfz17_0
          try clear hfz17_1
          try clear hfz17_2
          try clear hfz20_0
          try clear hfz20_1
          try clear hfz20_2
          try clear hfz21_0
          try clear hfz21_1
          try clear hfz21_2
          try clear hfz24_0
          try clear hfz24_1
          try clear hfz24_2
          try clear hfz8_0
          try clear hfz8_1
          try clear hfz8_2
          try clear p2
          try clear p6
          obtain ⟨x39_2, rfl, HA, HK2, BK142001, BK142002, HB⟩ := hrel
          cases gk with
          | zero => exact absurd HA.out (by simp [impl_isState.l0])
          | succ k2 =>
            have H := HA.out
            clear HA
            simp only [impl_isState.l0] at H
            by_cases c25 : x39_2 < (l1_1.length : Int)
            · rw [if_pos c25] at H
              have c25b0 : decide (x39_2 < (l1_1.length : Int)) = true := decide_eq_true c25
              clear c25
              by_cases c26 : 0 ≤ x39_2
              · rw [if_pos c26] at H
                have c26b0 : decide (0 ≤ x39_2) = true := decide_eq_true c26
                clear c26
                by_cases c27 : x39_2 < (l1_1.length : Int)
                · rw [if_pos c27] at H
                  have c27b0 : decide (x39_2 < (l1_1.length : Int)) = true := decide_eq_true c27
                  clear c27
                  by_cases c28 : x39_2 = 0
                  · rw [if_pos c28] at H
                    have c28b0 : (x39_2 == 0) = true := beq_iff_eq.mpr c28
                    have c28b1 : (x39_2 != 0) = false := bne_eq_false_iff_eq.mpr c28
                    clear c28
                    by_cases c29 : (rd l1_1 x39_2) = 0
                    · rw [if_pos c29] at H
                      have c29b0 : ((rd l1_1 x39_2) == 0) = true := beq_iff_eq.mpr c29
                      have c29b1 : ((rd l1_1 x39_2) != 0) = false := bne_eq_false_iff_eq.mpr c29
                      clear c29
                      by_cases c30 : x39_2 > 0
                      · rw [if_pos c30] at H
                        have c30b0 : decide (0 < x39_2) = true := decide_eq_true c30
                        clear c30
                        by_cases c31 : (rd l1_1 x39_2) < (-1)
                        · rw [if_pos c31] at H
                          have c31b0 : decide ((rd l1_1 x39_2) < (-1)) = true := decide_eq_true c31
                          clear c31
                          obtain rfl := Option.some.inj H
                          have p142004 : 0 ≤ (x39_2 : Int) := of_decide_eq_true (by first | (with_reducible assumption) | assumption)
                          have q142004 : x39_2 < (l1_1.length : Int) := of_decide_eq_true (by first | (with_reducible assumption) | assumption)
                          obtain ⟨ad142004, e142004, hx142004_0⟩ := Kd.at_int HR1_1.out x39_2 p142004 q142004
                          cases e142004
                          replace hx142004_0 := (HB.out.cell (World.block_lt_of_cell? w _ hx142004_0)).trans hx142004_0
                          replace p142004 := eq_true p142004
                          replace q142004 := eq_true q142004
                          go_wp2
                          go_ret
                          exact ⟨by first | rfl | (simp [errW_none, errW_some] <;> rfl) | (simp [*, errW_none, errW_some] <;> rfl), by repeat (first | (with_reducible first | exact HB.out | apply below_alloc | apply pw_below_drewN | apply below_drew1 | refine below_set ?_ GE142001.out | refine below_set ?_ GE142002.out) | exact HB.out)⟩
                        · rw [if_neg c31] at H
                          have c31b0 : decide ((rd l1_1 x39_2) < (-1)) = false := decide_eq_false c31
                          clear c31
                          by_cases c32 : (rd l1_1 x39_2) > (wrap64 (a1_0 - 1))
                          · rw [if_pos c32] at H
                            have c32b0 : decide ((wrap64 (a1_0 - 1)) < (rd l1_1 x39_2)) = true := decide_eq_true c32
                            clear c32
                            obtain rfl := Option.some.inj H
                            have p142004 : 0 ≤ (x39_2 : Int) := of_decide_eq_true (by first | (with_reducible assumption) | assumption)
                            have q142004 : x39_2 < (l1_1.length : Int) := of_decide_eq_true (by first | (with_reducible assumption) | assumption)
                            obtain ⟨ad142004, e142004, hx142004_0⟩ := Kd.at_int HR1_1.out x39_2 p142004 q142004
                            cases e142004
                            replace hx142004_0 := (HB.out.cell (World.block_lt_of_cell? w _ hx142004_0)).trans hx142004_0
                            replace p142004 := eq_true p142004
                            replace q142004 := eq_true q142004
                            have hnb33 := NB142002_142001.out
                            have hnc33 := NB142001_142002.out
                            have hcz34_0 : wr.cell? ⟨gb142002, 0, none⟩ = some (.int .i64 a1_0) := (blk_cell BK142002.out 0).trans rfl
                            have hcz34_1 : wr.cell? ⟨gb142002, 1, none⟩ = some (.slice (some ad142004) l1_1.length c1_1) := (blk_cell BK142002.out 1).trans rfl
                            have hcz34_2 : wr.cell? ⟨gb142002, 2, none⟩ = some (.slice A1_2 l1_2.length c1_2) := (blk_cell BK142002.out 2).trans rfl
                            have hfz34_0 := blk_frozen BK142002.out 0
                            have hfz34_1 := blk_frozen BK142002.out 1
                            have hfz34_2 := blk_frozen BK142002.out 2
                            go_wp2
                            go_ret
                            exact ⟨by first | rfl | (simp [errW_none, errW_some] <;> rfl) | (simp [*, errW_none, errW_some] <;> rfl), by repeat (first | (with_reducible first | exact HB.out | apply below_alloc | apply pw_below_drewN | apply below_drew1 | refine below_set ?_ GE142001.out | refine below_set ?_ GE142002.out) | exact HB.out)⟩
                          · rw [if_neg c32] at H
                            have c32b0 : decide ((wrap64 (a1_0 - 1)) < (rd l1_1 x39_2)) = false := decide_eq_false c32
                            clear c32
                            have H' := Aside0.mk H
                            clear H
                            have p142004 : 0 ≤ (x39_2 : Int) := of_decide_eq_true (by first | (with_reducible assumption) | assumption)
                            have q142004 : x39_2 < (l1_1.length : Int) := of_decide_eq_true (by first | (with_reducible assumption) | assumption)
                            obtain ⟨ad142004, e142004, hx142004_0⟩ := Kd.at_int HR1_1.out x39_2 p142004 q142004
                            cases e142004
                            replace hx142004_0 := (HB.out.cell (World.block_lt_of_cell? w _ hx142004_0)).trans hx142004_0
                            replace p142004 := eq_true p142004
                            replace q142004 := eq_true q142004
                            have hnb35 := NB142002_142001.out
                            have hnc35 := NB142001_142002.out
                            have hcz36_0 : wr.cell? ⟨gb142002, 0, none⟩ = some (.int .i64 a1_0) := (blk_cell BK142002.out 0).trans rfl
                            have hcz36_1 : wr.cell? ⟨gb142002, 1, none⟩ = some (.slice (some ad142004) l1_1.length c1_1) := (blk_cell BK142002.out 1).trans rfl
                            have hcz36_2 : wr.cell? ⟨gb142002, 2, none⟩ = some (.slice A1_2 l1_2.length c1_2) := (blk_cell BK142002.out 2).trans rfl
                            have hfz36_0 := blk_frozen BK142002.out 0
                            have hfz36_1 := blk_frozen BK142002.out 1
                            have hfz36_2 := blk_frozen BK142002.out 2
                            go_wp2
                            go_roundg k2
                            case measure => have := HJ2.out; have := HK2.out; omega
                            case rel => exact ⟨(wrap64 (x39_2 + 1)), (by first | rfl | (simp; done) | (simp [*]; done)), H', ⟨by have := HJ2.out; have := HK2.out; omega⟩, ⟨by (with_reducible repeat (first | refine blk_drewN ?_ _ | refine blk_drew ?_ | refine blk_alloc ?_ _)); exact BK142001.out⟩, ⟨by (with_reducible repeat (first | refine blk_drewN ?_ _ | refine blk_drew ?_ | refine blk_alloc ?_ _)); exact BK142002.out⟩, ⟨by repeat (first | (with_reducible first | exact HB.out | apply below_alloc | apply pw_below_drewN | apply below_drew1 | refine below_set ?_ GE142001.out | refine below_set ?_ GE142002.out) | exact HB.out)⟩⟩
                      · rw [if_neg c30] at H
                        have c30b0 : decide (0 < x39_2) = false := decide_eq_false c30
                        clear c30
                        have H' := Aside0.mk H
                        clear H
                        have p142004 : 0 ≤ (x39_2 : Int) := of_decide_eq_true (by first | (with_reducible assumption) | assumption)
                        have q142004 : x39_2 < (l1_1.length : Int) := of_decide_eq_true (by first | (with_reducible assumption) | assumption)
                        obtain ⟨ad142004, e142004, hx142004_0⟩ := Kd.at_int HR1_1.out x39_2 p142004 q142004
                        cases e142004
                        replace hx142004_0 := (HB.out.cell (World.block_lt_of_cell? w _ hx142004_0)).trans hx142004_0
                        replace p142004 := eq_true p142004
                        replace q142004 := eq_true q142004
                        go_wp2
                        go_roundg k2
                        case measure => have := HJ2.out; have := HK2.out; omega
                        case rel => exact ⟨(wrap64 (x39_2 + 1)), (by first | rfl | (simp; done) | (simp [*]; done)), H', ⟨by have := HJ2.out; have := HK2.out; omega⟩, ⟨by (with_reducible repeat (first | refine blk_drewN ?_ _ | refine blk_drew ?_ | refine blk_alloc ?_ _)); exact BK142001.out⟩, ⟨by (with_reducible repeat (first | refine blk_drewN ?_ _ | refine blk_drew ?_ | refine blk_alloc ?_ _)); exact BK142002.out⟩, ⟨by repeat (first | (with_reducible first | exact HB.out | apply below_alloc | apply pw_below_drewN | apply below_drew1 | refine below_set ?_ GE142001.out | refine below_set ?_ GE142002.out) | exact HB.out)⟩⟩
                    · rw [if_neg c29] at H
                      have c29b0 : ((rd l1_1 x39_2) == 0) = false := beq_eq_false_iff_ne.mpr c29
                      have c29b1 : ((rd l1_1 x39_2) != 0) = true := bne_iff_ne.mpr c29
                      obtain rfl := Option.some.inj H
                      have p142004 : 0 ≤ (x39_2 : Int) := of_decide_eq_true (by first | (with_reducible assumption) | assumption)
                      have q142004 : x39_2 < (l1_1.length : Int) := of_decide_eq_true (by first | (with_reducible assumption) | assumption)
                      obtain ⟨ad142004, e142004, hx142004_0⟩ := Kd.at_int HR1_1.out x39_2 p142004 q142004
                      cases e142004
                      replace hx142004_0 := (HB.out.cell (World.block_lt_of_cell? w _ hx142004_0)).trans hx142004_0
                      replace p142004 := eq_true p142004
                      replace q142004 := eq_true q142004
                      go_wp2
                      go_ret
                      exact ⟨by first | rfl | (simp [errW_none, errW_some] <;> rfl) | (simp [*, errW_none, errW_some] <;> rfl), by repeat (first | (with_reducible first | exact HB.out | apply below_alloc | apply pw_below_drewN | apply below_drew1 | refine below_set ?_ GE142001.out | refine below_set ?_ GE142002.out) | exact HB.out)⟩
                  · rw [if_neg c28] at H
                    have c28b0 : (x39_2 == 0) = false := beq_eq_false_iff_ne.mpr c28
                    have c28b1 : (x39_2 != 0) = true := bne_iff_ne.mpr c28
                    by_cases c37 : x39_2 > 0
                    · rw [if_pos c37] at H
                      have c37b0 : decide (0 < x39_2) = true := decide_eq_true c37
                      clear c37
                      by_cases c38 : (rd l1_1 x39_2) < (-1)
                      · rw [if_pos c38] at H
                        have c38b0 : decide ((rd l1_1 x39_2) < (-1)) = true := decide_eq_true c38
                        clear c38
                        obtain rfl := Option.some.inj H
                        have p142004 : 0 ≤ (x39_2 : Int) := of_decide_eq_true (by first | (with_reducible assumption) | assumption)
                        have q142004 : x39_2 < (l1_1.length : Int) := of_decide_eq_true (by first | (with_reducible assumption) | assumption)
                        obtain ⟨ad142004, e142004, hx142004_0⟩ := Kd.at_int HR1_1.out x39_2 p142004 q142004
                        cases e142004
                        replace hx142004_0 := (HB.out.cell (World.block_lt_of_cell? w _ hx142004_0)).trans hx142004_0
                        replace p142004 := eq_true p142004
                        replace q142004 := eq_true q142004
                        go_wp2
                        go_ret
                        exact ⟨by first | rfl | (simp [errW_none, errW_some] <;> rfl) | (simp [*, errW_none, errW_some] <;> rfl), by repeat (first | (with_reducible first | exact HB.out | apply below_alloc | apply pw_below_drewN | apply below_drew1 | refine below_set ?_ GE142001.out | refine below_set ?_ GE142002.out) | exact HB.out)⟩
                      · rw [if_neg c38] at H
                        have c38b0 : decide ((rd l1_1 x39_2) < (-1)) = false := decide_eq_false c38
                        clear c38
                        by_cases c39 : (rd l1_1 x39_2) > (wrap64 (a1_0 - 1))
                        · rw [if_pos c39] at H
                          have c39b0 : decide ((wrap64 (a1_0 - 1)) < (rd l1_1 x39_2)) = true := decide_eq_true c39
                          clear c39
                          obtain rfl := Option.some.inj H
                          have p142004 : 0 ≤ (x39_2 : Int) := of_decide_eq_true (by first | (with_reducible assumption) | assumption)
                          have q142004 : x39_2 < (l1_1.length : Int) := of_decide_eq_true (by first | (with_reducible assumption) | assumption)
                          obtain ⟨ad142004, e142004, hx142004_0⟩ := Kd.at_int HR1_1.out x39_2 p142004 q142004
                          cases e142004
                          replace hx142004_0 := (HB.out.cell (World.block_lt_of_cell? w _ hx142004_0)).trans hx142004_0
                          replace p142004 := eq_true p142004
                          replace q142004 := eq_true q142004
                          have hnb40 := NB142002_142001.out
                          have hnc40 := NB142001_142002.out
                          have hcz41_0 : wr.cell? ⟨gb142002, 0, none⟩ = some (.int .i64 a1_0) := (blk_cell BK142002.out 0).trans rfl
                          have hcz41_1 : wr.cell? ⟨gb142002, 1, none⟩ = some (.slice (some ad142004) l1_1.length c1_1) := (blk_cell BK142002.out 1).trans rfl
                          have hcz41_2 : wr.cell? ⟨gb142002, 2, none⟩ = some (.slice A1_2 l1_2.length c1_2) := (blk_cell BK142002.out 2).trans rfl
                          have hfz41_0 := blk_frozen BK142002.out 0
                          have hfz41_1 := blk_frozen BK142002.out 1
                          have hfz41_2 := blk_frozen BK142002.out 2
                          go_wp2
                          go_ret
                          exact ⟨by first | rfl | (simp [errW_none, errW_some] <;> rfl) | (simp [*, errW_none, errW_some] <;> rfl), by repeat (first | (with_reducible first | exact HB.out | apply below_alloc | apply pw_below_drewN | apply below_drew1 | refine below_set ?_ GE142001.out | refine below_set ?_ GE142002.out) | exact HB.out)⟩
                        · rw [if_neg c39] at H
                          have c39b0 : decide ((wrap64 (a1_0 - 1)) < (rd l1_1 x39_2)) = false := decide_eq_false c39
                          clear c39
                          have H' := Aside0.mk H
                          clear H
                          have p142004 : 0 ≤ (x39_2 : Int) := of_decide_eq_true (by first | (with_reducible assumption) | assumption)
                          have q142004 : x39_2 < (l1_1.length : Int) := of_decide_eq_true (by first | (with_reducible assumption) | assumption)
                          obtain ⟨ad142004, e142004, hx142004_0⟩ := Kd.at_int HR1_1.out x39_2 p142004 q142004
                          cases e142004
                          replace hx142004_0 := (HB.out.cell (World.block_lt_of_cell? w _ hx142004_0)).trans hx142004_0
                          replace p142004 := eq_true p142004
                          replace q142004 := eq_true q142004
                          have hnb42 := NB142002_142001.out
                          have hnc42 := NB142001_142002.out
                          have hcz43_0 : wr.cell? ⟨gb142002, 0, none⟩ = some (.int .i64 a1_0) := (blk_cell BK142002.out 0).trans rfl
                          have hcz43_1 : wr.cell? ⟨gb142002, 1, none⟩ = some (.slice (some ad142004) l1_1.length c1_1) := (blk_cell BK142002.out 1).trans rfl
                          have hcz43_2 : wr.cell? ⟨gb142002, 2, none⟩ = some (.slice A1_2 l1_2.length c1_2) := (blk_cell BK142002.out 2).trans rfl
                          have hfz43_0 := blk_frozen BK142002.out 0
                          have hfz43_1 := blk_frozen BK142002.out 1
                          have hfz43_2 := blk_frozen BK142002.out 2
                          go_wp2
                          go_roundg k2
                          case measure => have := HJ2.out; have := HK2.out; omega
                          case rel => exact ⟨(wrap64 (x39_2 + 1)), (by first | rfl | (simp; done) | (simp [*]; done)), H', ⟨by have := HJ2.out; have := HK2.out; omega⟩, ⟨by (with_reducible repeat (first | refine blk_drewN ?_ _ | refine blk_drew ?_ | refine blk_alloc ?_ _)); exact BK142001.out⟩, ⟨by (with_reducible repeat (first | refine blk_drewN ?_ _ | refine blk_drew ?_ | refine blk_alloc ?_ _)); exact BK142002.out⟩, ⟨by repeat (first | (with_reducible first | exact HB.out | apply below_alloc | apply pw_below_drewN | apply below_drew1 | refine below_set ?_ GE142001.out | refine below_set ?_ GE142002.out) | exact HB.out)⟩⟩
                    · rw [if_neg c37] at H
                      have c37b0 : decide (0 < x39_2) = false := decide_eq_false c37
                      clear c37
                      have H' := Aside0.mk H
                      clear H
                      have p142004 : 0 ≤ (x39_2 : Int) := of_decide_eq_true (by first | (with_reducible assumption) | assumption)
                      have q142004 : x39_2 < (l1_1.length : Int) := of_decide_eq_true (by first | (with_reducible assumption) | assumption)
                      obtain ⟨ad142004, e142004, hx142004_0⟩ := Kd.at_int HR1_1.out x39_2 p142004 q142004
                      cases e142004
                      replace hx142004_0 := (HB.out.cell (World.block_lt_of_cell? w _ hx142004_0)).trans hx142004_0
                      replace p142004 := eq_true p142004
                      replace q142004 := eq_true q142004
                      go_wp2
                      go_roundg k2
                      case measure => have := HJ2.out; have := HK2.out; omega
                      case rel => exact ⟨(wrap64 (x39_2 + 1)), (by first | rfl | (simp; done) | (simp [*]; done)), H', ⟨by have := HJ2.out; have := HK2.out; omega⟩, ⟨by (with_reducible repeat (first | refine blk_drewN ?_ _ | refine blk_drew ?_ | refine blk_alloc ?_ _)); exact BK142001.out⟩, ⟨by (with_reducible repeat (first | refine blk_drewN ?_ _ | refine blk_drew ?_ | refine blk_alloc ?_ _)); exact BK142002.out⟩, ⟨by repeat (first | (with_reducible first | exact HB.out | apply below_alloc | apply pw_below_drewN | apply below_drew1 | refine below_set ?_ GE142001.out | refine below_set ?_ GE142002.out) | exact HB.out)⟩⟩
                · rw [if_neg c27] at H
                  exact absurd H (by simp)
              · rw [if_neg c26] at H
                exact absurd H (by simp)
            · rw [if_neg c25] at H
              have c25b0 : decide (x39_2 < (l1_1.length : Int)) = false := decide_eq_false c25
              clear c25
              have H' := Aside0.mk H
              clear H
              have hnb44 := NB142002_142001.out
              have hnc44 := NB142001_142002.out
              have hcz45_0 : wr.cell? ⟨gb142002, 0, none⟩ = some (.int .i64 a1_0) := (blk_cell BK142002.out 0).trans rfl
              have hcz45_1 : wr.cell? ⟨gb142002, 1, none⟩ = some (.slice A1_1 l1_1.length c1_1) := (blk_cell BK142002.out 1).trans rfl
              have hcz45_2 : wr.cell? ⟨gb142002, 2, none⟩ = some (.slice A1_2 l1_2.length c1_2) := (blk_cell BK142002.out 2).trans rfl
              have hfz45_0 := blk_frozen BK142002.out 0
              have hfz45_1 := blk_frozen BK142002.out 1
              have hfz45_2 := blk_frozen BK142002.out 2
              go_wp2
              go_loopg [69] k2 (fun kq v69 w' => ∃ (x69_3 : Int), v69 = .int .i64 x69_3 ∧ Aside0 (impl_isState.l1 kq l1_2 (l1_2.length : Int) x69_3 l0_0 l0_1 a0_2 a1_0 l1_1 l1_2 = some r) ∧ Aside0 (kq ≤ k2) ∧ Aside0 (w'.heap[gb142001]? = some (.cells #[(.slice A0_0 l0_0.length c0_0), (.slice A0_1 l0_1.length c0_1), .int .i64 a0_2] 35 (0, 0))) ∧ Aside0 (w'.heap[gb142002]? = some (.cells #[.int .i64 a1_0, (.slice A1_1 l1_1.length c1_1), (.slice A1_2 l1_2.length c1_2)] 66 (0, 0))) ∧ Aside0 (Below w.heap.size w w'))
              case atStart => exact ⟨(0), (by first | rfl | (simp; done) | (simp [*]; done)), H', ⟨Nat.le_refl _⟩, ⟨by (with_reducible repeat (first | refine blk_drewN ?_ _ | refine blk_drew ?_ | refine blk_alloc ?_ _)); exact BK142001.out⟩, ⟨by (with_reducible repeat (first | refine blk_drewN ?_ _ | refine blk_drew ?_ | refine blk_alloc ?_ _)); exact BK142002.out⟩, ⟨by repeat (first | (with_reducible first | exact HB.out | apply below_alloc | apply pw_below_drewN | apply below_drew1 | refine below_set ?_ GE142001.out | refine below_set ?_ GE142002.out) | exact HB.out)⟩⟩
              case round =>
                clear H'
                try clear c1
                try clear p1
                try clear q1
                try clear hx1
                try clear c2
                try clear p2
                try clear c3
                try clear c4
                try clear c6
                try clear c6b0
                try clear p6
                try clear c7
                try clear c9
                try clear c9b0
                try clear c10
                try clear c13
                try clear c13b0
                try clear c13b1
                try clear c13b2
                try clear c14
                try clear p14
                try clear q14
                try clear hx14
                try clear c15
                try clear c19
                try clear c22
                try clear c23
                try clear c25
                try clear c25b0
                try clear c26
                try clear c26b0
                try clear c27
                try clear c27b0
                try clear c28
                try clear c28b0
                try clear c28b1
                try clear c29
                try clear c29b0
                try clear c29b1
                try clear c30
                try clear c30b0
                try clear c31
                try clear c31b0
                try clear c32
                try clear c32b0
                try clear c33
                try clear c35
                try clear c37
                try clear c37b0
                try clear c38
                try clear c38b0
                try clear c39
                try clear c39b0
                try clear c40
                try clear c42
                try clear c44
                try clear hcz11_0
                try clear hcz11_1
                try clear hcz11_2
                try clear hcz12_0
                try clear hcz12_1
                try clear hcz12_2
                try clear hcz16_0
                try clear hcz16_1
                try clear hcz16_2
                try clear hcz17_0
                try clear hcz17_1
                try clear hcz17_2
                try clear hcz20_0
                try clear hcz20_1
                try clear hcz20_2
                try clear hcz21_0
                try clear hcz21_1
                try clear hcz21_2
                try clear hcz24_0
                try clear hcz24_1
                try clear hcz24_2
                try clear hcz34_0
                try clear hcz34_1
                try clear hcz34_2
                try clear hcz36_0
                try clear hcz36_1
                try clear hcz36_2
                try clear hcz41_0
                try clear hcz41_1
                try clear hcz41_2
                try clear hcz43_0
                try clear hcz43_1
                try clear hcz43_2
                try clear hcz45_0
                try clear hcz45_1
                try clear hcz45_2
                try clear hcz8_0
                try clear hcz8_1
                try clear hcz8_2
                try clear hfz11_0
                try clear hfz11_1
                try clear hfz11_2
                try clear hfz12_0
                try clear hfz12_1
                try clear hfz12_2
                try clear hfz16_0
                try clear hfz16_1
                try clear hfz16_2
                try clear hfz17_0
                try clear hfz17_1
                try clear hfz17_2
                try clear hfz20_0
                try clear hfz20_1
                try clear hfz20_2
                try clear hfz21_0
                try clear hfz21_1
                try clear hfz21_2
                try clear hfz24_0
                try clear hfz24_1
                try clear hfz24_2
                try clear hfz34_0
                try clear hfz34_1
                try clear hfz34_2
                try clear hfz36_0
                try clear hfz36_1
                try clear hfz36_2
                try clear hfz41_0
                try clear hfz41_1
                try clear hfz41_2
                try clear hfz43_0
                try clear hfz43_1
                try clear hfz43_2
                try clear hfz45_0
                try clear hfz45_1
                try clear hfz45_2
                try clear hfz8_0
                try clear hfz8_1
                try clear hfz8_2
                try clear hx142004_0
                try clear p142004
                try clear p2
                try clear p6
                try clear q142004
                obtain ⟨x69_3, rfl, HA, HK3, BK142001, BK142002, HB⟩ := hrel
                cases gk with
                | zero => exact absurd HA.out (by simp [impl_isState.l1])
                | succ k3 =>
                  have H := HA.out
                  clear HA
                  simp only [impl_isState.l1] at H
                  by_cases c46 : x69_3 < (l1_2.length : Int)
                  · rw [if_pos c46] at H
                    have c46b0 : decide (x69_3 < (l1_2.length : Int)) = true := decide_eq_true c46
                    clear c46
                    by_cases c47 : 0 ≤ x69_3
                    · rw [if_pos c47] at H
                      have c47b0 : decide (0 ≤ x69_3) = true := decide_eq_true c47
                      clear c47
                      by_cases c48 : x69_3 < (l1_2.length : Int)
                      · rw [if_pos c48] at H
                        have c48b0 : decide (x69_3 < (l1_2.length : Int)) = true := decide_eq_true c48
                        clear c48
                        replace H := Option.bind_eq_some_iff.mp H
                        obtain ⟨t142006, A490, H⟩ := H
                        replace H : (if t142006 ≥ 0 then (if 0 ≤ t142006 then (if t142006 < (l1_1.length : Int) then (if (((rd l1_2 x69_3) != 0) != ((rd l1_1 t142006) != (-1))) = true then (some false) else (impl_isState.l1 k3 l1_2 (l1_2.length : Int) (wrap64 (x69_3 + 1)) l0_0 l0_1 a0_2 a1_0 l1_1 l1_2)) else (none)) else (none)) else (if (((rd l1_2 x69_3) != 0) != false) = true then (some false) else (impl_isState.l1 k3 l1_2 (l1_2.length : Int) (wrap64 (x69_3 + 1)) l0_0 l0_1 a0_2 a1_0 l1_1 l1_2))) = some r := H
                        have A49 := Aside0.mk A490
                        clear A490
                        by_cases c50 : t142006 ≥ 0
                        · rw [if_pos c50] at H
                          have c50b0 : decide (0 ≤ t142006) = true := decide_eq_true c50
                          clear c50
                          by_cases c51 : 0 ≤ t142006
                          · rw [if_pos c51] at H
                            have c51b0 : decide (0 ≤ t142006) = true := decide_eq_true c51
                            clear c51
                            by_cases c52 : t142006 < (l1_1.length : Int)
                            · rw [if_pos c52] at H
                              have c52b0 : decide (t142006 < (l1_1.length : Int)) = true := decide_eq_true c52
                              clear c52
                              by_cases c53 : (((rd l1_2 x69_3) != 0) != ((rd l1_1 t142006) != (-1))) = true
                              · rw [if_pos c53] at H
                                have c53b0 : (((rd l1_2 x69_3) != 0) != ((rd l1_1 t142006) != (-1))) = true := c53
                                (try (have c53b1 : decide (((rd l1_2 x69_3) != 0) = ((rd l1_1 t142006) != (-1))) = false := by simpa using c53))
                                (try (have c53b2 : (((rd l1_2 x69_3) != 0) == ((rd l1_1 t142006) != (-1))) = false := by simpa using c53))
                                (try (have c53b3 : ¬ (((rd l1_2 x69_3) != 0) = ((rd l1_1 t142006) != (-1))) := by simpa using c53))
                                clear c53
                                obtain rfl := Option.some.inj H
                                have p142005 : 0 ≤ (x69_3 : Int) := of_decide_eq_true (by first | (with_reducible assumption) | assumption)
                                have q142005 : x69_3 < (l1_2.length : Int) := of_decide_eq_true (by first | (with_reducible assumption) | assumption)
                                obtain ⟨ad142005, e142005, hx142005_0⟩ := Kd.at_int HR1_2.out x69_3 p142005 q142005
                                cases e142005
                                replace hx142005_0 := (HB.out.cell (World.block_lt_of_cell? w _ hx142005_0)).trans hx142005_0
                                replace p142005 := eq_true p142005
                                replace q142005 := eq_true q142005
                                have hnb54 := NB142001_142002.out
                                have hnc54 := NB142002_142001.out
                                have hcz55_0 : wr.cell? ⟨gb142001, 0, none⟩ = some (.slice A0_0 l0_0.length c0_0) := (blk_cell BK142001.out 0).trans rfl
                                have hcz55_1 : wr.cell? ⟨gb142001, 1, none⟩ = some (.slice A0_1 l0_1.length c0_1) := (blk_cell BK142001.out 1).trans rfl
                                have hcz55_2 : wr.cell? ⟨gb142001, 2, none⟩ = some (.int .i64 a0_2) := (blk_cell BK142001.out 2).trans rfl
                                have hfz55_0 := blk_frozen BK142001.out 0
                                have hfz55_1 := blk_frozen BK142001.out 1
                                have hfz55_2 := blk_frozen BK142001.out 2
                                go_wp2_with (first | ((with_reducible refine gate_callee (f := 126) rfl ?_); refine goesL_ (some 77) rfl rfl Try.func126 (by kernel_rfl) rfl #[.agg #[.slice A0_0 l0_0.length c0_0, .slice A0_1 l0_1.length c0_1, .int .i64 a0_2], .int .i64 (wrap64 (x69_3 + 1))] rfl (by (try simp only [List.map_toArray, List.map_cons, List.map_nil]); first | done | rfl | (simp only [List.length_drop, List.length_take]; rfl)) ?_; (with_reducible refine (impl_watcher.calls _ _ l0_0 _ _ l0_1 a0_2 (wrap64 (x69_3 + 1)) t142006 _ ?side1 ?side2 ?side3 ?side4 A49.out).mono ?_); (case side1 => repeat (first | exact (Kd.C_below HR0_0.out HB.out) | (with_reducible refine Kd.C_alloc ?_ _) | (with_reducible refine Kd.C_drewN ?_ _) | (with_reducible refine Kd.C_drew ?_))); (case side2 => exact HC0_0.out); (case side3 => repeat (first | exact (Kd.C_below HR0_1.out HB.out) | (with_reducible refine Kd.C_alloc ?_ _) | (with_reducible refine Kd.C_drewN ?_ _) | (with_reducible refine Kd.C_drew ?_))); (case side4 => exact HC0_1.out); rintro e w56 ⟨rfl, hb⟩; refine ⟨_, rfl, ?_⟩; have n0_ := Aside0.mk (blk_below (g := gb142001) (o := .cells #[.slice A0_0 l0_0.length c0_0, .slice A0_1 l0_1.length c0_1, .int .i64 a0_2] 35 (0, 0)) (by (with_reducible repeat (first | refine blk_drewN ?_ _ | refine blk_drew ?_ | refine blk_alloc ?_ _)); exact BK142001.out) hb); have n1_ := Aside0.mk (blk_below (g := gb142002) (o := .cells #[.int .i64 a1_0, .slice A1_1 l1_1.length c1_1, .slice (some ad142005) l1_2.length c1_2] 66 (0, 0)) (by (with_reducible repeat (first | refine blk_drewN ?_ _ | refine blk_drew ?_ | refine blk_alloc ?_ _)); exact BK142002.out) hb); have n2_ := Aside0.mk (below_step (by repeat (first | (with_reducible first | exact HB.out | apply below_alloc | apply pw_below_drewN | apply below_drew1 | refine below_set ?_ GE142001.out | refine below_set ?_ GE142002.out) | exact HB.out)) hb); clear BK142001; clear BK142002; clear HB; have BK142001 := n0_; have BK142002 := n1_; have HB := n2_; clear n0_ n1_ n2_; (try clear hb); (try clear hb2); (try clear hk); (try clear hi); have hcz57_0 : w56.cell? ⟨gb142002, 0, none⟩ = some (.int .i64 a1_0) := (blk_cell BK142002.out 0).trans rfl; have hcz57_1 : w56.cell? ⟨gb142002, 1, none⟩ = some (.slice A1_1 l1_1.length c1_1) := (blk_cell BK142002.out 1).trans rfl; have hcz57_2 : w56.cell? ⟨gb142002, 2, none⟩ = some (.slice (some ad142005) l1_2.length c1_2) := (blk_cell BK142002.out 2).trans rfl; have hfz57_0 := blk_frozen BK142002.out 0; have hfz57_1 := blk_frozen BK142002.out 1; have hfz57_2 := blk_frozen BK142002.out 2; have p142007 : 0 ≤ (t142006 : Int) := of_decide_eq_true (by first | (with_reducible assumption) | assumption); have q142007 : t142006 < (l1_1.length : Int) := of_decide_eq_true (by first | (with_reducible assumption) | assumption); obtain ⟨ad142007, e142007, hx142007_0⟩ := Kd.at_int HR1_1.out t142006 p142007 q142007; cases e142007; replace hx142007_0 := (HB.out.cell (World.block_lt_of_cell? w _ hx142007_0)).trans hx142007_0; replace p142007 := eq_true p142007; replace q142007 := eq_true q142007))
                                go_ret
                                exact ⟨by first | rfl | (simp [errW_none, errW_some] <;> rfl) | (simp [*, errW_none, errW_some] <;> rfl), by repeat (first | (with_reducible first | exact HB.out | apply below_alloc | apply pw_below_drewN | apply below_drew1 | refine below_set ?_ GE142001.out | refine below_set ?_ GE142002.out) | exact HB.out)⟩
                              · rw [if_neg c53] at H
                                have c53b0 : (((rd l1_2 x69_3) != 0) != ((rd l1_1 t142006) != (-1))) = false := by simpa using c53
                                (try (have c53b1 : decide (((rd l1_2 x69_3) != 0) = ((rd l1_1 t142006) != (-1))) = true := by simpa using c53))
                                (try (have c53b2 : (((rd l1_2 x69_3) != 0) == ((rd l1_1 t142006) != (-1))) = true := by simpa using c53))
                                clear c53
                                have H' := Aside0.mk H
                                clear H
                                have p142005 : 0 ≤ (x69_3 : Int) := of_decide_eq_true (by first | (with_reducible assumption) | assumption)
                                have q142005 : x69_3 < (l1_2.length : Int) := of_decide_eq_true (by first | (with_reducible assumption) | assumption)
                                obtain ⟨ad142005, e142005, hx142005_0⟩ := Kd.at_int HR1_2.out x69_3 p142005 q142005
                                cases e142005
                                replace hx142005_0 := (HB.out.cell (World.block_lt_of_cell? w _ hx142005_0)).trans hx142005_0
                                replace p142005 := eq_true p142005
                                replace q142005 := eq_true q142005
                                have hnb58 := NB142001_142002.out
                                have hnc58 := NB142002_142001.out
                                have hcz59_0 : wr.cell? ⟨gb142001, 0, none⟩ = some (.slice A0_0 l0_0.length c0_0) := (blk_cell BK142001.out 0).trans rfl
                                have hcz59_1 : wr.cell? ⟨gb142001, 1, none⟩ = some (.slice A0_1 l0_1.length c0_1) := (blk_cell BK142001.out 1).trans rfl
                                have hcz59_2 : wr.cell? ⟨gb142001, 2, none⟩ = some (.int .i64 a0_2) := (blk_cell BK142001.out 2).trans rfl
                                have hfz59_0 := blk_frozen BK142001.out 0
                                have hfz59_1 := blk_frozen BK142001.out 1
                                have hfz59_2 := blk_frozen BK142001.out 2
                                go_wp2_with (first | ((with_reducible refine gate_callee (f := 126) rfl ?_); refine goesL_ (some 77) rfl rfl Try.func126 (by kernel_rfl) rfl #[.agg #[.slice A0_0 l0_0.length c0_0, .slice A0_1 l0_1.length c0_1, .int .i64 a0_2], .int .i64 (wrap64 (x69_3 + 1))] rfl (by (try simp only [List.map_toArray, List.map_cons, List.map_nil]); first | done | rfl | (simp only [List.length_drop, List.length_take]; rfl)) ?_; (with_reducible refine (impl_watcher.calls _ _ l0_0 _ _ l0_1 a0_2 (wrap64 (x69_3 + 1)) t142006 _ ?side1 ?side2 ?side3 ?side4 A49.out).mono ?_); (case side1 => repeat (first | exact (Kd.C_below HR0_0.out HB.out) | (with_reducible refine Kd.C_alloc ?_ _) | (with_reducible refine Kd.C_drewN ?_ _) | (with_reducible refine Kd.C_drew ?_))); (case side2 => exact HC0_0.out); (case side3 => repeat (first | exact (Kd.C_below HR0_1.out HB.out) | (with_reducible refine Kd.C_alloc ?_ _) | (with_reducible refine Kd.C_drewN ?_ _) | (with_reducible refine Kd.C_drew ?_))); (case side4 => exact HC0_1.out); rintro e w60 ⟨rfl, hb⟩; refine ⟨_, rfl, ?_⟩; have n0_ := Aside0.mk (blk_below (g := gb142001) (o := .cells #[.slice A0_0 l0_0.length c0_0, .slice A0_1 l0_1.length c0_1, .int .i64 a0_2] 35 (0, 0)) (by (with_reducible repeat (first | refine blk_drewN ?_ _ | refine blk_drew ?_ | refine blk_alloc ?_ _)); exact BK142001.out) hb); have n1_ := Aside0.mk (blk_below (g := gb142002) (o := .cells #[.int .i64 a1_0, .slice A1_1 l1_1.length c1_1, .slice (some ad142005) l1_2.length c1_2] 66 (0, 0)) (by (with_reducible repeat (first | refine blk_drewN ?_ _ | refine blk_drew ?_ | refine blk_alloc ?_ _)); exact BK142002.out) hb); have n2_ := Aside0.mk (below_step (by repeat (first | (with_reducible first | exact HB.out | apply below_alloc | apply pw_below_drewN | apply below_drew1 | refine below_set ?_ GE142001.out | refine below_set ?_ GE142002.out) | exact HB.out)) hb); clear BK142001; clear BK142002; clear HB; have BK142001 := n0_; have BK142002 := n1_; have HB := n2_; clear n0_ n1_ n2_; (try clear hb); (try clear hb2); (try clear hk); (try clear hi); have hcz61_0 : w60.cell? ⟨gb142002, 0, none⟩ = some (.int .i64 a1_0) := (blk_cell BK142002.out 0).trans rfl; have hcz61_1 : w60.cell? ⟨gb142002, 1, none⟩ = some (.slice A1_1 l1_1.length c1_1) := (blk_cell BK142002.out 1).trans rfl; have hcz61_2 : w60.cell? ⟨gb142002, 2, none⟩ = some (.slice (some ad142005) l1_2.length c1_2) := (blk_cell BK142002.out 2).trans rfl; have hfz61_0 := blk_frozen BK142002.out 0; have hfz61_1 := blk_frozen BK142002.out 1; have hfz61_2 := blk_frozen BK142002.out 2; have p142007 : 0 ≤ (t142006 : Int) := of_decide_eq_true (by first | (with_reducible assumption) | assumption); have q142007 : t142006 < (l1_1.length : Int) := of_decide_eq_true (by first | (with_reducible assumption) | assumption); obtain ⟨ad142007, e142007, hx142007_0⟩ := Kd.at_int HR1_1.out t142006 p142007 q142007; cases e142007; replace hx142007_0 := (HB.out.cell (World.block_lt_of_cell? w _ hx142007_0)).trans hx142007_0; replace p142007 := eq_true p142007; replace q142007 := eq_true q142007))
                                go_roundg k3
                                case measure => have := HJ2.out; have := HK2.out; have := HK3.out; omega
                                case rel => exact ⟨(wrap64 (x69_3 + 1)), (by first | rfl | (simp; done) | (simp [*]; done)), H', ⟨by have := HJ2.out; have := HK2.out; have := HK3.out; omega⟩, ⟨by (with_reducible repeat (first | refine blk_drewN ?_ _ | refine blk_drew ?_ | refine blk_alloc ?_ _)); exact BK142001.out⟩, ⟨by (with_reducible repeat (first | refine blk_drewN ?_ _ | refine blk_drew ?_ | refine blk_alloc ?_ _)); exact BK142002.out⟩, ⟨by repeat (first | (with_reducible first | exact HB.out | apply below_alloc | apply pw_below_drewN | apply below_drew1 | refine below_set ?_ GE142001.out | refine below_set ?_ GE142002.out) | exact HB.out)⟩⟩
                            · rw [if_neg c52] at H
                              exact absurd H (by simp)
                          · rw [if_neg c51] at H
                            exact absurd H (by simp)
                        · rw [if_neg c50] at H
                          have c50b0 : decide (0 ≤ t142006) = false := decide_eq_false c50
                          clear c50
                          by_cases c62 : (((rd l1_2 x69_3) != 0) != false) = true
                          · rw [if_pos c62] at H
                            have c62b0 : (((rd l1_2 x69_3) != 0) != false) = true := c62
                            (try (have c62b1 : decide (((rd l1_2 x69_3) != 0) = false) = false := by simpa using c62))
                            (try (have c62b2 : (((rd l1_2 x69_3) != 0) == false) = false := by simpa using c62))
                            (try (have c62b3 : ¬ (((rd l1_2 x69_3) != 0) = false) := by simpa using c62))
                            clear c62
                            obtain rfl := Option.some.inj H
                            have p142005 : 0 ≤ (x69_3 : Int) := of_decide_eq_true (by first | (with_reducible assumption) | assumption)
                            have q142005 : x69_3 < (l1_2.length : Int) := of_decide_eq_true (by first | (with_reducible assumption) | assumption)
                            obtain ⟨ad142005, e142005, hx142005_0⟩ := Kd.at_int HR1_2.out x69_3 p142005 q142005
                            cases e142005
                            replace hx142005_0 := (HB.out.cell (World.block_lt_of_cell? w _ hx142005_0)).trans hx142005_0
                            replace p142005 := eq_true p142005
                            replace q142005 := eq_true q142005
                            have hnb63 := NB142001_142002.out
                            have hnc63 := NB142002_142001.out
                            have hcz64_0 : wr.cell? ⟨gb142001, 0, none⟩ = some (.slice A0_0 l0_0.length c0_0) := (blk_cell BK142001.out 0).trans rfl
                            have hcz64_1 : wr.cell? ⟨gb142001, 1, none⟩ = some (.slice A0_1 l0_1.length c0_1) := (blk_cell BK142001.out 1).trans rfl
                            have hcz64_2 : wr.cell? ⟨gb142001, 2, none⟩ = some (.int .i64 a0_2) := (blk_cell BK142001.out 2).trans rfl
                            have hfz64_0 := blk_frozen BK142001.out 0
                            have hfz64_1 := blk_frozen BK142001.out 1
                            have hfz64_2 := blk_frozen BK142001.out 2
                            go_wp2_with (first | ((with_reducible refine gate_callee (f := 126) rfl ?_); refine goesL_ (some 77) rfl rfl Try.func126 (by kernel_rfl) rfl #[.agg #[.slice A0_0 l0_0.length c0_0, .slice A0_1 l0_1.length c0_1, .int .i64 a0_2], .int .i64 (wrap64 (x69_3 + 1))] rfl (by (try simp only [List.map_toArray, List.map_cons, List.map_nil]); first | done | rfl | (simp only [List.length_drop, List.length_take]; rfl)) ?_; (with_reducible refine (impl_watcher.calls _ _ l0_0 _ _ l0_1 a0_2 (wrap64 (x69_3 + 1)) t142006 _ ?side1 ?side2 ?side3 ?side4 A49.out).mono ?_); (case side1 => repeat (first | exact (Kd.C_below HR0_0.out HB.out) | (with_reducible refine Kd.C_alloc ?_ _) | (with_reducible refine Kd.C_drewN ?_ _) | (with_reducible refine Kd.C_drew ?_))); (case side2 => exact HC0_0.out); (case side3 => repeat (first | exact (Kd.C_below HR0_1.out HB.out) | (with_reducible refine Kd.C_alloc ?_ _) | (with_reducible refine Kd.C_drewN ?_ _) | (with_reducible refine Kd.C_drew ?_))); (case side4 => exact HC0_1.out); rintro e w65 ⟨rfl, hb⟩; refine ⟨_, rfl, ?_⟩; have n0_ := Aside0.mk (blk_below (g := gb142001) (o := .cells #[.slice A0_0 l0_0.length c0_0, .slice A0_1 l0_1.length c0_1, .int .i64 a0_2] 35 (0, 0)) (by (with_reducible repeat (first | refine blk_drewN ?_ _ | refine blk_drew ?_ | refine blk_alloc ?_ _)); exact BK142001.out) hb); have n1_ := Aside0.mk (blk_below (g := gb142002) (o := .cells #[.int .i64 a1_0, .slice A1_1 l1_1.length c1_1, .slice (some ad142005) l1_2.length c1_2] 66 (0, 0)) (by (with_reducible repeat (first | refine blk_drewN ?_ _ | refine blk_drew ?_ | refine blk_alloc ?_ _)); exact BK142002.out) hb); have n2_ := Aside0.mk (below_step (by repeat (first | (with_reducible first | exact HB.out | apply below_alloc | apply pw_below_drewN | apply below_drew1 | refine below_set ?_ GE142001.out | refine below_set ?_ GE142002.out) | exact HB.out)) hb); clear BK142001; clear BK142002; clear HB; have BK142001 := n0_; have BK142002 := n1_; have HB := n2_; clear n0_ n1_ n2_; (try clear hb); (try clear hb2); (try clear hk); (try clear hi)))
                            go_ret
                            exact ⟨by first | rfl | (simp [errW_none, errW_some] <;> rfl) | (simp [*, errW_none, errW_some] <;> rfl), by repeat (first | (with_reducible first | exact HB.out | apply below_alloc | apply pw_below_drewN | apply below_drew1 | refine below_set ?_ GE142001.out | refine below_set ?_ GE142002.out) | exact HB.out)⟩
                          · rw [if_neg c62] at H
                            have c62b0 : (((rd l1_2 x69_3) != 0) != false) = false := by simpa using c62
                            (try (have c62b1 : decide (((rd l1_2 x69_3) != 0) = false) = true := by simpa using c62))
                            (try (have c62b2 : (((rd l1_2 x69_3) != 0) == false) = true := by simpa using c62))
                            clear c62
                            have H' := Aside0.mk H
                            clear H
                            have p142005 : 0 ≤ (x69_3 : Int) := of_decide_eq_true (by first | (with_reducible assumption) | assumption)
                            have q142005 : x69_3 < (l1_2.length : Int) := of_decide_eq_true (by first | (with_reducible assumption) | assumption)
                            obtain ⟨ad142005, e142005, hx142005_0⟩ := Kd.at_int HR1_2.out x69_3 p142005 q142005
                            cases e142005
                            replace hx142005_0 := (HB.out.cell (World.block_lt_of_cell? w _ hx142005_0)).trans hx142005_0
                            replace p142005 := eq_true p142005
                            replace q142005 := eq_true q142005
                            have hnb66 := NB142001_142002.out
                            have hnc66 := NB142002_142001.out
                            have hcz67_0 : wr.cell? ⟨gb142001, 0, none⟩ = some (.slice A0_0 l0_0.length c0_0) := (blk_cell BK142001.out 0).trans rfl
                            have hcz67_1 : wr.cell? ⟨gb142001, 1, none⟩ = some (.slice A0_1 l0_1.length c0_1) := (blk_cell BK142001.out 1).trans rfl
                            have hcz67_2 : wr.cell? ⟨gb142001, 2, none⟩ = some (.int .i64 a0_2) := (blk_cell BK142001.out 2).trans rfl
                            have hfz67_0 := blk_frozen BK142001.out 0
                            have hfz67_1 := blk_frozen BK142001.out 1
                            have hfz67_2 := blk_frozen BK142001.out 2
                            go_wp2_with (first | ((with_reducible refine gate_callee (f := 126) rfl ?_); refine goesL_ (some 77) rfl rfl Try.func126 (by kernel_rfl) rfl #[.agg #[.slice A0_0 l0_0.length c0_0, .slice A0_1 l0_1.length c0_1, .int .i64 a0_2], .int .i64 (wrap64 (x69_3 + 1))] rfl (by (try simp only [List.map_toArray, List.map_cons, List.map_nil]); first | done | rfl | (simp only [List.length_drop, List.length_take]; rfl)) ?_; (with_reducible refine (impl_watcher.calls _ _ l0_0 _ _ l0_1 a0_2 (wrap64 (x69_3 + 1)) t142006 _ ?side1 ?side2 ?side3 ?side4 A49.out).mono ?_); (case side1 => repeat (first | exact (Kd.C_below HR0_0.out HB.out) | (with_reducible refine Kd.C_alloc ?_ _) | (with_reducible refine Kd.C_drewN ?_ _) | (with_reducible refine Kd.C_drew ?_))); (case side2 => exact HC0_0.out); (case side3 => repeat (first | exact (Kd.C_below HR0_1.out HB.out) | (with_reducible refine Kd.C_alloc ?_ _) | (with_reducible refine Kd.C_drewN ?_ _) | (with_reducible refine Kd.C_drew ?_))); (case side4 => exact HC0_1.out); rintro e w68 ⟨rfl, hb⟩; refine ⟨_, rfl, ?_⟩; have n0_ := Aside0.mk (blk_below (g := gb142001) (o := .cells #[.slice A0_0 l0_0.length c0_0, .slice A0_1 l0_1.length c0_1, .int .i64 a0_2] 35 (0, 0)) (by (with_reducible repeat (first | refine blk_drewN ?_ _ | refine blk_drew ?_ | refine blk_alloc ?_ _)); exact BK142001.out) hb); have n1_ := Aside0.mk (blk_below (g := gb142002) (o := .cells #[.int .i64 a1_0, .slice A1_1 l1_1.length c1_1, .slice (some ad142005) l1_2.length c1_2] 66 (0, 0)) (by (with_reducible repeat (first | refine blk_drewN ?_ _ | refine blk_drew ?_ | refine blk_alloc ?_ _)); exact BK142002.out) hb); have n2_ := Aside0.mk (below_step (by repeat (first | (with_reducible first | exact HB.out | apply below_alloc | apply pw_below_drewN | apply below_drew1 | refine below_set ?_ GE142001.out | refine below_set ?_ GE142002.out) | exact HB.out)) hb); clear BK142001; clear BK142002; clear HB; have BK142001 := n0_; have BK142002 := n1_; have HB := n2_; clear n0_ n1_ n2_; (try clear hb); (try clear hb2); (try clear hk); (try clear hi)))
                            go_roundg k3
                            case measure => have := HJ2.out; have := HK2.out; have := HK3.out; omega
                            case rel => exact ⟨(wrap64 (x69_3 + 1)), (by first | rfl | (simp; done) | (simp [*]; done)), H', ⟨by have := HJ2.out; have := HK2.out; have := HK3.out; omega⟩, ⟨by (with_reducible repeat (first | refine blk_drewN ?_ _ | refine blk_drew ?_ | refine blk_alloc ?_ _)); exact BK142001.out⟩, ⟨by (with_reducible repeat (first | refine blk_drewN ?_ _ | refine blk_drew ?_ | refine blk_alloc ?_ _)); exact BK142002.out⟩, ⟨by repeat (first | (with_reducible first | exact HB.out | apply below_alloc | apply pw_below_drewN | apply below_drew1 | refine below_set ?_ GE142001.out | refine below_set ?_ GE142002.out) | exact HB.out)⟩⟩
                      · rw [if_neg c48] at H
                        exact absurd H (by simp)
                    · rw [if_neg c47] at H
                      exact absurd H (by simp)
                  · rw [if_neg c46] at H
                    have c46b0 : decide (x69_3 < (l1_2.length : Int)) = false := decide_eq_false c46
                    clear c46
                    obtain rfl := Option.some.inj H
                    go_wp2
                    go_ret
                    exact ⟨by first | rfl | (simp [errW_none, errW_some] <;> rfl) | (simp [*, errW_none, errW_some] <;> rfl), by repeat (first | (with_reducible first | exact HB.out | apply below_alloc | apply pw_below_drewN | apply below_drew1 | refine below_set ?_ GE142001.out | refine below_set ?_ GE142002.out) | exact HB.out)⟩

end Go.Proofs.Ytodfnelilhjoeaa.Pr

namespace Go.Proofs.Ytodfnelilhjoeaa.Pr
open Go.RowKit Go.Proofs.YtodfnelilhjoeaaW.PrintWords Go.Proofs.YtodfnelilhjoeaaW.PrintLast Go.Proofs.YtodfnelilhjoeaaW.PrintMore
attribute [local go_sem] max2_int min2_int max_two min_two max_three min_three max_four min_four
set_option linter.unusedVariables false
set_option linter.unusedSimpArgs false

/-! ### impl_isWatched: function 125 -/
def impl_isWatched.f (k : Nat) (l0_0 : List (S116)) (l0_1 : List (S90)) (a0_2 : Int) (l1 : List Int) (a2 : Int) : Option (Bool) := (impl_propOf.f a2).bind fun t125002 => ((impl_watcher.f l0_0 l0_1 a0_2 t125002).bind fun t125003 => (if t125003 < 0 then (some false) else (if 0 ≤ t125003 then (if t125003 < (l0_0.length : Int) then ((slices_Contains_int_int.f ((rd_T116 l0_0 t125003).f1) a2).bind fun t125005 => (if t125005 = true then (some false) else ((slices_Contains_int_int.f ((rd_T116 l0_0 t125003).f1) (wrap64 (-a2))).bind fun t125006 => (if t125006 = true then (some false) else ((impl_ImpliesLabel.f k l1 ((rd_T116 l0_0 t125003).f1)).bind fun t125007 => (some t125007)))))) else (none)) else (none))))
set_option maxHeartbeats 8000000 in
set_option maxRecDepth 100000 in
theorem impl_isWatched.calls (k : Nat) (A0_0 : Option Addr) (c0_0 : Nat) (l0_0 : List (S116)) (A0_1 : Option Addr) (c0_1 : Nat) (l0_1 : List (S90)) (a0_2 : Int) (A1 : Option Addr) (c1 : Nat) (l1 : List Int) (a2 : Int) (r : Bool) (w : World) (hr0_0 : Kd.C k116 w A0_0 l0_0.length l0_0) (hc0_0 : l0_0.length ≤ c0_0) (hr0_1 : Kd.C k90 w A0_1 l0_1.length l0_1) (hc0_1 : l0_1.length ≤ c0_1) (hr1 : Kd.C (Kd.int .i64) w A1 l1.length l1) (hc1 : l1.length ≤ c1) (h : impl_isWatched.f k l0_0 l0_1 a0_2 l1 a2 = some r) :
    Calls Try.prog 125 #[.agg #[.slice A0_0 l0_0.length c0_0, .slice A0_1 l0_1.length c0_1, .int .i64 a0_2], .slice A1 l1.length c1, .int .i64 a2] w fun e w' => e = .returned (.bool r) ∧ Below w.heap.size w w' := by
  have hu35 := Try.underlying35
  have HR0_0 := Aside0.mk hr0_0
  have HC0_0 := Aside0.mk hc0_0
  clear hr0_0 hc0_0
  have HR0_1 := Aside0.mk hr0_1
  have HC0_1 := Aside0.mk hc0_1
  clear hr0_1 hc0_1
  have HR1 := Aside0.mk hr1
  have HC1 := Aside0.mk hc1
  clear hr1 hc1
  have HB := Aside0.mk (Below.refl w.heap.size w)
  have H : ((impl_propOf.f a2).bind fun t125002 => ((impl_watcher.f l0_0 l0_1 a0_2 t125002).bind fun t125003 => (if t125003 < 0 then (some false) else (if 0 ≤ t125003 then (if t125003 < (l0_0.length : Int) then ((slices_Contains_int_int.f ((rd_T116 l0_0 t125003).f1) a2).bind fun t125005 => (if t125005 = true then (some false) else ((slices_Contains_int_int.f ((rd_T116 l0_0 t125003).f1) (wrap64 (-a2))).bind fun t125006 => (if t125006 = true then (some false) else ((impl_ImpliesLabel.f k l1 ((rd_T116 l0_0 t125003).f1)).bind fun t125007 => (some t125007)))))) else (none)) else (none))))) = some r := h
  clear h
  replace H := Option.bind_eq_some_iff.mp H
  obtain ⟨t125002, A40, H⟩ := H
  replace H : ((impl_watcher.f l0_0 l0_1 a0_2 t125002).bind fun t125003 => (if t125003 < 0 then (some false) else (if 0 ≤ t125003 then (if t125003 < (l0_0.length : Int) then ((slices_Contains_int_int.f ((rd_T116 l0_0 t125003).f1) a2).bind fun t125005 => (if t125005 = true then (some false) else ((slices_Contains_int_int.f ((rd_T116 l0_0 t125003).f1) (wrap64 (-a2))).bind fun t125006 => (if t125006 = true then (some false) else ((impl_ImpliesLabel.f k l1 ((rd_T116 l0_0 t125003).f1)).bind fun t125007 => (some t125007)))))) else (none)) else (none)))) = some r := H
  have A4 := Aside0.mk A40
  clear A40
  replace H := Option.bind_eq_some_iff.mp H
  obtain ⟨t125003, A50, H⟩ := H
  replace H : (if t125003 < 0 then (some false) else (if 0 ≤ t125003 then (if t125003 < (l0_0.length : Int) then ((slices_Contains_int_int.f ((rd_T116 l0_0 t125003).f1) a2).bind fun t125005 => (if t125005 = true then (some false) else ((slices_Contains_int_int.f ((rd_T116 l0_0 t125003).f1) (wrap64 (-a2))).bind fun t125006 => (if t125006 = true then (some false) else ((impl_ImpliesLabel.f k l1 ((rd_T116 l0_0 t125003).f1)).bind fun t125007 => (some t125007)))))) else (none)) else (none))) = some r := H
  have A5 := Aside0.mk A50
  clear A50
  by_cases c6 : t125003 < 0
  · rw [if_pos c6] at H
    have c6b0 : decide (t125003 < 0) = true := decide_eq_true c6
    clear c6
    obtain rfl := Option.some.inj H
    go_enter Try.func125, Try.ntmps125
    try go_wp2_with (first | ((with_reducible refine gate_dst (N := 3) rfl ?_); refine box_event ?hg (N := 3) ?hd (cs := #[.slice A0_0 l0_0.length c0_0, .slice A0_1 l0_1.length c0_1, .int .i64 a0_2]) (t := 35) ?hr ?_; (case hd => rfl); (case hg => rfl); (case hr => first | (go_simp; done) | (go_simp; rfl)); intro gb125001 hg w7 hbox hb; have n0_ := Aside0.mk (below_step (by repeat (first | (with_reducible first | exact HB.out | apply below_alloc | apply pw_below_drewN | apply below_drew1) | exact HB.out)) hb); have n1_ := Aside0.mk (hbox); have n2_ := Aside0.mk ((by rw [hg]; exact (below_size (by repeat (first | (with_reducible first | exact HB.out | apply below_alloc | apply pw_below_drewN | apply below_drew1) | exact HB.out))) : w.heap.size ≤ gb125001)); have n3_ := Aside0.mk ((by rw [hg]; exact (below_size (by repeat (first | (with_reducible first | exact HB.out | apply below_alloc | apply pw_below_drewN | apply below_drew1) | exact HB.out))) : w.heap.size ≤ gb125001)); clear HB; have HB := n0_; have BK125001 := n1_; have GW125001 := n2_; have GE125001 := n3_; clear n0_ n1_ n2_ n3_; clear hb hbox hg))
    have n0_ := Aside0.mk (blk_drew BK125001.out)
    have n1_ := Aside0.mk (below_drew1 HB.out)
    clear BK125001
    clear HB
    have BK125001 := n0_
    have HB := n1_
    clear n0_ n1_
    refine start_ (n := 5) (S := fun w' => w'.cell? ⟨gb125001, 0, none⟩ = some (.slice A0_0 l0_0.length c0_0) ∧ w'.cell? ⟨gb125001, 1, none⟩ = some (.slice A0_1 l0_1.length c0_1) ∧ w'.cell? ⟨gb125001, 2, none⟩ = some (.int .i64 a0_2)) (ds := []) #[false, false, false, false, false] (by kernel_rfl) rfl rfl ⟨(blk_cell BK125001.out 0).trans rfl, (blk_cell BK125001.out 1).trans rfl, (blk_cell BK125001.out 2).trans rfl⟩ (fun hHeld => ?_)
    generalize w7.drew = w8 at BK125001 HB hHeld ⊢
    refine pure_ (i := 1) (N := some 10) (v := ?_) (a' := ?_) #[false, true, false, false, false] rfl rfl (by kernel_rfl) (fun _ _ _ h => h) (Or.inl ⟨by rfl, ?_⟩) ?_ ?_
    rotate_left
    · intro w'
      go_simp
      with_reducible rfl
    rotate_left
    · simp only [Act.put, List.setIfInBounds_toArray, List.set_cons_zero, List.set_cons_succ, i64_w, i32_w]
      rfl
    refine take_ (i := 0) (N := some 9) (v := ?_) (a' := ?_) #[true, true, false, false, false] rfl rfl (by kernel_rfl) (fun _ _ _ h => h) (Or.inl ⟨by rfl, ?_⟩) hHeld ?_ ?_
    rotate_left
    · rintro w' ⟨s0, s1, s2⟩
      go_simp
      with_reducible rfl
    rotate_left
    · simp only [Act.put, List.setIfInBounds_toArray, List.set_cons_zero, List.set_cons_succ, i64_w, i32_w]
      rfl
    refine one_ (i := 2) (N := some 11) #[true, true, true, false, false] rfl rfl (by kernel_rfl) (by decide) (fun K hK => ?_)
    refine goes_ Try.func162 (by kernel_rfl) rfl #[.int .i64 a2] (by rfl) rfl rfl (by (try simp only [List.map_toArray, List.map_cons, List.map_nil]); first | done | rfl | (simp only [List.length_drop, List.length_take]; rfl)) ?_
    with_reducible refine (impl_propOf.calls a2 t125002 _ A4.out).mono ?_
    rintro e w9 ⟨rfl, hb⟩
    refine ⟨_, rfl, ?_⟩
    have n0_ := Aside0.mk (blk_below (g := gb125001) (o := .cells #[.slice A0_0 l0_0.length c0_0, .slice A0_1 l0_1.length c0_1, .int .i64 a0_2] 35 (0, 0)) (by (with_reducible repeat (first | refine blk_drewN ?_ _ | refine blk_drew ?_ | refine blk_alloc ?_ _)); exact BK125001.out) hb)
    have n1_ := Aside0.mk (below_step (by repeat (first | (with_reducible first | exact HB.out | apply below_alloc | apply pw_below_drewN | apply below_drew1 | refine below_set ?_ GE125001.out) | exact HB.out)) hb)
    clear BK125001
    clear HB
    have BK125001 := n0_
    have HB := n1_
    clear n0_ n1_
    (try clear hb)
    (try clear hb2)
    (try clear hk)
    (try clear hi)
    refine hK.out _ _ ⟨(blk_cell BK125001.out 0).trans rfl, (blk_cell BK125001.out 1).trans rfl, (blk_cell BK125001.out 2).trans rfl⟩ (fun hHeld => ?_)
    clear hK K
    refine norm_ (a' := ?_) ?_ ?_
    rotate_left
    · show Act.put _ (some 11) _ = _
      simp only [Act.put, List.setIfInBounds_toArray, List.set_cons_zero, List.set_cons_succ, i64_w, i32_w]
      rfl
    refine one_ (i := 3) (N := some 12) #[true, true, true, true, false] rfl rfl (by kernel_rfl) (by decide) (fun K hK => ?_)
    refine goes_ Try.func126 (by kernel_rfl) rfl #[.agg #[.slice A0_0 l0_0.length c0_0, .slice A0_1 l0_1.length c0_1, .int .i64 a0_2], .int .i64 t125002] (by rfl) rfl rfl (by (try simp only [List.map_toArray, List.map_cons, List.map_nil]); first | done | rfl | (simp only [List.length_drop, List.length_take]; rfl)) ?_
    with_reducible refine (impl_watcher.calls _ _ l0_0 _ _ l0_1 a0_2 t125002 t125003 _ ?side1 ?side2 ?side3 ?side4 A5.out).mono ?_
    (case side1 => repeat (first | exact (Kd.C_below HR0_0.out HB.out) | (with_reducible refine Kd.C_alloc ?_ _) | (with_reducible refine Kd.C_drewN ?_ _) | (with_reducible refine Kd.C_drew ?_)))
    (case side2 => exact HC0_0.out)
    (case side3 => repeat (first | exact (Kd.C_below HR0_1.out HB.out) | (with_reducible refine Kd.C_alloc ?_ _) | (with_reducible refine Kd.C_drewN ?_ _) | (with_reducible refine Kd.C_drew ?_)))
    (case side4 => exact HC0_1.out)
    rintro e w10 ⟨rfl, hb⟩
    refine ⟨_, rfl, ?_⟩
    have n0_ := Aside0.mk (blk_below (g := gb125001) (o := .cells #[.slice A0_0 l0_0.length c0_0, .slice A0_1 l0_1.length c0_1, .int .i64 a0_2] 35 (0, 0)) (by (with_reducible repeat (first | refine blk_drewN ?_ _ | refine blk_drew ?_ | refine blk_alloc ?_ _)); exact BK125001.out) hb)
    have n1_ := Aside0.mk (below_step (by repeat (first | (with_reducible first | exact HB.out | apply below_alloc | apply pw_below_drewN | apply below_drew1 | refine below_set ?_ GE125001.out) | exact HB.out)) hb)
    clear BK125001
    clear HB
    have BK125001 := n0_
    have HB := n1_
    clear n0_ n1_
    (try clear hb)
    (try clear hb2)
    (try clear hk)
    (try clear hi)
    refine hK.out _ _ ⟨(blk_cell BK125001.out 0).trans rfl, (blk_cell BK125001.out 1).trans rfl, (blk_cell BK125001.out 2).trans rfl⟩ (fun hHeld => ?_)
    clear hK K
    refine norm_ (a' := ?_) ?_ ?_
    rotate_left
    · show Act.put _ (some 12) _ = _
      simp only [Act.put, List.setIfInBounds_toArray, List.set_cons_zero, List.set_cons_succ, i64_w, i32_w]
      rfl
    refine pure_ (i := 4) (N := some 7) (v := ?_) (a' := ?_) #[true, true, true, true, true] rfl rfl (by kernel_rfl) (fun _ _ _ h => h) (Or.inl ⟨by rfl, ?_⟩) ?_ ?_
    rotate_left
    · intro w'
      go_simp
      with_reducible rfl
    rotate_left
    · simp only [Act.put, List.setIfInBounds_toArray, List.set_cons_zero, List.set_cons_succ, i64_w, i32_w]
      rfl
    refine done_ (by kernel_rfl) ?_
    try go_wp2
    go_ret
    exact ⟨by first | rfl | (simp [errW_none, errW_some] <;> rfl) | (simp [*, errW_none, errW_some] <;> rfl), by repeat (first | (with_reducible first | exact HB.out | apply below_alloc | apply pw_below_drewN | apply below_drew1 | refine below_set ?_ GE125001.out) | exact HB.out)⟩
  · rw [if_neg c6] at H
    have c6b0 : decide (t125003 < 0) = false := decide_eq_false c6
    clear c6
    by_cases c11 : 0 ≤ t125003
    · rw [if_pos c11] at H
      have c11b0 : decide (0 ≤ t125003) = true := decide_eq_true c11
      clear c11
      by_cases c12 : t125003 < (l0_0.length : Int)
      · rw [if_pos c12] at H
        have c12b0 : decide (t125003 < (l0_0.length : Int)) = true := decide_eq_true c12
        clear c12
        replace H := Option.bind_eq_some_iff.mp H
        obtain ⟨t125005, A130, H⟩ := H
        replace H : (if t125005 = true then (some false) else ((slices_Contains_int_int.f ((rd_T116 l0_0 t125003).f1) (wrap64 (-a2))).bind fun t125006 => (if t125006 = true then (some false) else ((impl_ImpliesLabel.f k l1 ((rd_T116 l0_0 t125003).f1)).bind fun t125007 => (some t125007))))) = some r := H
        have A13 := Aside0.mk A130
        clear A130
        by_cases c14 : t125005 = true
        · subst c14
          have H1 : (some false) = some r := by rw [if_pos rfl] at H; exact H
          clear H
          have H := H1
          clear H1
          obtain rfl := Option.some.inj H
          go_enter Try.func125, Try.ntmps125
          try go_wp2_with (first | ((with_reducible refine gate_dst (N := 3) rfl ?_); refine box_event ?hg (N := 3) ?hd (cs := #[.slice A0_0 l0_0.length c0_0, .slice A0_1 l0_1.length c0_1, .int .i64 a0_2]) (t := 35) ?hr ?_; (case hd => rfl); (case hg => rfl); (case hr => first | (go_simp; done) | (go_simp; rfl)); intro gb125001 hg w15 hbox hb; have n0_ := Aside0.mk (below_step (by repeat (first | (with_reducible first | exact HB.out | apply below_alloc | apply pw_below_drewN | apply below_drew1) | exact HB.out)) hb); have n1_ := Aside0.mk (hbox); have n2_ := Aside0.mk ((by rw [hg]; exact (below_size (by repeat (first | (with_reducible first | exact HB.out | apply below_alloc | apply pw_below_drewN | apply below_drew1) | exact HB.out))) : w.heap.size ≤ gb125001)); have n3_ := Aside0.mk ((by rw [hg]; exact (below_size (by repeat (first | (with_reducible first | exact HB.out | apply below_alloc | apply pw_below_drewN | apply below_drew1) | exact HB.out))) : w.heap.size ≤ gb125001)); clear HB; have HB := n0_; have BK125001 := n1_; have GW125001 := n2_; have GE125001 := n3_; clear n0_ n1_ n2_ n3_; clear hb hbox hg))
          have n0_ := Aside0.mk (blk_drew BK125001.out)
          have n1_ := Aside0.mk (below_drew1 HB.out)
          clear BK125001
          clear HB
          have BK125001 := n0_
          have HB := n1_
          clear n0_ n1_
          refine start_ (n := 5) (S := fun w' => w'.cell? ⟨gb125001, 0, none⟩ = some (.slice A0_0 l0_0.length c0_0) ∧ w'.cell? ⟨gb125001, 1, none⟩ = some (.slice A0_1 l0_1.length c0_1) ∧ w'.cell? ⟨gb125001, 2, none⟩ = some (.int .i64 a0_2)) (ds := []) #[false, false, false, false, false] (by kernel_rfl) rfl rfl ⟨(blk_cell BK125001.out 0).trans rfl, (blk_cell BK125001.out 1).trans rfl, (blk_cell BK125001.out 2).trans rfl⟩ (fun hHeld => ?_)
          generalize w15.drew = w16 at BK125001 HB hHeld ⊢
          refine pure_ (i := 1) (N := some 10) (v := ?_) (a' := ?_) #[false, true, false, false, false] rfl rfl (by kernel_rfl) (fun _ _ _ h => h) (Or.inl ⟨by rfl, ?_⟩) ?_ ?_
          rotate_left
          · intro w'
            go_simp
            with_reducible rfl
          rotate_left
          · simp only [Act.put, List.setIfInBounds_toArray, List.set_cons_zero, List.set_cons_succ, i64_w, i32_w]
            rfl
          refine take_ (i := 0) (N := some 9) (v := ?_) (a' := ?_) #[true, true, false, false, false] rfl rfl (by kernel_rfl) (fun _ _ _ h => h) (Or.inl ⟨by rfl, ?_⟩) hHeld ?_ ?_
          rotate_left
          · rintro w' ⟨s0, s1, s2⟩
            go_simp
            with_reducible rfl
          rotate_left
          · simp only [Act.put, List.setIfInBounds_toArray, List.set_cons_zero, List.set_cons_succ, i64_w, i32_w]
            rfl
          refine one_ (i := 2) (N := some 11) #[true, true, true, false, false] rfl rfl (by kernel_rfl) (by decide) (fun K hK => ?_)
          refine goes_ Try.func162 (by kernel_rfl) rfl #[.int .i64 a2] (by rfl) rfl rfl (by (try simp only [List.map_toArray, List.map_cons, List.map_nil]); first | done | rfl | (simp only [List.length_drop, List.length_take]; rfl)) ?_
          with_reducible refine (impl_propOf.calls a2 t125002 _ A4.out).mono ?_
          rintro e w17 ⟨rfl, hb⟩
          refine ⟨_, rfl, ?_⟩
          have n0_ := Aside0.mk (blk_below (g := gb125001) (o := .cells #[.slice A0_0 l0_0.length c0_0, .slice A0_1 l0_1.length c0_1, .int .i64 a0_2] 35 (0, 0)) (by (with_reducible repeat (first | refine blk_drewN ?_ _ | refine blk_drew ?_ | refine blk_alloc ?_ _)); exact BK125001.out) hb)
          have n1_ := Aside0.mk (below_step (by repeat (first | (with_reducible first | exact HB.out | apply below_alloc | apply pw_below_drewN | apply below_drew1 | refine below_set ?_ GE125001.out) | exact HB.out)) hb)
          clear BK125001
          clear HB
          have BK125001 := n0_
          have HB := n1_
          clear n0_ n1_
          (try clear hb)
          (try clear hb2)
          (try clear hk)
          (try clear hi)
          refine hK.out _ _ ⟨(blk_cell BK125001.out 0).trans rfl, (blk_cell BK125001.out 1).trans rfl, (blk_cell BK125001.out 2).trans rfl⟩ (fun hHeld => ?_)
          clear hK K
          refine norm_ (a' := ?_) ?_ ?_
          rotate_left
          · show Act.put _ (some 11) _ = _
            simp only [Act.put, List.setIfInBounds_toArray, List.set_cons_zero, List.set_cons_succ, i64_w, i32_w]
            rfl
          refine one_ (i := 3) (N := some 12) #[true, true, true, true, false] rfl rfl (by kernel_rfl) (by decide) (fun K hK => ?_)
          refine goes_ Try.func126 (by kernel_rfl) rfl #[.agg #[.slice A0_0 l0_0.length c0_0, .slice A0_1 l0_1.length c0_1, .int .i64 a0_2], .int .i64 t125002] (by rfl) rfl rfl (by (try simp only [List.map_toArray, List.map_cons, List.map_nil]); first | done | rfl | (simp only [List.length_drop, List.length_take]; rfl)) ?_
          with_reducible refine (impl_watcher.calls _ _ l0_0 _ _ l0_1 a0_2 t125002 t125003 _ ?side1 ?side2 ?side3 ?side4 A5.out).mono ?_
          (case side1 => repeat (first | exact (Kd.C_below HR0_0.out HB.out) | (with_reducible refine Kd.C_alloc ?_ _) | (with_reducible refine Kd.C_drewN ?_ _) | (with_reducible refine Kd.C_drew ?_)))
          (case side2 => exact HC0_0.out)
          (case side3 => repeat (first | exact (Kd.C_below HR0_1.out HB.out) | (with_reducible refine Kd.C_alloc ?_ _) | (with_reducible refine Kd.C_drewN ?_ _) | (with_reducible refine Kd.C_drew ?_)))
          (case side4 => exact HC0_1.out)
          rintro e w18 ⟨rfl, hb⟩
          refine ⟨_, rfl, ?_⟩
          have n0_ := Aside0.mk (blk_below (g := gb125001) (o := .cells #[.slice A0_0 l0_0.length c0_0, .slice A0_1 l0_1.length c0_1, .int .i64 a0_2] 35 (0, 0)) (by (with_reducible repeat (first | refine blk_drewN ?_ _ | refine blk_drew ?_ | refine blk_alloc ?_ _)); exact BK125001.out) hb)
          have n1_ := Aside0.mk (below_step (by repeat (first | (with_reducible first | exact HB.out | apply below_alloc | apply pw_below_drewN | apply below_drew1 | refine below_set ?_ GE125001.out) | exact HB.out)) hb)
          clear BK125001
          clear HB
          have BK125001 := n0_
          have HB := n1_
          clear n0_ n1_
          (try clear hb)
          (try clear hb2)
          (try clear hk)
          (try clear hi)
          refine hK.out _ _ ⟨(blk_cell BK125001.out 0).trans rfl, (blk_cell BK125001.out 1).trans rfl, (blk_cell BK125001.out 2).trans rfl⟩ (fun hHeld => ?_)
          clear hK K
          refine norm_ (a' := ?_) ?_ ?_
          rotate_left
          · show Act.put _ (some 12) _ = _
            simp only [Act.put, List.setIfInBounds_toArray, List.set_cons_zero, List.set_cons_succ, i64_w, i32_w]
            rfl
          refine pure_ (i := 4) (N := some 7) (v := ?_) (a' := ?_) #[true, true, true, true, true] rfl rfl (by kernel_rfl) (fun _ _ _ h => h) (Or.inl ⟨by rfl, ?_⟩) ?_ ?_
          rotate_left
          · intro w'
            go_simp
            with_reducible rfl
          rotate_left
          · simp only [Act.put, List.setIfInBounds_toArray, List.set_cons_zero, List.set_cons_succ, i64_w, i32_w]
            rfl
          refine done_ (by kernel_rfl) ?_
          have hcz19_0 : w18.cell? ⟨gb125001, 0, none⟩ = some (.slice A0_0 l0_0.length c0_0) := (blk_cell BK125001.out 0).trans rfl
          have hcz19_1 : w18.cell? ⟨gb125001, 1, none⟩ = some (.slice A0_1 l0_1.length c0_1) := (blk_cell BK125001.out 1).trans rfl
          have hcz19_2 : w18.cell? ⟨gb125001, 2, none⟩ = some (.int .i64 a0_2) := (blk_cell BK125001.out 2).trans rfl
          have hfz19_0 := blk_frozen BK125001.out 0
          have hfz19_1 := blk_frozen BK125001.out 1
          have hfz19_2 := blk_frozen BK125001.out 2
          have p125004 : 0 ≤ (t125003 : Int) := of_decide_eq_true (by first | (with_reducible assumption) | assumption)
          have q125004 : t125003 < (l0_0.length : Int) := of_decide_eq_true (by first | (with_reducible assumption) | assumption)
          obtain ⟨ad125004, A125004_1, c125004_1, e125004, hx125004_0, hx125004_1, hx125004_2, hl125004_1, hi125004_1⟩ := at_T116 HR0_0.out t125003 p125004 q125004
          cases e125004
          replace hx125004_0 := (HB.out.cell (World.block_lt_of_cell? w _ hx125004_0)).trans hx125004_0
          replace hx125004_1 := (HB.out.cell (World.block_lt_of_cell? w _ hx125004_1)).trans hx125004_1
          replace hx125004_2 := (HB.out.cell (World.block_lt_of_cell? w _ hx125004_2)).trans hx125004_2
          have HR125004_1 := Aside0.mk hi125004_1
          have HC125004_1 := Aside0.mk hl125004_1
          clear hi125004_1 hl125004_1
          replace p125004 := eq_true p125004
          replace q125004 := eq_true q125004
          try go_wp2_with (first | ((with_reducible refine gate_callee (f := 134) rfl ?_); refine goesL_ (some 23) rfl rfl Try.func134 (by kernel_rfl) rfl #[.slice A125004_1 ((rd_T116 l0_0 t125003).f1).length c125004_1, .int .i64 a2] rfl (by (try simp only [List.map_toArray, List.map_cons, List.map_nil]); first | done | rfl | (simp only [List.length_drop, List.length_take]; rfl)) ?_; (with_reducible refine (slices_Contains_int_int.calls _ _ ((rd_T116 l0_0 t125003).f1) a2 true _ ?side1 ?side2 A13.out).mono ?_); (case side1 => repeat (first | exact (Kd.C_below HR125004_1.out HB.out) | (with_reducible refine Kd.C_alloc ?_ _) | (with_reducible refine Kd.C_drewN ?_ _) | (with_reducible refine Kd.C_drew ?_))); (case side2 => exact HC125004_1.out); rintro e w20 ⟨rfl, hb⟩; refine ⟨_, rfl, ?_⟩; have n0_ := Aside0.mk (blk_below (g := gb125001) (o := .cells #[.slice (some ad125004) l0_0.length c0_0, .slice A0_1 l0_1.length c0_1, .int .i64 a0_2] 35 (0, 0)) (by (with_reducible repeat (first | refine blk_drewN ?_ _ | refine blk_drew ?_ | refine blk_alloc ?_ _)); exact BK125001.out) hb); have n1_ := Aside0.mk (below_step (by repeat (first | (with_reducible first | exact HB.out | apply below_alloc | apply pw_below_drewN | apply below_drew1 | refine below_set ?_ GE125001.out) | exact HB.out)) hb); clear BK125001; clear HB; have BK125001 := n0_; have HB := n1_; clear n0_ n1_; (try clear hb); (try clear hb2); (try clear hk); (try clear hi)))
          go_ret
          exact ⟨by first | rfl | (simp [errW_none, errW_some] <;> rfl) | (simp [*, errW_none, errW_some] <;> rfl), by repeat (first | (with_reducible first | exact HB.out | apply below_alloc | apply pw_below_drewN | apply below_drew1 | refine below_set ?_ GE125001.out) | exact HB.out)⟩
        · replace c14 := Bool.eq_false_iff.mpr c14
          subst c14
          have H1 : ((slices_Contains_int_int.f ((rd_T116 l0_0 t125003).f1) (wrap64 (-a2))).bind fun t125006 => (if t125006 = true then (some false) else ((impl_ImpliesLabel.f k l1 ((rd_T116 l0_0 t125003).f1)).bind fun t125007 => (some t125007)))) = some r := by rw [if_neg (show ¬ (false = true) by decide)] at H; exact H
          clear H
          have H := H1
          clear H1
          replace H := Option.bind_eq_some_iff.mp H
          obtain ⟨t125006, A210, H⟩ := H
          replace H : (if t125006 = true then (some false) else ((impl_ImpliesLabel.f k l1 ((rd_T116 l0_0 t125003).f1)).bind fun t125007 => (some t125007))) = some r := H
          have A21 := Aside0.mk A210
          clear A210
          by_cases c22 : t125006 = true
          · subst c22
            have H1 : (some false) = some r := by rw [if_pos rfl] at H; exact H
            clear H
            have H := H1
            clear H1
            obtain rfl := Option.some.inj H
            go_enter Try.func125, Try.ntmps125
            try go_wp2_with (first | ((with_reducible refine gate_dst (N := 3) rfl ?_); refine box_event ?hg (N := 3) ?hd (cs := #[.slice A0_0 l0_0.length c0_0, .slice A0_1 l0_1.length c0_1, .int .i64 a0_2]) (t := 35) ?hr ?_; (case hd => rfl); (case hg => rfl); (case hr => first | (go_simp; done) | (go_simp; rfl)); intro gb125001 hg w23 hbox hb; have n0_ := Aside0.mk (below_step (by repeat (first | (with_reducible first | exact HB.out | apply below_alloc | apply pw_below_drewN | apply below_drew1) | exact HB.out)) hb); have n1_ := Aside0.mk (hbox); have n2_ := Aside0.mk ((by rw [hg]; exact (below_size (by repeat (first | (with_reducible first | exact HB.out | apply below_alloc | apply pw_below_drewN | apply below_drew1) | exact HB.out))) : w.heap.size ≤ gb125001)); have n3_ := Aside0.mk ((by rw [hg]; exact (below_size (by repeat (first | (with_reducible first | exact HB.out | apply below_alloc | apply pw_below_drewN | apply below_drew1) | exact HB.out))) : w.heap.size ≤ gb125001)); clear HB; have HB := n0_; have BK125001 := n1_; have GW125001 := n2_; have GE125001 := n3_; clear n0_ n1_ n2_ n3_; clear hb hbox hg))
            have n0_ := Aside0.mk (blk_drew BK125001.out)
            have n1_ := Aside0.mk (below_drew1 HB.out)
            clear BK125001
            clear HB
            have BK125001 := n0_
            have HB := n1_
            clear n0_ n1_
            refine start_ (n := 5) (S := fun w' => w'.cell? ⟨gb125001, 0, none⟩ = some (.slice A0_0 l0_0.length c0_0) ∧ w'.cell? ⟨gb125001, 1, none⟩ = some (.slice A0_1 l0_1.length c0_1) ∧ w'.cell? ⟨gb125001, 2, none⟩ = some (.int .i64 a0_2)) (ds := []) #[false, false, false, false, false] (by kernel_rfl) rfl rfl ⟨(blk_cell BK125001.out 0).trans rfl, (blk_cell BK125001.out 1).trans rfl, (blk_cell BK125001.out 2).trans rfl⟩ (fun hHeld => ?_)
            generalize w23.drew = w24 at BK125001 HB hHeld ⊢
            refine pure_ (i := 1) (N := some 10) (v := ?_) (a' := ?_) #[false, true, false, false, false] rfl rfl (by kernel_rfl) (fun _ _ _ h => h) (Or.inl ⟨by rfl, ?_⟩) ?_ ?_
            rotate_left
            · intro w'
              go_simp
              with_reducible rfl
            rotate_left
            · simp only [Act.put, List.setIfInBounds_toArray, List.set_cons_zero, List.set_cons_succ, i64_w, i32_w]
              rfl
            refine take_ (i := 0) (N := some 9) (v := ?_) (a' := ?_) #[true, true, false, false, false] rfl rfl (by kernel_rfl) (fun _ _ _ h => h) (Or.inl ⟨by rfl, ?_⟩) hHeld ?_ ?_
            rotate_left
            · rintro w' ⟨s0, s1, s2⟩
              go_simp
              with_reducible rfl
            rotate_left
            · simp only [Act.put, List.setIfInBounds_toArray, List.set_cons_zero, List.set_cons_succ, i64_w, i32_w]
              rfl
            refine one_ (i := 2) (N := some 11) #[true, true, true, false, false] rfl rfl (by kernel_rfl) (by decide) (fun K hK => ?_)
            refine goes_ Try.func162 (by kernel_rfl) rfl #[.int .i64 a2] (by rfl) rfl rfl (by (try simp only [List.map_toArray, List.map_cons, List.map_nil]); first | done | rfl | (simp only [List.length_drop, List.length_take]; rfl)) ?_
            with_reducible refine (impl_propOf.calls a2 t125002 _ A4.out).mono ?_
            rintro e w25 ⟨rfl, hb⟩
            refine ⟨_, rfl, ?_⟩
            have n0_ := Aside0.mk (blk_below (g := gb125001) (o := .cells #[.slice A0_0 l0_0.length c0_0, .slice A0_1 l0_1.length c0_1, .int .i64 a0_2] 35 (0, 0)) (by (with_reducible repeat (first | refine blk_drewN ?_ _ | refine blk_drew ?_ | refine blk_alloc ?_ _)); exact BK125001.out) hb)
            have n1_ := Aside0.mk (below_step (by repeat (first | (with_reducible first | exact HB.out | apply below_alloc | apply pw_below_drewN | apply below_drew1 | refine below_set ?_ GE125001.out) | exact HB.out)) hb)
            clear BK125001
            clear HB
            have BK125001 := n0_
            have HB := n1_
            clear n0_ n1_
            (try clear hb)
            (try clear hb2)
            (try clear hk)
            (try clear hi)
            refine hK.out _ _ ⟨(blk_cell BK125001.out 0).trans rfl, (blk_cell BK125001.out 1).trans rfl, (blk_cell BK125001.out 2).trans rfl⟩ (fun hHeld => ?_)
            clear hK K
            refine norm_ (a' := ?_) ?_ ?_
            rotate_left
            · show Act.put _ (some 11) _ = _
              simp only [Act.put, List.setIfInBounds_toArray, List.set_cons_zero, List.set_cons_succ, i64_w, i32_w]
              rfl
            refine one_ (i := 3) (N := some 12) #[true, true, true, true, false] rfl rfl (by kernel_rfl) (by decide) (fun K hK => ?_)
            refine goes_ Try.func126 (by kernel_rfl) rfl #[.agg #[.slice A0_0 l0_0.length c0_0, .slice A0_1 l0_1.length c0_1, .int .i64 a0_2], .int .i64 t125002] (by rfl) rfl rfl (by (try simp only [List.map_toArray, List.map_cons, List.map_nil]); first | done | rfl | (simp only [List.length_drop, List.length_take]; rfl)) ?_
            with_reducible refine (impl_watcher.calls _ _ l0_0 _ _ l0_1 a0_2 t125002 t125003 _ ?side1 ?side2 ?side3 ?side4 A5.out).mono ?_
            (case side1 => repeat (first | exact (Kd.C_below HR0_0.out HB.out) | (with_reducible refine Kd.C_alloc ?_ _) | (with_reducible refine Kd.C_drewN ?_ _) | (with_reducible refine Kd.C_drew ?_)))
            (case side2 => exact HC0_0.out)
            (case side3 => repeat (first | exact (Kd.C_below HR0_1.out HB.out) | (with_reducible refine Kd.C_alloc ?_ _) | (with_reducible refine Kd.C_drewN ?_ _) | (with_reducible refine Kd.C_drew ?_)))
            (case side4 => exact HC0_1.out)
            rintro e w26 ⟨rfl, hb⟩
            refine ⟨_, rfl, ?_⟩
            have n0_ := Aside0.mk (blk_below (g := gb125001) (o := .cells #[.slice A0_0 l0_0.length c0_0, .slice A0_1 l0_1.length c0_1, .int .i64 a0_2] 35 (0, 0)) (by (with_reducible repeat (first | refine blk_drewN ?_ _ | refine blk_drew ?_ | refine blk_alloc ?_ _)); exact BK125001.out) hb)
            have n1_ := Aside0.mk (below_step (by repeat (first | (with_reducible first | exact HB.out | apply below_alloc | apply pw_below_drewN | apply below_drew1 | refine below_set ?_ GE125001.out) | exact HB.out)) hb)
            clear BK125001
            clear HB
            have BK125001 := n0_
            have HB := n1_
            clear n0_ n1_
            (try clear hb)
            (try clear hb2)
            (try clear hk)
            (try clear hi)
            refine hK.out _ _ ⟨(blk_cell BK125001.out 0).trans rfl, (blk_cell BK125001.out 1).trans rfl, (blk_cell BK125001.out 2).trans rfl⟩ (fun hHeld => ?_)
            clear hK K
            refine norm_ (a' := ?_) ?_ ?_
            rotate_left
            · show Act.put _ (some 12) _ = _
              simp only [Act.put, List.setIfInBounds_toArray, List.set_cons_zero, List.set_cons_succ, i64_w, i32_w]
              rfl
            refine pure_ (i := 4) (N := some 7) (v := ?_) (a' := ?_) #[true, true, true, true, true] rfl rfl (by kernel_rfl) (fun _ _ _ h => h) (Or.inl ⟨by rfl, ?_⟩) ?_ ?_
            rotate_left
            · intro w'
              go_simp
              with_reducible rfl
            rotate_left
            · simp only [Act.put, List.setIfInBounds_toArray, List.set_cons_zero, List.set_cons_succ, i64_w, i32_w]
              rfl
            refine done_ (by kernel_rfl) ?_
            have hcz27_0 : w26.cell? ⟨gb125001, 0, none⟩ = some (.slice A0_0 l0_0.length c0_0) := (blk_cell BK125001.out 0).trans rfl
            have hcz27_1 : w26.cell? ⟨gb125001, 1, none⟩ = some (.slice A0_1 l0_1.length c0_1) := (blk_cell BK125001.out 1).trans rfl
            have hcz27_2 : w26.cell? ⟨gb125001, 2, none⟩ = some (.int .i64 a0_2) := (blk_cell BK125001.out 2).trans rfl
            have hfz27_0 := blk_frozen BK125001.out 0
            have hfz27_1 := blk_frozen BK125001.out 1
            have hfz27_2 := blk_frozen BK125001.out 2
            have p125004 : 0 ≤ (t125003 : Int) := of_decide_eq_true (by first | (with_reducible assumption) | assumption)
            have q125004 : t125003 < (l0_0.length : Int) := of_decide_eq_true (by first | (with_reducible assumption) | assumption)
            obtain ⟨ad125004, A125004_1, c125004_1, e125004, hx125004_0, hx125004_1, hx125004_2, hl125004_1, hi125004_1⟩ := at_T116 HR0_0.out t125003 p125004 q125004
            cases e125004
            replace hx125004_0 := (HB.out.cell (World.block_lt_of_cell? w _ hx125004_0)).trans hx125004_0
            replace hx125004_1 := (HB.out.cell (World.block_lt_of_cell? w _ hx125004_1)).trans hx125004_1
            replace hx125004_2 := (HB.out.cell (World.block_lt_of_cell? w _ hx125004_2)).trans hx125004_2
            have HR125004_1 := Aside0.mk hi125004_1
            have HC125004_1 := Aside0.mk hl125004_1
            clear hi125004_1 hl125004_1
            replace p125004 := eq_true p125004
            replace q125004 := eq_true q125004
            try go_wp2_with (first | ((with_reducible refine gate_callee (f := 134) rfl ?_); refine goesL_ (some 23) rfl rfl Try.func134 (by kernel_rfl) rfl #[.slice A125004_1 ((rd_T116 l0_0 t125003).f1).length c125004_1, .int .i64 a2] rfl (by (try simp only [List.map_toArray, List.map_cons, List.map_nil]); first | done | rfl | (simp only [List.length_drop, List.length_take]; rfl)) ?_; (with_reducible refine (slices_Contains_int_int.calls _ _ ((rd_T116 l0_0 t125003).f1) a2 false _ ?side1 ?side2 A13.out).mono ?_); (case side1 => repeat (first | exact (Kd.C_below HR125004_1.out HB.out) | (with_reducible refine Kd.C_alloc ?_ _) | (with_reducible refine Kd.C_drewN ?_ _) | (with_reducible refine Kd.C_drew ?_))); (case side2 => exact HC125004_1.out); rintro e w28 ⟨rfl, hb⟩; refine ⟨_, rfl, ?_⟩; have n0_ := Aside0.mk (blk_below (g := gb125001) (o := .cells #[.slice (some ad125004) l0_0.length c0_0, .slice A0_1 l0_1.length c0_1, .int .i64 a0_2] 35 (0, 0)) (by (with_reducible repeat (first | refine blk_drewN ?_ _ | refine blk_drew ?_ | refine blk_alloc ?_ _)); exact BK125001.out) hb); have n1_ := Aside0.mk (below_step (by repeat (first | (with_reducible first | exact HB.out | apply below_alloc | apply pw_below_drewN | apply below_drew1 | refine below_set ?_ GE125001.out) | exact HB.out)) hb); clear BK125001; clear HB; have BK125001 := n0_; have HB := n1_; clear n0_ n1_; (try clear hb); (try clear hb2); (try clear hk); (try clear hi)) | (go_at_call 134; (with_reducible refine (slices_Contains_int_int.calls _ _ ((rd_T116 l0_0 t125003).f1) (wrap64 (-a2)) true _ ?side1 ?side2 A21.out).mono ?_); (case side1 => repeat (first | exact (Kd.C_below HR125004_1.out HB.out) | (with_reducible refine Kd.C_alloc ?_ _) | (with_reducible refine Kd.C_drewN ?_ _) | (with_reducible refine Kd.C_drew ?_))); (case side2 => exact HC125004_1.out); rintro e w29 ⟨rfl, hb⟩; have n0_ := Aside0.mk (blk_below (g := gb125001) (o := .cells #[.slice (some ad125004) l0_0.length c0_0, .slice A0_1 l0_1.length c0_1, .int .i64 a0_2] 35 (0, 0)) (by (with_reducible repeat (first | refine blk_drewN ?_ _ | refine blk_drew ?_ | refine blk_alloc ?_ _)); exact BK125001.out) hb); have n1_ := Aside0.mk (below_step (by repeat (first | (with_reducible first | exact HB.out | apply below_alloc | apply pw_below_drewN | apply below_drew1 | refine below_set ?_ GE125001.out) | exact HB.out)) hb); clear BK125001; clear HB; have BK125001 := n0_; have HB := n1_; clear n0_ n1_; (try clear hb); (try clear hb2); (try clear hk); (try clear hi)))
            go_ret
            exact ⟨by first | rfl | (simp [errW_none, errW_some] <;> rfl) | (simp [*, errW_none, errW_some] <;> rfl), by repeat (first | (with_reducible first | exact HB.out | apply below_alloc | apply pw_below_drewN | apply below_drew1 | refine below_set ?_ GE125001.out) | exact HB.out)⟩
          · replace c22 := Bool.eq_false_iff.mpr c22
            subst c22
            have H1 : ((impl_ImpliesLabel.f k l1 ((rd_T116 l0_0 t125003).f1)).bind fun t125007 => (some t125007)) = some r := by rw [if_neg (show ¬ (false = true) by decide)] at H; exact H
            clear H
            have H := H1
            clear H1
            replace H := Option.bind_eq_some_iff.mp H
            obtain ⟨t125007, A300, H⟩ := H
            replace H : (some t125007) = some r := H
            have A30 := Aside0.mk A300
            clear A300
            obtain rfl := Option.some.inj H
            go_enter Try.func125, Try.ntmps125
            try go_wp2_with (first | ((with_reducible refine gate_dst (N := 3) rfl ?_); refine box_event ?hg (N := 3) ?hd (cs := #[.slice A0_0 l0_0.length c0_0, .slice A0_1 l0_1.length c0_1, .int .i64 a0_2]) (t := 35) ?hr ?_; (case hd => rfl); (case hg => rfl); (case hr => first | (go_simp; done) | (go_simp; rfl)); intro gb125001 hg w31 hbox hb; have n0_ := Aside0.mk (below_step (by repeat (first | (with_reducible first | exact HB.out | apply below_alloc | apply pw_below_drewN | apply below_drew1) | exact HB.out)) hb); have n1_ := Aside0.mk (hbox); have n2_ := Aside0.mk ((by rw [hg]; exact (below_size (by repeat (first | (with_reducible first | exact HB.out | apply below_alloc | apply pw_below_drewN | apply below_drew1) | exact HB.out))) : w.heap.size ≤ gb125001)); have n3_ := Aside0.mk ((by rw [hg]; exact (below_size (by repeat (first | (with_reducible first | exact HB.out | apply below_alloc | apply pw_below_drewN | apply below_drew1) | exact HB.out))) : w.heap.size ≤ gb125001)); clear HB; have HB := n0_; have BK125001 := n1_; have GW125001 := n2_; have GE125001 := n3_; clear n0_ n1_ n2_ n3_; clear hb hbox hg))
            have n0_ := Aside0.mk (blk_drew BK125001.out)
            have n1_ := Aside0.mk (below_drew1 HB.out)
            clear BK125001
            clear HB
            have BK125001 := n0_
            have HB := n1_
            clear n0_ n1_
            refine start_ (n := 5) (S := fun w' => w'.cell? ⟨gb125001, 0, none⟩ = some (.slice A0_0 l0_0.length c0_0) ∧ w'.cell? ⟨gb125001, 1, none⟩ = some (.slice A0_1 l0_1.length c0_1) ∧ w'.cell? ⟨gb125001, 2, none⟩ = some (.int .i64 a0_2)) (ds := []) #[false, false, false, false, false] (by kernel_rfl) rfl rfl ⟨(blk_cell BK125001.out 0).trans rfl, (blk_cell BK125001.out 1).trans rfl, (blk_cell BK125001.out 2).trans rfl⟩ (fun hHeld => ?_)
            generalize w31.drew = w32 at BK125001 HB hHeld ⊢
            refine pure_ (i := 1) (N := some 10) (v := ?_) (a' := ?_) #[false, true, false, false, false] rfl rfl (by kernel_rfl) (fun _ _ _ h => h) (Or.inl ⟨by rfl, ?_⟩) ?_ ?_
            rotate_left
            · intro w'
              go_simp
              with_reducible rfl
            rotate_left
            · simp only [Act.put, List.setIfInBounds_toArray, List.set_cons_zero, List.set_cons_succ, i64_w, i32_w]
              rfl
            refine take_ (i := 0) (N := some 9) (v := ?_) (a' := ?_) #[true, true, false, false, false] rfl rfl (by kernel_rfl) (fun _ _ _ h => h) (Or.inl ⟨by rfl, ?_⟩) hHeld ?_ ?_
            rotate_left
            · rintro w' ⟨s0, s1, s2⟩
              go_simp
              with_reducible rfl
            rotate_left
            · simp only [Act.put, List.setIfInBounds_toArray, List.set_cons_zero, List.set_cons_succ, i64_w, i32_w]
              rfl
            refine one_ (i := 2) (N := some 11) #[true, true, true, false, false] rfl rfl (by kernel_rfl) (by decide) (fun K hK => ?_)
            refine goes_ Try.func162 (by kernel_rfl) rfl #[.int .i64 a2] (by rfl) rfl rfl (by (try simp only [List.map_toArray, List.map_cons, List.map_nil]); first | done | rfl | (simp only [List.length_drop, List.length_take]; rfl)) ?_
            with_reducible refine (impl_propOf.calls a2 t125002 _ A4.out).mono ?_
            rintro e w33 ⟨rfl, hb⟩
            refine ⟨_, rfl, ?_⟩
            have n0_ := Aside0.mk (blk_below (g := gb125001) (o := .cells #[.slice A0_0 l0_0.length c0_0, .slice A0_1 l0_1.length c0_1, .int .i64 a0_2] 35 (0, 0)) (by (with_reducible repeat (first | refine blk_drewN ?_ _ | refine blk_drew ?_ | refine blk_alloc ?_ _)); exact BK125001.out) hb)
            have n1_ := Aside0.mk (below_step (by repeat (first | (with_reducible first | exact HB.out | apply below_alloc | apply pw_below_drewN | apply below_drew1 | refine below_set ?_ GE125001.out) | exact HB.out)) hb)
            clear BK125001
            clear HB
            have BK125001 := n0_
            have HB := n1_
            clear n0_ n1_
            (try clear hb)
            (try clear hb2)
            (try clear hk)
            (try clear hi)
            refine hK.out _ _ ⟨(blk_cell BK125001.out 0).trans rfl, (blk_cell BK125001.out 1).trans rfl, (blk_cell BK125001.out 2).trans rfl⟩ (fun hHeld => ?_)
            clear hK K
            refine norm_ (a' := ?_) ?_ ?_
            rotate_left
            · show Act.put _ (some 11) _ = _
              simp only [Act.put, List.setIfInBounds_toArray, List.set_cons_zero, List.set_cons_succ, i64_w, i32_w]
              rfl
            refine one_ (i := 3) (N := some 12) #[true, true, true, true, false] rfl rfl (by kernel_rfl) (by decide) (fun K hK => ?_)
            refine goes_ Try.func126 (by kernel_rfl) rfl #[.agg #[.slice A0_0 l0_0.length c0_0, .slice A0_1 l0_1.length c0_1, .int .i64 a0_2], .int .i64 t125002] (by rfl) rfl rfl (by (try simp only [List.map_toArray, List.map_cons, List.map_nil]); first | done | rfl | (simp only [List.length_drop, List.length_take]; rfl)) ?_
            with_reducible refine (impl_watcher.calls _ _ l0_0 _ _ l0_1 a0_2 t125002 t125003 _ ?side1 ?side2 ?side3 ?side4 A5.out).mono ?_
            (case side1 => repeat (first | exact (Kd.C_below HR0_0.out HB.out) | (with_reducible refine Kd.C_alloc ?_ _) | (with_reducible refine Kd.C_drewN ?_ _) | (with_reducible refine Kd.C_drew ?_)))
            (case side2 => exact HC0_0.out)
            (case side3 => repeat (first | exact (Kd.C_below HR0_1.out HB.out) | (with_reducible refine Kd.C_alloc ?_ _) | (with_reducible refine Kd.C_drewN ?_ _) | (with_reducible refine Kd.C_drew ?_)))
            (case side4 => exact HC0_1.out)
            rintro e w34 ⟨rfl, hb⟩
            refine ⟨_, rfl, ?_⟩
            have n0_ := Aside0.mk (blk_below (g := gb125001) (o := .cells #[.slice A0_0 l0_0.length c0_0, .slice A0_1 l0_1.length c0_1, .int .i64 a0_2] 35 (0, 0)) (by (with_reducible repeat (first | refine blk_drewN ?_ _ | refine blk_drew ?_ | refine blk_alloc ?_ _)); exact BK125001.out) hb)
            have n1_ := Aside0.mk (below_step (by repeat (first | (with_reducible first | exact HB.out | apply below_alloc | apply pw_below_drewN | apply below_drew1 | refine below_set ?_ GE125001.out) | exact HB.out)) hb)
            clear BK125001
            clear HB
            have BK125001 := n0_
            have HB := n1_
            clear n0_ n1_
            (try clear hb)
            (try clear hb2)
            (try clear hk)
            (try clear hi)
            refine hK.out _ _ ⟨(blk_cell BK125001.out 0).trans rfl, (blk_cell BK125001.out 1).trans rfl, (blk_cell BK125001.out 2).trans rfl⟩ (fun hHeld => ?_)
            clear hK K
            refine norm_ (a' := ?_) ?_ ?_
            rotate_left
            · show Act.put _ (some 12) _ = _
              simp only [Act.put, List.setIfInBounds_toArray, List.set_cons_zero, List.set_cons_succ, i64_w, i32_w]
              rfl
            refine pure_ (i := 4) (N := some 7) (v := ?_) (a' := ?_) #[true, true, true, true, true] rfl rfl (by kernel_rfl) (fun _ _ _ h => h) (Or.inl ⟨by rfl, ?_⟩) ?_ ?_
            rotate_left
            · intro w'
              go_simp
              with_reducible rfl
            rotate_left
            · simp only [Act.put, List.setIfInBounds_toArray, List.set_cons_zero, List.set_cons_succ, i64_w, i32_w]
              rfl
            refine done_ (by kernel_rfl) ?_
            have hcz35_0 : w34.cell? ⟨gb125001, 0, none⟩ = some (.slice A0_0 l0_0.length c0_0) := (blk_cell BK125001.out 0).trans rfl
            have hcz35_1 : w34.cell? ⟨gb125001, 1, none⟩ = some (.slice A0_1 l0_1.length c0_1) := (blk_cell BK125001.out 1).trans rfl
            have hcz35_2 : w34.cell? ⟨gb125001, 2, none⟩ = some (.int .i64 a0_2) := (blk_cell BK125001.out 2).trans rfl
            have hfz35_0 := blk_frozen BK125001.out 0
            have hfz35_1 := blk_frozen BK125001.out 1
            have hfz35_2 := blk_frozen BK125001.out 2
            have p125004 : 0 ≤ (t125003 : Int) := of_decide_eq_true (by first | (with_reducible assumption) | assumption)
            have q125004 : t125003 < (l0_0.length : Int) := of_decide_eq_true (by first | (with_reducible assumption) | assumption)
            obtain ⟨ad125004, A125004_1, c125004_1, e125004, hx125004_0, hx125004_1, hx125004_2, hl125004_1, hi125004_1⟩ := at_T116 HR0_0.out t125003 p125004 q125004
            cases e125004
            replace hx125004_0 := (HB.out.cell (World.block_lt_of_cell? w _ hx125004_0)).trans hx125004_0
            replace hx125004_1 := (HB.out.cell (World.block_lt_of_cell? w _ hx125004_1)).trans hx125004_1
            replace hx125004_2 := (HB.out.cell (World.block_lt_of_cell? w _ hx125004_2)).trans hx125004_2
            have HR125004_1 := Aside0.mk hi125004_1
            have HC125004_1 := Aside0.mk hl125004_1
            clear hi125004_1 hl125004_1
            replace p125004 := eq_true p125004
            replace q125004 := eq_true q125004
            try go_wp2_with (first | ((with_reducible refine gate_callee (f := 134) rfl ?_); refine goesL_ (some 23) rfl rfl Try.func134 (by kernel_rfl) rfl #[.slice A125004_1 ((rd_T116 l0_0 t125003).f1).length c125004_1, .int .i64 a2] rfl (by (try simp only [List.map_toArray, List.map_cons, List.map_nil]); first | done | rfl | (simp only [List.length_drop, List.length_take]; rfl)) ?_; (with_reducible refine (slices_Contains_int_int.calls _ _ ((rd_T116 l0_0 t125003).f1) a2 false _ ?side1 ?side2 A13.out).mono ?_); (case side1 => repeat (first | exact (Kd.C_below HR125004_1.out HB.out) | (with_reducible refine Kd.C_alloc ?_ _) | (with_reducible refine Kd.C_drewN ?_ _) | (with_reducible refine Kd.C_drew ?_))); (case side2 => exact HC125004_1.out); rintro e w36 ⟨rfl, hb⟩; refine ⟨_, rfl, ?_⟩; have n0_ := Aside0.mk (blk_below (g := gb125001) (o := .cells #[.slice (some ad125004) l0_0.length c0_0, .slice A0_1 l0_1.length c0_1, .int .i64 a0_2] 35 (0, 0)) (by (with_reducible repeat (first | refine blk_drewN ?_ _ | refine blk_drew ?_ | refine blk_alloc ?_ _)); exact BK125001.out) hb); have n1_ := Aside0.mk (below_step (by repeat (first | (with_reducible first | exact HB.out | apply below_alloc | apply pw_below_drewN | apply below_drew1 | refine below_set ?_ GE125001.out) | exact HB.out)) hb); clear BK125001; clear HB; have BK125001 := n0_; have HB := n1_; clear n0_ n1_; (try clear hb); (try clear hb2); (try clear hk); (try clear hi)) | (go_at_call 134; (with_reducible refine (slices_Contains_int_int.calls _ _ ((rd_T116 l0_0 t125003).f1) (wrap64 (-a2)) false _ ?side1 ?side2 A21.out).mono ?_); (case side1 => repeat (first | exact (Kd.C_below HR125004_1.out HB.out) | (with_reducible refine Kd.C_alloc ?_ _) | (with_reducible refine Kd.C_drewN ?_ _) | (with_reducible refine Kd.C_drew ?_))); (case side2 => exact HC125004_1.out); rintro e w37 ⟨rfl, hb⟩; have n0_ := Aside0.mk (blk_below (g := gb125001) (o := .cells #[.slice (some ad125004) l0_0.length c0_0, .slice A0_1 l0_1.length c0_1, .int .i64 a0_2] 35 (0, 0)) (by (with_reducible repeat (first | refine blk_drewN ?_ _ | refine blk_drew ?_ | refine blk_alloc ?_ _)); exact BK125001.out) hb); have n1_ := Aside0.mk (below_step (by repeat (first | (with_reducible first | exact HB.out | apply below_alloc | apply pw_below_drewN | apply below_drew1 | refine below_set ?_ GE125001.out) | exact HB.out)) hb); clear BK125001; clear HB; have BK125001 := n0_; have HB := n1_; clear n0_ n1_; (try clear hb); (try clear hb2); (try clear hk); (try clear hi)) | (go_at_call 163; (with_reducible refine (impl_ImpliesLabel.calls k _ _ l1 _ _ ((rd_T116 l0_0 t125003).f1) t125007 _ ?side1 ?side2 ?side3 ?side4 A30.out).mono ?_); (case side1 => repeat (first | exact (Kd.C_below HR1.out HB.out) | (with_reducible refine Kd.C_alloc ?_ _) | (with_reducible refine Kd.C_drewN ?_ _) | (with_reducible refine Kd.C_drew ?_))); (case side2 => exact HC1.out); (case side3 => repeat (first | exact (Kd.C_below HR125004_1.out HB.out) | (with_reducible refine Kd.C_alloc ?_ _) | (with_reducible refine Kd.C_drewN ?_ _) | (with_reducible refine Kd.C_drew ?_))); (case side4 => exact HC125004_1.out); rintro e w38 ⟨rfl, hb⟩; have n0_ := Aside0.mk (blk_below (g := gb125001) (o := .cells #[.slice (some ad125004) l0_0.length c0_0, .slice A0_1 l0_1.length c0_1, .int .i64 a0_2] 35 (0, 0)) (by (with_reducible repeat (first | refine blk_drewN ?_ _ | refine blk_drew ?_ | refine blk_alloc ?_ _)); exact BK125001.out) hb); have n1_ := Aside0.mk (below_step (by repeat (first | (with_reducible first | exact HB.out | apply below_alloc | apply pw_below_drewN | apply below_drew1 | refine below_set ?_ GE125001.out) | exact HB.out)) hb); clear BK125001; clear HB; have BK125001 := n0_; have HB := n1_; clear n0_ n1_; (try clear hb); (try clear hb2); (try clear hk); (try clear hi)))
            go_ret
            exact ⟨by first | rfl | (simp [errW_none, errW_some] <;> rfl) | (simp [*, errW_none, errW_some] <;> rfl), by repeat (first | (with_reducible first | exact HB.out | apply below_alloc | apply pw_below_drewN | apply below_drew1 | refine below_set ?_ GE125001.out) | exact HB.out)⟩
      · rw [if_neg c12] at H
        exact absurd H (by simp)
    · rw [if_neg c11] at H
      exact absurd H (by simp)

end Go.Proofs.Ytodfnelilhjoeaa.Pr

namespace Go.Proofs.Ytodfnelilhjoeaa.Pr
open Go.RowKit Go.Proofs.YtodfnelilhjoeaaW.PrintWords Go.Proofs.Ytodfnelilhjoeaa.Ni
def watchedC (ns : List PNode) (lb : List Int) (x w : Int) : Bool :=
  decide (0 ≤ w) && !((rd_T116 ns w).f1.any fun y => decide (x = y)) && !((rd_T116 ns w).f1.any fun y => decide (-x = y)) && impB lb (rd_T116 ns w).f1
def watchedB (ns : List PNode) (lb : List Int) (x : Int) : Bool := watchedC ns lb x (pwatchI ns (prp x))
theorem isWatched_f (ns : List PNode) (ts : List PTie) (z : Int) (lb : List Int) (x : Int) (hb : ∀ n ∈ ns, n.f1.length ≤ 9223372036854775807) (hl : lb.length ≤ 9223372036854775807) (hx : litOk x = true) (k : Nat) (hk : 2 ^ 64 ≤ k) :
    impl_isWatched.f k ns ts z lb x = some (watchedB ns lb x) := by
  have hx3 := (litOk_iff x).1 hx
  have hbd := idxOf_bd (fun n : PNode => decide (0 < prp x) && decide (n.f2 = prp x)) ns
  unfold impl_isWatched.f
  rw [propOf_f hx, Option.bind_some]
  unfold impl_watcher.f watchedB watchedC
  rw [Option.bind_some]
  have hbd' : -1 ≤ pwatchI ns (prp x) ∧ pwatchI ns (prp x) < ns.length := hbd
  generalize pwatchI ns (prp x) = w at hbd' ⊢
  by_cases h : w < 0
  · rw [if_pos h, decide_eq_false (show ¬ 0 ≤ w by omega)]; rfl
  · rw [if_neg h, if_pos (by omega), if_pos (by omega), decide_eq_true (show 0 ≤ w by omega)]
    have hm : (rd_T116 ns w).f1.length ≤ 9223372036854775807 := by
      obtain ⟨n, rfl⟩ := Int.eq_ofNat_of_zero_le (show 0 ≤ w by omega)
      rw [show rd_T116 ns (n : Int) = ns.getD n z116 from rdN_nat ns n]
      exact hb _ (getD_mem (by omega) _)
    unfold slices_Contains_int_int.f
    rw [Option.bind_some, wrap_id (i := -x) (by omega) (by omega), impl_ImpliesLabel_f lb _ hl hm k hk]
    simp only [Option.bind_some, Bool.true_and]
    cases (rd_T116 ns w).f1.any fun y => decide (x = y)
    · cases (rd_T116 ns w).f1.any fun y => decide (-x = y)
      · simp
      · rfl
    · rfl
end Go.Proofs.Ytodfnelilhjoeaa.Pr

namespace Go.Proofs.Ytodfnelilhjoeaa.Pr
open Go.RowKit Go.Proofs.YtodfnelilhjoeaaW.PrintWords Go.Proofs.YtodfnelilhjoeaaW.PrintLast Go.Proofs.YtodfnelilhjoeaaW.PrintMore
attribute [local go_sem] max2_int min2_int max_two min_two max_three min_three max_four min_four
set_option linter.unusedVariables false
set_option linter.unusedSimpArgs false

/-! ### impl_Tie_135: function 135 (by hand) -/
-- IMPORT Derived.Deep.LoopGhost
-- IMPORT Derived.Shelf.Abstract
-- IMPORT Derived.Test.YtodfnelilhjoeaaQNice
open Go.Proofs.Ytodfnelilhjoeaa.Ni
set_option maxHeartbeats 4000000 in
theorem impl_Tie_135.any (p : S90 → Bool) (g : Nat) (lb : Array Value) (eg : ∀ args w, (callFunc g args).run Try.prog w = .ok (.enter g args) w) (A0 : Option Addr) (c0 : Nat) (l0 : List S90) (w : World) (hr0 : Kd.C k90 w A0 l0.length l0)
    (hp : ∀ (W : World) (x : S90), x ∈ l0 → Below w.heap.size w W → Calls Try.prog g (#[.agg #[.int .i64 x.f0, .int .i64 x.f1, .int .i64 x.f2, .int .i64 x.f3, .bool x.f4]] ++ lb) W fun e w' => e = .returned (.bool (p x)) ∧ Below W.heap.size W w') :
    Calls Try.prog 135 #[.slice A0 l0.length c0, .func (.func g) #[] lb] w fun e w' => e = .returned (.int .i64 (idxOf p l0)) ∧ Below w.heap.size w w' := by
  have HR0 := Aside0.mk hr0
  have HP := Aside0.mk hp
  clear hr0 hp
  have HL : l0.length ≤ 9223372036854775807 := HR0.out.2.1
  go_enter Try.func135, Try.ntmps135
  go_wp2
  go_loopg [5, 8] l0.length (fun gg _ s8 wr => ∃ kk : Nat, Aside0 (kk ≤ l0.length) ∧ Aside0 (l0.length - kk ≤ gg) ∧ s8 = .int .i64 kk ∧ Aside0 (Below w.heap.size w wr) ∧ Aside0 (∀ j y, j < kk → l0[j]? = some y → p y = false))
  case atStart => exact ⟨0, ⟨Nat.zero_le _⟩, ⟨by omega⟩, rfl, ⟨Below.refl _ _⟩, ⟨fun j y hj => absurd hj (Nat.not_lt_zero _)⟩⟩
  case round =>
    obtain ⟨kk, HK, HG, rfl, HB, HN⟩ := hrel
    by_cases hlt : kk < l0.length
    · have hltz : (kk : Int) < (l0.length : Int) := by omega
      obtain ⟨ad, e1, hx0, hx1, hx2, hx3, hx4⟩ := at_T90 HR0.out (kk : Int) (by omega) hltz
      cases e1
      replace hx0 := (HB.out.cell (World.block_lt_of_cell? w _ hx0)).trans hx0
      rw [Int.toNat_natCast] at hx0
      replace hx1 := (HB.out.cell (World.block_lt_of_cell? w _ hx1)).trans hx1
      rw [Int.toNat_natCast] at hx1
      replace hx2 := (HB.out.cell (World.block_lt_of_cell? w _ hx2)).trans hx2
      rw [Int.toNat_natCast] at hx2
      replace hx3 := (HB.out.cell (World.block_lt_of_cell? w _ hx3)).trans hx3
      rw [Int.toNat_natCast] at hx3
      replace hx4 := (HB.out.cell (World.block_lt_of_cell? w _ hx4)).trans hx4
      rw [Int.toNat_natCast] at hx4
      have hxe : l0[kk]? = some (rd_T90 l0 (kk : Int)) := by
        unfold rd_T90
        rw [Int.toNat_natCast, List.getD_eq_getElem?_getD, List.getElem?_eq_getElem hlt]; rfl

      generalize rd_T90 l0 (kk : Int) = y at hx0 hx1 hx2 hx3 hx4 hxe
      have HX := Aside0.mk hxe
      clear hxe
      have hcall := HP.out wr y (List.mem_of_getElem? HX.out) HB.out

      cases hq : p y with
      | true =>
        have HQ := Aside0.mk hq
        rw [hq] at hcall
        clear hq
        go_wp2_with (go_at_fn g; refine hcall.mono ?_; rintro e w' ⟨rfl, hb⟩)
        go_ret
        exact ⟨by rw [idxOf_hit p l0 kk y HX.out HQ.out HN.out]; rfl, HB.out.trans (hb.mono HB.out.size)⟩
      | false =>
        have HQ := Aside0.mk hq
        rw [hq] at hcall
        clear hq
        go_wp2_with (go_at_fn g; refine hcall.mono ?_; rintro e w' ⟨rfl, hb⟩)
        go_roundg (l0.length - (kk + 1))
        case measure => have := HG.out; omega
        case rel =>
          refine ⟨kk + 1, ⟨by omega⟩, ⟨by omega⟩, by go_num, ⟨HB.out.trans (hb.mono HB.out.size)⟩, ⟨fun j y' hj hy => ?_⟩⟩
          by_cases e : j = kk
          · subst e
            rw [HX.out] at hy
            cases hy
            exact HQ.out
          · exact HN.out j y' (by omega) hy
    · have hltz : ¬ (kk : Int) < (l0.length : Int) := by omega
      have : kk = l0.length := by have := HK.out; omega
      subst this
      go_wp2
      go_ret
      exact ⟨by rw [idxOf_miss p l0 HN.out]; rfl, HB.out⟩

end Go.Proofs.Ytodfnelilhjoeaa.Pr

namespace Go.Proofs.Ytodfnelilhjoeaa.Pr
open Go.RowKit Go.Proofs.YtodfnelilhjoeaaW.PrintWords Go.Proofs.YtodfnelilhjoeaaW.PrintLast Go.Proofs.YtodfnelilhjoeaaW.PrintMore
attribute [local go_sem] max2_int min2_int max_two min_two max_three min_three max_four min_four
set_option linter.unusedVariables false
set_option linter.unusedSimpArgs false

/-! ### impl_Tie_146: function 146 (by hand) -/
-- IMPORT Derived.Test.YtodfnelilhjoeaaQNice
open Go.Proofs.Ytodfnelilhjoeaa.Ni
set_option maxHeartbeats 4000000 in
theorem impl_Tie_146.any (p : S90 → Bool) (g : Nat) (lb : Array Value) (eg : ∀ args w, (callFunc g args).run Try.prog w = .ok (.enter g args) w) (A0 : Option Addr) (c0 : Nat) (l0 : List S90) (w : World) (hr0 : Kd.C k90 w A0 l0.length l0)
    (hp : ∀ (W : World) (x : S90), x ∈ l0 → Below w.heap.size w W → Calls Try.prog g (#[.agg #[.int .i64 x.f0, .int .i64 x.f1, .int .i64 x.f2, .int .i64 x.f3, .bool x.f4]] ++ lb) W fun e w' => e = .returned (.bool (p x)) ∧ Below W.heap.size W w') :
    Calls Try.prog 146 #[.slice A0 l0.length c0, .func (.func g) #[] lb] w fun e w' => e = .returned (.bool (l0.any p)) ∧ Below w.heap.size w w' := by
  have HI := Aside0.mk (impl_Tie_135.any p g lb eg A0 c0 l0 w hr0 hp)
  clear hr0 hp
  have HE := Aside0.mk (idxOf_any p l0)
  go_enter Try.func146, Try.ntmps146
  go_wp2_with (go_at_call 135; refine HI.out.mono ?_; rintro e w' ⟨rfl, hb⟩)
  go_ret
  exact ⟨by rw [← HE.out]; rfl, hb⟩

end Go.Proofs.Ytodfnelilhjoeaa.Pr

namespace Go.Proofs.Ytodfnelilhjoeaa.Pr
open Go.RowKit Go.Proofs.YtodfnelilhjoeaaW.PrintWords Go.Proofs.YtodfnelilhjoeaaW.PrintLast Go.Proofs.YtodfnelilhjoeaaW.PrintMore
attribute [local go_sem] max2_int min2_int max_two min_two max_three min_three max_four min_four
set_option linter.unusedVariables false
set_option linter.unusedSimpArgs false

/-! ### impl_isSpan: function 158 -/
def impl_isSpan.f (a0 : Int) : Option (Bool) := if a0 ≥ (-20) then (some (decide (a0 ≤ 20))) else (some false)
set_option maxHeartbeats 8000000 in
set_option maxRecDepth 100000 in
theorem impl_isSpan.calls (a0 : Int) (r : Bool) (w : World) (h : impl_isSpan.f a0 = some r) :
    Calls Try.prog 158 #[.int .i64 a0] w fun e w' => e = .returned (.bool r) ∧ Drawn0 w w' := by
  have H : (if a0 ≥ (-20) then (some (decide (a0 ≤ 20))) else (some false)) = some r := h
  clear h
  by_cases c2 : a0 ≥ (-20)
  · rw [if_pos c2] at H
    have c2b0 : decide ((-20) ≤ a0) = true := decide_eq_true c2
    clear c2
    obtain rfl := Option.some.inj H
    go_enter Try.func158, Try.ntmps158
    go_wp2
    go_ret
    exact ⟨by first | rfl | (simp; done) | (simp [*]; done), by repeat (first | exact Drawn0.refl _ | apply Drawn0.step)⟩
  · rw [if_neg c2] at H
    have c2b0 : decide ((-20) ≤ a0) = false := decide_eq_false c2
    clear c2
    obtain rfl := Option.some.inj H
    go_enter Try.func158, Try.ntmps158
    go_wp2
    go_ret
    exact ⟨by first | rfl | (simp; done) | (simp [*]; done), by repeat (first | exact Drawn0.refl _ | apply Drawn0.step)⟩

end Go.Proofs.Ytodfnelilhjoeaa.Pr

