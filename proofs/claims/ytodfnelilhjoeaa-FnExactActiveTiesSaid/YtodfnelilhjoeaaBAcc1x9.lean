/- The texts of one claim, put together by a program of this session. -/
import Derived.Deep.LoopGhost
import Derived.Shelf.Abstract
import Derived.Test.YtodfnelilhjoeaaBAcc1x1
import Derived.Test.YtodfnelilhjoeaaBAcc1x4
namespace Go.Proofs.Ytodfnelilhjoeaa.Pr
open Go.RowKit Go.Proofs.YtodfnelilhjoeaaW.PrintWords Go.Proofs.YtodfnelilhjoeaaW.PrintLast Go.Proofs.YtodfnelilhjoeaaW.PrintMore
attribute [local go_sem] max2_int min2_int max_two min_two max_three min_three max_four min_four
set_option linter.unusedVariables false
set_option linter.unusedSimpArgs false

/-! ### impl_active: function 104 -/
def impl_active.l0 : Nat → List Int → List (S90) → Int → Int → Int → List Int → List Int → Option (List Int)
 | 0, _, _, _, _, _, _, _ => none
 | k + 1, x5, x9, x10, x11, x104003000, x104003001, x104003002 => if x11 < x10 then (if 0 ≤ x11 then (if x11 < (x9.length : Int) then (if (rd_T90 x9 x11).f4 = true then (if 0 ≤ ((rd_T90 x9 x11).f0) then (if ((rd_T90 x9 x11).f0) < (x104003001.length : Int) then (if (rd x104003001 ((rd_T90 x9 x11).f0)) = (-1) then (impl_active.l0 k x5 x9 x10 (wrap64 (x11 + 1)) x104003000 x104003001 x104003002) else (if 0 ≤ ((rd_T90 x9 x11).f1) then (if ((rd_T90 x9 x11).f1) < (x104003001.length : Int) then (if (rd x104003001 ((rd_T90 x9 x11).f1)) = (-1) then (if x5.length < 17592186044416 then (impl_active.l0 k (x5 ++ [x11]) x9 x10 (wrap64 (x11 + 1)) x104003000 x104003001 x104003002) else (none)) else (impl_active.l0 k x5 x9 x10 (wrap64 (x11 + 1)) x104003000 x104003001 x104003002)) else (none)) else (none))) else (none)) else (none)) else (impl_active.l0 k x5 x9 x10 (wrap64 (x11 + 1)) x104003000 x104003001 x104003002)) else (none)) else (none)) else (some x5)
def impl_active.f (k : Nat) (l0_0 : List (S116)) (l0_1 : List (S90)) (a0_2 : Int) (a1_0 : Int) (l1_1 : List Int) (l1_2 : List Int) : Option (List Int) := impl_active.l0 k ([] : List Int) l0_1 (l0_1.length : Int) 0 a1_0 l1_1 l1_2
set_option maxHeartbeats 8000000 in
set_option maxRecDepth 100000 in
theorem impl_active.calls (k : Nat) (A0_0 : Option Addr) (c0_0 : Nat) (l0_0 : List (S116)) (A0_1 : Option Addr) (c0_1 : Nat) (l0_1 : List (S90)) (a0_2 : Int) (a1_0 : Int) (A1_1 : Option Addr) (c1_1 : Nat) (l1_1 : List Int) (A1_2 : Option Addr) (c1_2 : Nat) (l1_2 : List Int) (r : List Int) (w : World) (hr0_0 : Kd.C k116 w A0_0 l0_0.length l0_0) (hc0_0 : l0_0.length ≤ c0_0) (hr0_1 : Kd.C k90 w A0_1 l0_1.length l0_1) (hc0_1 : l0_1.length ≤ c0_1) (hr1_1 : Kd.C (Kd.int .i64) w A1_1 l1_1.length l1_1) (hc1_1 : l1_1.length ≤ c1_1) (hr1_2 : Kd.C (Kd.int .i64) w A1_2 l1_2.length l1_2) (hc1_2 : l1_2.length ≤ c1_2) (h : impl_active.f k l0_0 l0_1 a0_2 a1_0 l1_1 l1_2 = some r) :
  Calls Try.prog 104 #[.agg #[.slice A0_0 l0_0.length c0_0, .slice A0_1 l0_1.length c0_1, .int .i64 a0_2], .agg #[.int .i64 a1_0, .slice A1_1 l1_1.length c1_1, .slice A1_2 l1_2.length c1_2]] w fun e w' => ∃ v0_ : Value, e = .returned (v0_) ∧ Kd.R (Kd.int .i64) 3 w' w.heap.size (fun _ => True) v0_ r ∧ Below w.heap.size w w' := by
 have hu35 := Try.underlying35
 have hu66 := Try.underlying66
 have hu90 := Try.underlying90
 have HR0_0 := Aside0.mk hr0_0; have HC0_0 := Aside0.mk hc0_0; clear hr0_0 hc0_0; have HR0_1 := Aside0.mk hr0_1; have HC0_1 := Aside0.mk hc0_1; clear hr0_1 hc0_1; have HR1_1 := Aside0.mk hr1_1; have HC1_1 := Aside0.mk hc1_1; clear hr1_1 hc1_1; have HR1_2 := Aside0.mk hr1_2; have HC1_2 := Aside0.mk hc1_2; clear hr1_2 hc1_2
 have HB := Aside0.mk (Below.refl w.heap.size w)
 have H : (impl_active.l0 k ([] : List Int) l0_1 (l0_1.length : Int) 0 a1_0 l1_1 l1_2) = some r := h
 clear h
 have H' := Aside0.mk H
 clear H
 go_enter Try.func104, Try.ntmps104
 go_wp2_with (first | ((with_reducible refine gate_dst (N := 2) rfl ?_); refine box_event ?hg (N := 2) ?hd (cs := #[.slice A0_0 l0_0.length c0_0, .slice A0_1 l0_1.length c0_1, .int .i64 a0_2]) (t := 35) ?hr ?_; (case hd => rfl); (case hg => rfl); (case hr => first | (go_simp; done) | (go_simp; rfl)); intro gb104001 hg w3 hbox hb; have n0_ := Aside0.mk (below_step (by repeat (first | (with_reducible first | exact HB.out | apply below_alloc | apply pw_below_drewN | apply below_drew1) | exact HB.out)) hb); have n1_ := Aside0.mk (hbox); have n2_ := Aside0.mk ((by rw [hg]; exact (below_size (by repeat (first | (with_reducible first | exact HB.out | apply below_alloc | apply pw_below_drewN | apply below_drew1) | exact HB.out))) : w.heap.size ≤ gb104001)); have n3_ := Aside0.mk ((by rw [hg]; exact (below_size (by repeat (first | (with_reducible first | exact HB.out | apply below_alloc | apply pw_below_drewN | apply below_drew1) | exact HB.out))) : w.heap.size ≤ gb104001)); clear HB; have HB := n0_; have BK104001 := n1_; have GW104001 := n2_; have GE104001 := n3_; clear n0_ n1_ n2_ n3_; clear hb hbox hg) | ((with_reducible refine gate_dst (N := 3) rfl ?_); refine box_event ?hg (N := 3) ?hd (cs := #[.int .i64 a1_0, .slice A1_1 l1_1.length c1_1, .slice A1_2 l1_2.length c1_2]) (t := 66) ?hr ?_; (case hd => rfl); (case hg => rfl); (case hr => first | (go_simp; done) | (go_simp; rfl)); intro gb104002 hg w4 hbox hb; have n0_ := Aside0.mk (blk_below (g := gb104001) (o := .cells #[.slice A0_0 l0_0.length c0_0, .slice A0_1 l0_1.length c0_1, .int .i64 a0_2] 35 (0, 0)) (by (with_reducible repeat (first | refine blk_drewN ?_ _ | refine blk_drew ?_ | refine blk_alloc ?_ _)); exact BK104001.out) hb); have n1_ := Aside0.mk (below_step (by repeat (first | (with_reducible first | exact HB.out | apply below_alloc | apply pw_below_drewN | apply below_drew1 | refine below_set ?_ GE104001.out) | exact HB.out)) hb); have n2_ := Aside0.mk (hbox); have n3_ := Aside0.mk ((by rw [hg]; exact (below_size (by repeat (first | (with_reducible first | exact HB.out | apply below_alloc | apply pw_below_drewN | apply below_drew1 | refine below_set ?_ GE104001.out) | exact HB.out))) : w.heap.size ≤ gb104002)); have n4_ := Aside0.mk ((by rw [hg]; exact (below_size (by repeat (first | (with_reducible first | exact HB.out | apply below_alloc | apply pw_below_drewN | apply below_drew1 | refine below_set ?_ GE104001.out) | exact HB.out))) : w.heap.size ≤ gb104002)); have n5_ := Aside0.mk ((by rw [hg]; exact Nat.ne_of_lt (blk_lt (g := gb104001) (o := .cells #[.slice A0_0 l0_0.length c0_0, .slice A0_1 l0_1.length c0_1, .int .i64 a0_2] 35 (0, 0)) (by (with_reducible repeat (first | refine blk_drewN ?_ _ | refine blk_drew ?_ | refine blk_alloc ?_ _)); exact BK104001.out)) : gb104001 ≠ gb104002)); have n6_ := Aside0.mk ((by rw [hg]; exact Nat.ne_of_gt (blk_lt (g := gb104001) (o := .cells #[.slice A0_0 l0_0.length c0_0, .slice A0_1 l0_1.length c0_1, .int .i64 a0_2] 35 (0, 0)) (by (with_reducible repeat (first | refine blk_drewN ?_ _ | refine blk_drew ?_ | refine blk_alloc ?_ _)); exact BK104001.out)) : gb104002 ≠ gb104001)); clear BK104001; clear HB; have BK104001 := n0_; have HB := n1_; have BK104002 := n2_; have GW104002 := n3_; have GE104002 := n4_; have NB104001_104002 := n5_; have NB104002_104001 := n6_; clear n0_ n1_ n2_ n3_ n4_ n5_ n6_; clear hb hbox hg; have hnb5 := NB104001_104002.out; have hnc5 := NB104002_104001.out; have hcz6_0 : w4.cell? ⟨gb104001, 0, none⟩ = some (.slice A0_0 l0_0.length c0_0) := (blk_cell BK104001.out 0).trans rfl; have hcz6_1 : w4.cell? ⟨gb104001, 1, none⟩ = some (.slice A0_1 l0_1.length c0_1) := (blk_cell BK104001.out 1).trans rfl; have hcz6_2 : w4.cell? ⟨gb104001, 2, none⟩ = some (.int .i64 a0_2) := (blk_cell BK104001.out 2).trans rfl; have hfz6_0 := blk_frozen BK104001.out 0; have hfz6_1 := blk_frozen BK104001.out 1; have hfz6_2 := blk_frozen BK104001.out 2))
 go_loopg [5, 11] k (fun kq v5 v11 w' => ∃ (x5_1 : List Int) (x11_1 : Int), v11 = .int .i64 x11_1 ∧ Aside0 (impl_active.l0 kq x5_1 l0_1 (l0_1.length : Int) x11_1 a1_0 l1_1 l1_2 = some r) ∧ Aside0 (kq ≤ k) ∧ Aside0 (Kd.R (Kd.int .i64) 3 w' w.heap.size (fun _ => True) v5 x5_1) ∧ Aside0 (w'.heap[gb104001]? = some (.cells #[(.slice A0_0 l0_0.length c0_0), (.slice A0_1 l0_1.length c0_1), .int .i64 a0_2] 35 (0, 0))) ∧ Aside0 (w'.heap[gb104002]? = some (.cells #[.int .i64 a1_0, (.slice A1_1 l1_1.length c1_1), (.slice A1_2 l1_2.length c1_2)] 66 (0, 0))) ∧ Aside0 (Below w.heap.size w w'))
 case atStart => exact ⟨(([] : List Int)), (0), (by first | rfl | (simp; done) | (simp [*]; done)), H', ⟨Nat.le_refl _⟩, ⟨by first | exact Kd.R_nil _ _ _ _ _ | exact Kd.N_nil _ _ _ _ _ | exact Kd.V_nil _ _ _ _ _ | exact Kd.Q_nil _ _ _ _ _ | exact Kd.S_nil _ _ _ _ _⟩, ⟨by (with_reducible repeat (first | refine blk_drewN ?_ _ | refine blk_drew ?_ | refine blk_alloc ?_ _)); exact BK104001.out⟩, ⟨by (with_reducible repeat (first | refine blk_drewN ?_ _ | refine blk_drew ?_ | refine blk_alloc ?_ _)); exact BK104002.out⟩, ⟨by repeat (first | (with_reducible first | exact HB.out | apply below_alloc | apply pw_below_drewN | apply below_drew1 | refine below_set ?_ GE104001.out | refine below_set ?_ GE104002.out) | exact HB.out)⟩⟩
 case round =>
  clear H'
  try clear c1
  try clear p2
  try clear c5
  try clear hcz6_0
  try clear hcz6_1
  try clear hcz6_2
  try clear hfz6_0
  try clear hfz6_1
  try clear hfz6_2
  obtain ⟨x5_1, x11_1, rfl, HA, HK1, HO_5, BK104001, BK104002, HB⟩ := hrel
  cases gk with
  | zero => exact absurd HA.out (by simp [impl_active.l0])
  | succ k1 =>
   have H := HA.out
   clear HA
   simp only [impl_active.l0] at H
   by_cases c7 : x11_1 < (l0_1.length : Int)
   ·rw [if_pos c7] at H
    have c7b0 : decide (x11_1 < (l0_1.length : Int)) = true := decide_eq_true c7
    clear c7
    by_cases c8 : 0 ≤ x11_1
    ·rw [if_pos c8] at H
     have c8b0 : decide (0 ≤ x11_1) = true := decide_eq_true c8
     clear c8
     by_cases c9 : x11_1 < (l0_1.length : Int)
     ·rw [if_pos c9] at H
      have c9b0 : decide (x11_1 < (l0_1.length : Int)) = true := decide_eq_true c9
      clear c9
      obtain ⟨bq10, hbq10⟩ : ∃ b_ : Bool, b_ = ((rd_T90 l0_1 x11_1).f4) := ⟨_, rfl⟩
      replace H : (if bq10 = true then (if 0 ≤ ((rd_T90 l0_1 x11_1).f0) then (if ((rd_T90 l0_1 x11_1).f0) < (l1_1.length : Int) then (if (rd l1_1 ((rd_T90 l0_1 x11_1).f0)) = (-1) then (impl_active.l0 k1 x5_1 l0_1 (l0_1.length : Int) (wrap64 (x11_1 + 1)) a1_0 l1_1 l1_2) else (if 0 ≤ ((rd_T90 l0_1 x11_1).f1) then (if ((rd_T90 l0_1 x11_1).f1) < (l1_1.length : Int) then (if (rd l1_1 ((rd_T90 l0_1 x11_1).f1)) = (-1) then (if x5_1.length < 17592186044416 then (impl_active.l0 k1 (x5_1 ++ [x11_1]) l0_1 (l0_1.length : Int) (wrap64 (x11_1 + 1)) a1_0 l1_1 l1_2) else (none)) else (impl_active.l0 k1 x5_1 l0_1 (l0_1.length : Int) (wrap64 (x11_1 + 1)) a1_0 l1_1 l1_2)) else (none)) else (none))) else (none)) else (none)) else (impl_active.l0 k1 x5_1 l0_1 (l0_1.length : Int) (wrap64 (x11_1 + 1)) a1_0 l1_1 l1_2)) = some r := by rw [← hbq10] at H; exact H
      have Nbq10 := Aside0.mk hbq10; clear hbq10
      by_cases c11 : bq10 = true
      ·subst c11
       rw [if_pos rfl] at H
       by_cases c12 : 0 ≤ ((rd_T90 l0_1 x11_1).f0)
       ·rw [if_pos c12] at H
        have c12b0 : decide (0 ≤ ((rd_T90 l0_1 x11_1).f0)) = true := decide_eq_true c12
        clear c12
        by_cases c13 : ((rd_T90 l0_1 x11_1).f0) < (l1_1.length : Int)
        ·rw [if_pos c13] at H
         have c13b0 : decide (((rd_T90 l0_1 x11_1).f0) < (l1_1.length : Int)) = true := decide_eq_true c13
         clear c13
         by_cases c14 : (rd l1_1 ((rd_T90 l0_1 x11_1).f0)) = (-1)
         ·rw [if_pos c14] at H
          have c14b0 : ((rd l1_1 ((rd_T90 l0_1 x11_1).f0)) == (-1)) = true := beq_iff_eq.mpr c14
          have c14b1 : ((rd l1_1 ((rd_T90 l0_1 x11_1).f0)) != (-1)) = false := bne_eq_false_iff_eq.mpr c14
          clear c14
          have H' := Aside0.mk H
          clear H
          have p104003 : 0 ≤ (x11_1 : Int) := of_decide_eq_true (by first | (with_reducible assumption) | assumption)
          have q104003 : x11_1 < (l0_1.length : Int) := of_decide_eq_true (by first | (with_reducible assumption) | assumption)
          obtain ⟨ad104003, e104003, hx104003_0, hx104003_1, hx104003_2, hx104003_3, hx104003_4⟩ := at_T90 HR0_1.out x11_1 p104003 q104003
          (try rw [← Nbq10.out] at hx104003_4)
          cases e104003
          replace hx104003_0 := (HB.out.cell (World.block_lt_of_cell? w _ hx104003_0)).trans hx104003_0
          replace hx104003_1 := (HB.out.cell (World.block_lt_of_cell? w _ hx104003_1)).trans hx104003_1
          replace hx104003_2 := (HB.out.cell (World.block_lt_of_cell? w _ hx104003_2)).trans hx104003_2
          replace hx104003_3 := (HB.out.cell (World.block_lt_of_cell? w _ hx104003_3)).trans hx104003_3
          replace hx104003_4 := (HB.out.cell (World.block_lt_of_cell? w _ hx104003_4)).trans hx104003_4
          replace p104003 := eq_true p104003
          replace q104003 := eq_true q104003
          go_wp2_with (first | ((with_reducible refine gate_dst (N := 7) rfl ?_); refine box_event ?hg (N := 7) ?hd (cs := #[.int .i64 0, .int .i64 0, .int .i64 0, .int .i64 0, .bool false]) (t := 90) ?hr ?_; (case hd => rfl); (case hg => rfl); (case hr => first | (go_simp; done) | (go_simp; rfl)); intro gb104004 hg w15 hbox hb; have n0_ := Aside0.mk (Kd.R_below (by (with_reducible repeat (first | apply Kd.R_alloc | apply Kd.R_drewN | apply Kd.R_drew)); exact HO_5.out) hb); have n1_ := Aside0.mk (blk_below (g := gb104001) (o := .cells #[.slice A0_0 l0_0.length c0_0, .slice (some ad104003) l0_1.length c0_1, .int .i64 a0_2] 35 (0, 0)) (by (with_reducible repeat (first | refine blk_drewN ?_ _ | refine blk_drew ?_ | refine blk_alloc ?_ _)); exact BK104001.out) hb); have n2_ := Aside0.mk (blk_below (g := gb104002) (o := .cells #[.int .i64 a1_0, .slice A1_1 l1_1.length c1_1, .slice A1_2 l1_2.length c1_2] 66 (0, 0)) (by (with_reducible repeat (first | refine blk_drewN ?_ _ | refine blk_drew ?_ | refine blk_alloc ?_ _)); exact BK104002.out) hb); have n3_ := Aside0.mk (below_step (by repeat (first | (with_reducible first | exact HB.out | apply below_alloc | apply pw_below_drewN | apply below_drew1 | refine below_set ?_ GE104001.out | refine below_set ?_ GE104002.out) | exact HB.out)) hb); have n4_ := Aside0.mk (hbox); have n5_ := Aside0.mk ((by rw [hg]; exact (below_size (by repeat (first | (with_reducible first | exact HB.out | apply below_alloc | apply pw_below_drewN | apply below_drew1 | refine below_set ?_ GE104001.out | refine below_set ?_ GE104002.out) | exact HB.out))) : w.heap.size ≤ gb104004)); have n6_ := Aside0.mk ((by rw [hg]; exact (below_size (by repeat (first | (with_reducible first | exact HB.out | apply below_alloc | apply pw_below_drewN | apply below_drew1 | refine below_set ?_ GE104001.out | refine below_set ?_ GE104002.out) | exact HB.out))) : w.heap.size ≤ gb104004)); have n7_ := Aside0.mk ((by rw [hg]; exact Nat.ne_of_lt (blk_lt (g := gb104001) (o := .cells #[.slice A0_0 l0_0.length c0_0, .slice (some ad104003) l0_1.length c0_1, .int .i64 a0_2] 35 (0, 0)) (by (with_reducible repeat (first | refine blk_drewN ?_ _ | refine blk_drew ?_ | refine blk_alloc ?_ _)); exact BK104001.out)) : gb104001 ≠ gb104004)); have n8_ := Aside0.mk ((by rw [hg]; exact Nat.ne_of_gt (blk_lt (g := gb104001) (o := .cells #[.slice A0_0 l0_0.length c0_0, .slice (some ad104003) l0_1.length c0_1, .int .i64 a0_2] 35 (0, 0)) (by (with_reducible repeat (first | refine blk_drewN ?_ _ | refine blk_drew ?_ | refine blk_alloc ?_ _)); exact BK104001.out)) : gb104004 ≠ gb104001)); have n9_ := Aside0.mk ((by rw [hg]; exact Nat.ne_of_lt (blk_lt (g := gb104002) (o := .cells #[.int .i64 a1_0, .slice A1_1 l1_1.length c1_1, .slice A1_2 l1_2.length c1_2] 66 (0, 0)) (by (with_reducible repeat (first | refine blk_drewN ?_ _ | refine blk_drew ?_ | refine blk_alloc ?_ _)); exact BK104002.out)) : gb104002 ≠ gb104004)); have n10_ := Aside0.mk ((by rw [hg]; exact Nat.ne_of_gt (blk_lt (g := gb104002) (o := .cells #[.int .i64 a1_0, .slice A1_1 l1_1.length c1_1, .slice A1_2 l1_2.length c1_2] 66 (0, 0)) (by (with_reducible repeat (first | refine blk_drewN ?_ _ | refine blk_drew ?_ | refine blk_alloc ?_ _)); exact BK104002.out)) : gb104004 ≠ gb104002)); clear HO_5; clear BK104001; clear BK104002; clear HB; have HO_5 := n0_; have BK104001 := n1_; have BK104002 := n2_; have HB := n3_; have BK104004 := n4_; have GW104004 := n5_; have GE104004 := n6_; have NB104001_104004 := n7_; have NB104004_104001 := n8_; have NB104002_104004 := n9_; have NB104004_104002 := n10_; clear n0_ n1_ n2_ n3_ n4_ n5_ n6_ n7_ n8_ n9_ n10_; clear hb hbox hg; have hnb16 := NB104004_104001.out; have hnc16 := NB104001_104004.out; have hnb17 := NB104004_104002.out; have hnc17 := NB104002_104004.out; have hcz18_0 : w15.cell? ⟨gb104004, 0, none⟩ = some (.int .i64 0) := (blk_cell BK104004.out 0).trans rfl; have hcz18_1 : w15.cell? ⟨gb104004, 1, none⟩ = some (.int .i64 0) := (blk_cell BK104004.out 1).trans rfl; have hcz18_2 : w15.cell? ⟨gb104004, 2, none⟩ = some (.int .i64 0) := (blk_cell BK104004.out 2).trans rfl; have hcz18_3 : w15.cell? ⟨gb104004, 3, none⟩ = some (.int .i64 0) := (blk_cell BK104004.out 3).trans rfl; have hcz18_4 : w15.cell? ⟨gb104004, 4, none⟩ = some (.bool false) := (blk_cell BK104004.out 4).trans rfl; have hfz18_0 := blk_frozen BK104004.out 0; have hfz18_1 := blk_frozen BK104004.out 1; have hfz18_2 := blk_frozen BK104004.out 2; have hfz18_3 := blk_frozen BK104004.out 3; have hfz18_4 := blk_frozen BK104004.out 4; have hnb19 := NB104002_104001.out; have hnc19 := NB104001_104002.out; have hcz20_0 : w15.cell? ⟨gb104002, 0, none⟩ = some (.int .i64 a1_0) := (blk_cell BK104002.out 0).trans rfl; have hcz20_1 : w15.cell? ⟨gb104002, 1, none⟩ = some (.slice A1_1 l1_1.length c1_1) := (blk_cell BK104002.out 1).trans rfl; have hcz20_2 : w15.cell? ⟨gb104002, 2, none⟩ = some (.slice A1_2 l1_2.length c1_2) := (blk_cell BK104002.out 2).trans rfl; have hfz20_0 := blk_frozen BK104002.out 0; have hfz20_1 := blk_frozen BK104002.out 1; have hfz20_2 := blk_frozen BK104002.out 2; have p104005 : 0 ≤ (((rd_T90 l0_1 x11_1).f0) : Int) := of_decide_eq_true (by first | (with_reducible assumption) | assumption); have q104005 : ((rd_T90 l0_1 x11_1).f0) < (l1_1.length : Int) := of_decide_eq_true (by first | (with_reducible assumption) | assumption); obtain ⟨ad104005, e104005, hx104005_0⟩ := Kd.at_int HR1_1.out ((rd_T90 l0_1 x11_1).f0) p104005 q104005; cases e104005; have hn104005_0 : ad104005.block ≠ gb104004 := Nat.ne_of_lt (Nat.lt_of_lt_of_le (by have := World.block_lt_of_cell? _ _ hx104005_0; first | rwa [add_block] at this | exact this) GW104004.out); have hn104005_1 : ad104005.block ≠ gb104004 := Nat.ne_of_lt (Nat.lt_of_lt_of_le (by have := World.block_lt_of_cell? _ _ hx104005_0; first | rwa [add_block] at this | exact this) GW104004.out); have hn104005_2 : ad104005.block ≠ gb104004 := Nat.ne_of_lt (Nat.lt_of_lt_of_le (by have := World.block_lt_of_cell? _ _ hx104005_0; first | rwa [add_block] at this | exact this) GW104004.out); have hn104005_3 : ad104005.block ≠ gb104004 := Nat.ne_of_lt (Nat.lt_of_lt_of_le (by have := World.block_lt_of_cell? _ _ hx104005_0; first | rwa [add_block] at this | exact this) GW104004.out); have hn104005_4 : ad104005.block ≠ gb104004 := Nat.ne_of_lt (Nat.lt_of_lt_of_le (by have := World.block_lt_of_cell? _ _ hx104005_0; first | rwa [add_block] at this | exact this) GW104004.out); replace hx104005_0 := (HB.out.cell (World.block_lt_of_cell? w _ hx104005_0)).trans hx104005_0; replace hx104005_0 := (cell_far (p := ⟨gb104004, 0, none⟩) (by first | (rw [add_block]; exact hn104005_0) | (show (Addr.add _ _).block ≠ _; rw [add_block]; exact hn104005_0) | exact hn104005_0) (.int .i64 ((rd_T90 l0_1 x11_1).f0))).trans hx104005_0; replace hx104005_0 := (cell_far (p := ⟨gb104004, 1, none⟩) (by first | (rw [add_block]; exact hn104005_1) | (show (Addr.add _ _).block ≠ _; rw [add_block]; exact hn104005_1) | exact hn104005_1) (.int .i64 ((rd_T90 l0_1 x11_1).f1))).trans hx104005_0; replace hx104005_0 := (cell_far (p := ⟨gb104004, 2, none⟩) (by first | (rw [add_block]; exact hn104005_2) | (show (Addr.add _ _).block ≠ _; rw [add_block]; exact hn104005_2) | exact hn104005_2) (.int .i64 ((rd_T90 l0_1 x11_1).f2))).trans hx104005_0; replace hx104005_0 := (cell_far (p := ⟨gb104004, 3, none⟩) (by first | (rw [add_block]; exact hn104005_3) | (show (Addr.add _ _).block ≠ _; rw [add_block]; exact hn104005_3) | exact hn104005_3) (.int .i64 ((rd_T90 l0_1 x11_1).f3))).trans hx104005_0; replace hx104005_0 := (cell_far (p := ⟨gb104004, 4, none⟩) (by first | (rw [add_block]; exact hn104005_4) | (show (Addr.add _ _).block ≠ _; rw [add_block]; exact hn104005_4) | exact hn104005_4) (.bool true)).trans hx104005_0; clear hn104005_0; clear hn104005_1; clear hn104005_2; clear hn104005_3; clear hn104005_4; replace p104005 := eq_true p104005; replace q104005 := eq_true q104005))
          go_roundg k1
          case measure => have := HK1.out; omega
          case rel => exact ⟨(x5_1), (wrap64 (x11_1 + 1)), (by first | rfl | (simp; done) | (simp [*]; done)), H', ⟨by have := HK1.out; omega⟩, ⟨by (with_reducible repeat (first | apply Kd.R_alloc | apply Kd.R_drewN | apply Kd.R_drew)); exact Kd.R_mono (Kd.R_far (p := ⟨gb104004, 4, none⟩) (Kd.R_far (p := ⟨gb104004, 3, none⟩) (Kd.R_far (p := ⟨gb104004, 2, none⟩) (Kd.R_far (p := ⟨gb104004, 1, none⟩) (Kd.R_far (p := ⟨gb104004, 0, none⟩) (Kd.R_types HO_5.out BK104004.out (by decide)) (fun _ hk => hk.2) (.int .i64 ((rd_T90 l0_1 x11_1).f0))) (fun _ hk => hk.2) (.int .i64 ((rd_T90 l0_1 x11_1).f1))) (fun _ hk => hk.2) (.int .i64 ((rd_T90 l0_1 x11_1).f2))) (fun _ hk => hk.2) (.int .i64 ((rd_T90 l0_1 x11_1).f3))) (fun _ hk => hk.2) (.bool true)) (fun _ hk => trivial)⟩, ⟨by (with_reducible repeat (first | refine blk_drewN ?_ _ | refine blk_drew ?_ | refine blk_alloc ?_ _)); refine blk_far ?_ NB104001_104004.out _; (with_reducible repeat (first | refine blk_drewN ?_ _ | refine blk_drew ?_ | refine blk_alloc ?_ _)); refine blk_far ?_ NB104001_104004.out _; (with_reducible repeat (first | refine blk_drewN ?_ _ | refine blk_drew ?_ | refine blk_alloc ?_ _)); refine blk_far ?_ NB104001_104004.out _; (with_reducible repeat (first | refine blk_drewN ?_ _ | refine blk_drew ?_ | refine blk_alloc ?_ _)); refine blk_far ?_ NB104001_104004.out _; (with_reducible repeat (first | refine blk_drewN ?_ _ | refine blk_drew ?_ | refine blk_alloc ?_ _)); refine blk_far ?_ NB104001_104004.out _; (with_reducible repeat (first | refine blk_drewN ?_ _ | refine blk_drew ?_ | refine blk_alloc ?_ _)); exact BK104001.out⟩, ⟨by (with_reducible repeat (first | refine blk_drewN ?_ _ | refine blk_drew ?_ | refine blk_alloc ?_ _)); refine blk_far ?_ NB104002_104004.out _; (with_reducible repeat (first | refine blk_drewN ?_ _ | refine blk_drew ?_ | refine blk_alloc ?_ _)); refine blk_far ?_ NB104002_104004.out _; (with_reducible repeat (first | refine blk_drewN ?_ _ | refine blk_drew ?_ | refine blk_alloc ?_ _)); refine blk_far ?_ NB104002_104004.out _; (with_reducible repeat (first | refine blk_drewN ?_ _ | refine blk_drew ?_ | refine blk_alloc ?_ _)); refine blk_far ?_ NB104002_104004.out _; (with_reducible repeat (first | refine blk_drewN ?_ _ | refine blk_drew ?_ | refine blk_alloc ?_ _)); refine blk_far ?_ NB104002_104004.out _; (with_reducible repeat (first | refine blk_drewN ?_ _ | refine blk_drew ?_ | refine blk_alloc ?_ _)); exact BK104002.out⟩, ⟨by repeat (first | (with_reducible first | exact HB.out | apply below_alloc | apply pw_below_drewN | apply below_drew1 | refine below_set ?_ GE104001.out | refine below_set ?_ GE104002.out | refine below_set ?_ GE104004.out) | exact HB.out)⟩⟩
         ·rw [if_neg c14] at H
          have c14b0 : ((rd l1_1 ((rd_T90 l0_1 x11_1).f0)) == (-1)) = false := beq_eq_false_iff_ne.mpr c14
          have c14b1 : ((rd l1_1 ((rd_T90 l0_1 x11_1).f0)) != (-1)) = true := bne_iff_ne.mpr c14
          by_cases c21 : 0 ≤ ((rd_T90 l0_1 x11_1).f1)
          ·rw [if_pos c21] at H
           have c21b0 : decide (0 ≤ ((rd_T90 l0_1 x11_1).f1)) = true := decide_eq_true c21
           clear c21
           by_cases c22 : ((rd_T90 l0_1 x11_1).f1) < (l1_1.length : Int)
           ·rw [if_pos c22] at H
            have c22b0 : decide (((rd_T90 l0_1 x11_1).f1) < (l1_1.length : Int)) = true := decide_eq_true c22
            clear c22
            by_cases c23 : (rd l1_1 ((rd_T90 l0_1 x11_1).f1)) = (-1)
            ·rw [if_pos c23] at H
             have c23b0 : ((rd l1_1 ((rd_T90 l0_1 x11_1).f1)) == (-1)) = true := beq_iff_eq.mpr c23
             have c23b1 : ((rd l1_1 ((rd_T90 l0_1 x11_1).f1)) != (-1)) = false := bne_eq_false_iff_eq.mpr c23
             clear c23
             by_cases c24 : x5_1.length < 17592186044416
             ·rw [if_pos c24] at H
              have LMc24 := Aside0.mk c24; clear c24
              obtain ⟨y104007, hy104007⟩ : ∃ y_ : List Int, y_ = (x5_1 ++ [x11_1]) := ⟨_, rfl⟩
              replace H : (impl_active.l0 k1 y104007 l0_1 (l0_1.length : Int) (wrap64 (x11_1 + 1)) a1_0 l1_1 l1_2) = some r := by first | (rw [hy104007]; with_reducible exact H) | (have H2_ := (Option.bind_some _ _).symm.trans H; rw [hy104007]; with_reducible exact H2_) | (have H2_ := (Option.bind_some _ _).symm.trans H; with_reducible exact H2_) | with_reducible exact H | (rw [hy104007]; exact H) | exact H
              have Ny104007 := Aside0.mk hy104007; clear hy104007
              have H' := Aside0.mk H
              clear H
              have p104003 : 0 ≤ (x11_1 : Int) := of_decide_eq_true (by first | (with_reducible assumption) | assumption)
              have q104003 : x11_1 < (l0_1.length : Int) := of_decide_eq_true (by first | (with_reducible assumption) | assumption)
              obtain ⟨ad104003, e104003, hx104003_0, hx104003_1, hx104003_2, hx104003_3, hx104003_4⟩ := at_T90 HR0_1.out x11_1 p104003 q104003
              (try rw [← Nbq10.out] at hx104003_4)
              cases e104003
              replace hx104003_0 := (HB.out.cell (World.block_lt_of_cell? w _ hx104003_0)).trans hx104003_0
              replace hx104003_1 := (HB.out.cell (World.block_lt_of_cell? w _ hx104003_1)).trans hx104003_1
              replace hx104003_2 := (HB.out.cell (World.block_lt_of_cell? w _ hx104003_2)).trans hx104003_2
              replace hx104003_3 := (HB.out.cell (World.block_lt_of_cell? w _ hx104003_3)).trans hx104003_3
              replace hx104003_4 := (HB.out.cell (World.block_lt_of_cell? w _ hx104003_4)).trans hx104003_4
              replace p104003 := eq_true p104003
              replace q104003 := eq_true q104003
              go_wp2_with (first | ((with_reducible refine gate_dst (N := 7) rfl ?_); refine box_event ?hg (N := 7) ?hd (cs := #[.int .i64 0, .int .i64 0, .int .i64 0, .int .i64 0, .bool false]) (t := 90) ?hr ?_; (case hd => rfl); (case hg => rfl); (case hr => first | (go_simp; done) | (go_simp; rfl)); intro gb104004 hg w25 hbox hb; have n0_ := Aside0.mk (Kd.R_below (by (with_reducible repeat (first | apply Kd.R_alloc | apply Kd.R_drewN | apply Kd.R_drew)); exact HO_5.out) hb); have n1_ := Aside0.mk (blk_below (g := gb104001) (o := .cells #[.slice A0_0 l0_0.length c0_0, .slice (some ad104003) l0_1.length c0_1, .int .i64 a0_2] 35 (0, 0)) (by (with_reducible repeat (first | refine blk_drewN ?_ _ | refine blk_drew ?_ | refine blk_alloc ?_ _)); exact BK104001.out) hb); have n2_ := Aside0.mk (blk_below (g := gb104002) (o := .cells #[.int .i64 a1_0, .slice A1_1 l1_1.length c1_1, .slice A1_2 l1_2.length c1_2] 66 (0, 0)) (by (with_reducible repeat (first | refine blk_drewN ?_ _ | refine blk_drew ?_ | refine blk_alloc ?_ _)); exact BK104002.out) hb); have n3_ := Aside0.mk (below_step (by repeat (first | (with_reducible first | exact HB.out | apply below_alloc | apply pw_below_drewN | apply below_drew1 | refine below_set ?_ GE104001.out | refine below_set ?_ GE104002.out) | exact HB.out)) hb); have n4_ := Aside0.mk (hbox); have n5_ := Aside0.mk ((by rw [hg]; exact (below_size (by repeat (first | (with_reducible first | exact HB.out | apply below_alloc | apply pw_below_drewN | apply below_drew1 | refine below_set ?_ GE104001.out | refine below_set ?_ GE104002.out) | exact HB.out))) : w.heap.size ≤ gb104004)); have n6_ := Aside0.mk ((by rw [hg]; exact (below_size (by repeat (first | (with_reducible first | exact HB.out | apply below_alloc | apply pw_below_drewN | apply below_drew1 | refine below_set ?_ GE104001.out | refine below_set ?_ GE104002.out) | exact HB.out))) : w.heap.size ≤ gb104004)); have n7_ := Aside0.mk ((by rw [hg]; exact Nat.ne_of_lt (blk_lt (g := gb104001) (o := .cells #[.slice A0_0 l0_0.length c0_0, .slice (some ad104003) l0_1.length c0_1, .int .i64 a0_2] 35 (0, 0)) (by (with_reducible repeat (first | refine blk_drewN ?_ _ | refine blk_drew ?_ | refine blk_alloc ?_ _)); exact BK104001.out)) : gb104001 ≠ gb104004)); have n8_ := Aside0.mk ((by rw [hg]; exact Nat.ne_of_gt (blk_lt (g := gb104001) (o := .cells #[.slice A0_0 l0_0.length c0_0, .slice (some ad104003) l0_1.length c0_1, .int .i64 a0_2] 35 (0, 0)) (by (with_reducible repeat (first | refine blk_drewN ?_ _ | refine blk_drew ?_ | refine blk_alloc ?_ _)); exact BK104001.out)) : gb104004 ≠ gb104001)); have n9_ := Aside0.mk ((by rw [hg]; exact Nat.ne_of_lt (blk_lt (g := gb104002) (o := .cells #[.int .i64 a1_0, .slice A1_1 l1_1.length c1_1, .slice A1_2 l1_2.length c1_2] 66 (0, 0)) (by (with_reducible repeat (first | refine blk_drewN ?_ _ | refine blk_drew ?_ | refine blk_alloc ?_ _)); exact BK104002.out)) : gb104002 ≠ gb104004)); have n10_ := Aside0.mk ((by rw [hg]; exact Nat.ne_of_gt (blk_lt (g := gb104002) (o := .cells #[.int .i64 a1_0, .slice A1_1 l1_1.length c1_1, .slice A1_2 l1_2.length c1_2] 66 (0, 0)) (by (with_reducible repeat (first | refine blk_drewN ?_ _ | refine blk_drew ?_ | refine blk_alloc ?_ _)); exact BK104002.out)) : gb104004 ≠ gb104002)); clear HO_5; clear BK104001; clear BK104002; clear HB; have HO_5 := n0_; have BK104001 := n1_; have BK104002 := n2_; have HB := n3_; have BK104004 := n4_; have GW104004 := n5_; have GE104004 := n6_; have NB104001_104004 := n7_; have NB104004_104001 := n8_; have NB104002_104004 := n9_; have NB104004_104002 := n10_; clear n0_ n1_ n2_ n3_ n4_ n5_ n6_ n7_ n8_ n9_ n10_; clear hb hbox hg; have hnb26 := NB104004_104001.out; have hnc26 := NB104001_104004.out; have hnb27 := NB104004_104002.out; have hnc27 := NB104002_104004.out; have hcz28_0 : w25.cell? ⟨gb104004, 0, none⟩ = some (.int .i64 0) := (blk_cell BK104004.out 0).trans rfl; have hcz28_1 : w25.cell? ⟨gb104004, 1, none⟩ = some (.int .i64 0) := (blk_cell BK104004.out 1).trans rfl; have hcz28_2 : w25.cell? ⟨gb104004, 2, none⟩ = some (.int .i64 0) := (blk_cell BK104004.out 2).trans rfl; have hcz28_3 : w25.cell? ⟨gb104004, 3, none⟩ = some (.int .i64 0) := (blk_cell BK104004.out 3).trans rfl; have hcz28_4 : w25.cell? ⟨gb104004, 4, none⟩ = some (.bool false) := (blk_cell BK104004.out 4).trans rfl; have hfz28_0 := blk_frozen BK104004.out 0; have hfz28_1 := blk_frozen BK104004.out 1; have hfz28_2 := blk_frozen BK104004.out 2; have hfz28_3 := blk_frozen BK104004.out 3; have hfz28_4 := blk_frozen BK104004.out 4; have hnb29 := NB104002_104001.out; have hnc29 := NB104001_104002.out; have hcz30_0 : w25.cell? ⟨gb104002, 0, none⟩ = some (.int .i64 a1_0) := (blk_cell BK104002.out 0).trans rfl; have hcz30_1 : w25.cell? ⟨gb104002, 1, none⟩ = some (.slice A1_1 l1_1.length c1_1) := (blk_cell BK104002.out 1).trans rfl; have hcz30_2 : w25.cell? ⟨gb104002, 2, none⟩ = some (.slice A1_2 l1_2.length c1_2) := (blk_cell BK104002.out 2).trans rfl; have hfz30_0 := blk_frozen BK104002.out 0; have hfz30_1 := blk_frozen BK104002.out 1; have hfz30_2 := blk_frozen BK104002.out 2; have p104005 : 0 ≤ (((rd_T90 l0_1 x11_1).f0) : Int) := of_decide_eq_true (by first | (with_reducible assumption) | assumption); have q104005 : ((rd_T90 l0_1 x11_1).f0) < (l1_1.length : Int) := of_decide_eq_true (by first | (with_reducible assumption) | assumption); obtain ⟨ad104005, e104005, hx104005_0⟩ := Kd.at_int HR1_1.out ((rd_T90 l0_1 x11_1).f0) p104005 q104005; cases e104005; have hn104005_0 : ad104005.block ≠ gb104004 := Nat.ne_of_lt (Nat.lt_of_lt_of_le (by have := World.block_lt_of_cell? _ _ hx104005_0; first | rwa [add_block] at this | exact this) GW104004.out); have hn104005_1 : ad104005.block ≠ gb104004 := Nat.ne_of_lt (Nat.lt_of_lt_of_le (by have := World.block_lt_of_cell? _ _ hx104005_0; first | rwa [add_block] at this | exact this) GW104004.out); have hn104005_2 : ad104005.block ≠ gb104004 := Nat.ne_of_lt (Nat.lt_of_lt_of_le (by have := World.block_lt_of_cell? _ _ hx104005_0; first | rwa [add_block] at this | exact this) GW104004.out); have hn104005_3 : ad104005.block ≠ gb104004 := Nat.ne_of_lt (Nat.lt_of_lt_of_le (by have := World.block_lt_of_cell? _ _ hx104005_0; first | rwa [add_block] at this | exact this) GW104004.out); have hn104005_4 : ad104005.block ≠ gb104004 := Nat.ne_of_lt (Nat.lt_of_lt_of_le (by have := World.block_lt_of_cell? _ _ hx104005_0; first | rwa [add_block] at this | exact this) GW104004.out); replace hx104005_0 := (HB.out.cell (World.block_lt_of_cell? w _ hx104005_0)).trans hx104005_0; replace hx104005_0 := (cell_far (p := ⟨gb104004, 0, none⟩) (by first | (rw [add_block]; exact hn104005_0) | (show (Addr.add _ _).block ≠ _; rw [add_block]; exact hn104005_0) | exact hn104005_0) (.int .i64 ((rd_T90 l0_1 x11_1).f0))).trans hx104005_0; replace hx104005_0 := (cell_far (p := ⟨gb104004, 1, none⟩) (by first | (rw [add_block]; exact hn104005_1) | (show (Addr.add _ _).block ≠ _; rw [add_block]; exact hn104005_1) | exact hn104005_1) (.int .i64 ((rd_T90 l0_1 x11_1).f1))).trans hx104005_0; replace hx104005_0 := (cell_far (p := ⟨gb104004, 2, none⟩) (by first | (rw [add_block]; exact hn104005_2) | (show (Addr.add _ _).block ≠ _; rw [add_block]; exact hn104005_2) | exact hn104005_2) (.int .i64 ((rd_T90 l0_1 x11_1).f2))).trans hx104005_0; replace hx104005_0 := (cell_far (p := ⟨gb104004, 3, none⟩) (by first | (rw [add_block]; exact hn104005_3) | (show (Addr.add _ _).block ≠ _; rw [add_block]; exact hn104005_3) | exact hn104005_3) (.int .i64 ((rd_T90 l0_1 x11_1).f3))).trans hx104005_0; replace hx104005_0 := (cell_far (p := ⟨gb104004, 4, none⟩) (by first | (rw [add_block]; exact hn104005_4) | (show (Addr.add _ _).block ≠ _; rw [add_block]; exact hn104005_4) | exact hn104005_4) (.bool true)).trans hx104005_0; clear hn104005_0; clear hn104005_1; clear hn104005_2; clear hn104005_3; clear hn104005_4; replace p104005 := eq_true p104005; replace q104005 := eq_true q104005; have p104006 : 0 ≤ (((rd_T90 l0_1 x11_1).f1) : Int) := of_decide_eq_true (by first | (with_reducible assumption) | assumption); have q104006 : ((rd_T90 l0_1 x11_1).f1) < (l1_1.length : Int) := of_decide_eq_true (by first | (with_reducible assumption) | assumption); obtain ⟨ad104006, e104006, hx104006_0⟩ := Kd.at_int HR1_1.out ((rd_T90 l0_1 x11_1).f1) p104006 q104006; obtain rfl : ad104005 = ad104006 := (by injection e104006); have hn104006_0 : ad104005.block ≠ gb104004 := Nat.ne_of_lt (Nat.lt_of_lt_of_le (by have := World.block_lt_of_cell? _ _ hx104006_0; first | rwa [add_block] at this | exact this) GW104004.out); have hn104006_1 : ad104005.block ≠ gb104004 := Nat.ne_of_lt (Nat.lt_of_lt_of_le (by have := World.block_lt_of_cell? _ _ hx104006_0; first | rwa [add_block] at this | exact this) GW104004.out); have hn104006_2 : ad104005.block ≠ gb104004 := Nat.ne_of_lt (Nat.lt_of_lt_of_le (by have := World.block_lt_of_cell? _ _ hx104006_0; first | rwa [add_block] at this | exact this) GW104004.out); have hn104006_3 : ad104005.block ≠ gb104004 := Nat.ne_of_lt (Nat.lt_of_lt_of_le (by have := World.block_lt_of_cell? _ _ hx104006_0; first | rwa [add_block] at this | exact this) GW104004.out); have hn104006_4 : ad104005.block ≠ gb104004 := Nat.ne_of_lt (Nat.lt_of_lt_of_le (by have := World.block_lt_of_cell? _ _ hx104006_0; first | rwa [add_block] at this | exact this) GW104004.out); replace hx104006_0 := (HB.out.cell (World.block_lt_of_cell? w _ hx104006_0)).trans hx104006_0; replace hx104006_0 := (cell_far (p := ⟨gb104004, 0, none⟩) (by first | (rw [add_block]; exact hn104006_0) | (show (Addr.add _ _).block ≠ _; rw [add_block]; exact hn104006_0) | exact hn104006_0) (.int .i64 ((rd_T90 l0_1 x11_1).f0))).trans hx104006_0; replace hx104006_0 := (cell_far (p := ⟨gb104004, 1, none⟩) (by first | (rw [add_block]; exact hn104006_1) | (show (Addr.add _ _).block ≠ _; rw [add_block]; exact hn104006_1) | exact hn104006_1) (.int .i64 ((rd_T90 l0_1 x11_1).f1))).trans hx104006_0; replace hx104006_0 := (cell_far (p := ⟨gb104004, 2, none⟩) (by first | (rw [add_block]; exact hn104006_2) | (show (Addr.add _ _).block ≠ _; rw [add_block]; exact hn104006_2) | exact hn104006_2) (.int .i64 ((rd_T90 l0_1 x11_1).f2))).trans hx104006_0; replace hx104006_0 := (cell_far (p := ⟨gb104004, 3, none⟩) (by first | (rw [add_block]; exact hn104006_3) | (show (Addr.add _ _).block ≠ _; rw [add_block]; exact hn104006_3) | exact hn104006_3) (.int .i64 ((rd_T90 l0_1 x11_1).f3))).trans hx104006_0; replace hx104006_0 := (cell_far (p := ⟨gb104004, 4, none⟩) (by first | (rw [add_block]; exact hn104006_4) | (show (Addr.add _ _).block ≠ _; rw [add_block]; exact hn104006_4) | exact hn104006_4) (.bool true)).trans hx104006_0; clear hn104006_0; clear hn104006_1; clear hn104006_2; clear hn104006_3; clear hn104006_4; replace p104006 := eq_true p104006; replace q104006 := eq_true q104006) | ((with_reducible refine gate_builtin (b := .append) (xs := #[.tmp 36, .tmp 38]) rfl ?_); at_builtin; refine Kd.R_append (Kd.int .i64) (w0 := w) w.heap.size rfl (.tmp 36) (.tmp 38) 26 3 (.int .i64 0) 8 rfl Try.underlying26 info3 rfl (by decide) (by omega) u5 x5_1 x11_1 [.int .i64 x11_1] (fun _ => True) (fun _ => False) rfl (by first | (go_simp; done) | (go_simp; rfl)) ?aP (fun _ hk => hk.elim) ?aF ?aO ?aB ?aS ?aL ?_; (case aP => exact rfl); (case aB => exact (by repeat (first | (with_reducible first | exact HB.out | apply below_alloc | apply pw_below_drewN | apply below_drew1 | refine below_set ?_ GE104001.out | refine below_set ?_ GE104002.out | refine below_set ?_ GE104004.out) | exact HB.out))); (case aF => exact (fun _ _ => trivial)); (case aO => exact (by (with_reducible repeat (first | apply Kd.R_alloc | apply Kd.R_drewN | apply Kd.R_drew)); exact Kd.R_mono (Kd.R_far (p := ⟨gb104004, 4, none⟩) (Kd.R_far (p := ⟨gb104004, 3, none⟩) (Kd.R_far (p := ⟨gb104004, 2, none⟩) (Kd.R_far (p := ⟨gb104004, 1, none⟩) (Kd.R_far (p := ⟨gb104004, 0, none⟩) (Kd.R_types HO_5.out BK104004.out (by decide)) (fun _ hk => hk.2) (.int .i64 ((rd_T90 l0_1 x11_1).f0))) (fun _ hk => hk.2) (.int .i64 ((rd_T90 l0_1 x11_1).f1))) (fun _ hk => hk.2) (.int .i64 ((rd_T90 l0_1 x11_1).f2))) (fun _ hk => hk.2) (.int .i64 ((rd_T90 l0_1 x11_1).f3))) (fun _ hk => hk.2) (.bool true)) (fun _ hk => trivial))); (case aS => exact (below_size (by repeat (first | (with_reducible first | exact HB.out | apply below_alloc | apply pw_below_drewN | apply below_drew1 | refine below_set ?_ GE104001.out | refine below_set ?_ GE104002.out | refine below_set ?_ GE104004.out) | exact HB.out)))); (case aL => have := LMc24.out; omega); intro v104008 w31 ho hb hg hat; rw [← Ny104007.out] at ho; have n0_ := Aside0.mk (blk_grown (g := gb104001) (o := .cells #[.slice A0_0 l0_0.length c0_0, .slice (some ad104003) l0_1.length c0_1, .int .i64 a0_2] 35 (0, 0)) (by (with_reducible repeat (first | refine blk_drewN ?_ _ | refine blk_drew ?_ | refine blk_alloc ?_ _)); refine blk_far ?_ NB104001_104004.out _; (with_reducible repeat (first | refine blk_drewN ?_ _ | refine blk_drew ?_ | refine blk_alloc ?_ _)); refine blk_far ?_ NB104001_104004.out _; (with_reducible repeat (first | refine blk_drewN ?_ _ | refine blk_drew ?_ | refine blk_alloc ?_ _)); refine blk_far ?_ NB104001_104004.out _; (with_reducible repeat (first | refine blk_drewN ?_ _ | refine blk_drew ?_ | refine blk_alloc ?_ _)); refine blk_far ?_ NB104001_104004.out _; (with_reducible repeat (first | refine blk_drewN ?_ _ | refine blk_drew ?_ | refine blk_alloc ?_ _)); refine blk_far ?_ NB104001_104004.out _; (with_reducible repeat (first | refine blk_drewN ?_ _ | refine blk_drew ?_ | refine blk_alloc ?_ _)); exact BK104001.out) hg (Kd.R_ne HO_5.out BK104001.out (by decide))); have n1_ := Aside0.mk (blk_grown (g := gb104002) (o := .cells #[.int .i64 a1_0, .slice (some ad104005) l1_1.length c1_1, .slice A1_2 l1_2.length c1_2] 66 (0, 0)) (by (with_reducible repeat (first | refine blk_drewN ?_ _ | refine blk_drew ?_ | refine blk_alloc ?_ _)); refine blk_far ?_ NB104002_104004.out _; (with_reducible repeat (first | refine blk_drewN ?_ _ | refine blk_drew ?_ | refine blk_alloc ?_ _)); refine blk_far ?_ NB104002_104004.out _; (with_reducible repeat (first | refine blk_drewN ?_ _ | refine blk_drew ?_ | refine blk_alloc ?_ _)); refine blk_far ?_ NB104002_104004.out _; (with_reducible repeat (first | refine blk_drewN ?_ _ | refine blk_drew ?_ | refine blk_alloc ?_ _)); refine blk_far ?_ NB104002_104004.out _; (with_reducible repeat (first | refine blk_drewN ?_ _ | refine blk_drew ?_ | refine blk_alloc ?_ _)); refine blk_far ?_ NB104002_104004.out _; (with_reducible repeat (first | refine blk_drewN ?_ _ | refine blk_drew ?_ | refine blk_alloc ?_ _)); exact BK104002.out) hg (Kd.R_ne HO_5.out BK104002.out (by decide))); have n2_ := Aside0.mk (blk_grown (g := gb104004) (o := .cells #[.int .i64 ((rd_T90 l0_1 x11_1).f0), .int .i64 ((rd_T90 l0_1 x11_1).f1), .int .i64 ((rd_T90 l0_1 x11_1).f2), .int .i64 ((rd_T90 l0_1 x11_1).f3), .bool true] 90 (0, 0)) (by (with_reducible repeat (first | refine blk_drewN ?_ _ | refine blk_drew ?_ | refine blk_alloc ?_ _)); refine blk_put (cs := #[.int .i64 ((rd_T90 l0_1 x11_1).f0), .int .i64 ((rd_T90 l0_1 x11_1).f1), .int .i64 ((rd_T90 l0_1 x11_1).f2), .int .i64 ((rd_T90 l0_1 x11_1).f3), .bool false]) ?_ 4 _ rfl; (with_reducible repeat (first | refine blk_drewN ?_ _ | refine blk_drew ?_ | refine blk_alloc ?_ _)); refine blk_put (cs := #[.int .i64 ((rd_T90 l0_1 x11_1).f0), .int .i64 ((rd_T90 l0_1 x11_1).f1), .int .i64 ((rd_T90 l0_1 x11_1).f2), .int .i64 0, .bool false]) ?_ 3 _ rfl; (with_reducible repeat (first | refine blk_drewN ?_ _ | refine blk_drew ?_ | refine blk_alloc ?_ _)); refine blk_put (cs := #[.int .i64 ((rd_T90 l0_1 x11_1).f0), .int .i64 ((rd_T90 l0_1 x11_1).f1), .int .i64 0, .int .i64 0, .bool false]) ?_ 2 _ rfl; (with_reducible repeat (first | refine blk_drewN ?_ _ | refine blk_drew ?_ | refine blk_alloc ?_ _)); refine blk_put (cs := #[.int .i64 ((rd_T90 l0_1 x11_1).f0), .int .i64 0, .int .i64 0, .int .i64 0, .bool false]) ?_ 1 _ rfl; (with_reducible repeat (first | refine blk_drewN ?_ _ | refine blk_drew ?_ | refine blk_alloc ?_ _)); refine blk_put (cs := #[.int .i64 0, .int .i64 0, .int .i64 0, .int .i64 0, .bool false]) ?_ 0 _ rfl; (with_reducible repeat (first | refine blk_drewN ?_ _ | refine blk_drew ?_ | refine blk_alloc ?_ _)); exact BK104004.out) hg (Kd.R_ne HO_5.out BK104004.out (by decide))); have n3_ := Aside0.mk (hb); have n4_ := Aside0.mk (ho); clear BK104001; clear BK104002; clear BK104004; clear HB; clear HO_5; have BK104001 := n0_; have BK104002 := n1_; have BK104004 := n2_; have HB := n3_; have HO104009 := n4_; clear n0_ n1_ n2_ n3_ n4_; clear ho hb hg hat))
              go_roundg k1
              case measure => have := HK1.out; omega
              case rel => exact ⟨(y104007), (wrap64 (x11_1 + 1)), (by first | rfl | (simp; done) | (simp [*]; done)), H', ⟨by have := HK1.out; omega⟩, ⟨by (with_reducible repeat (first | apply Kd.R_alloc | apply Kd.R_drewN | apply Kd.R_drew)); exact HO104009.out⟩, ⟨by (with_reducible repeat (first | refine blk_drewN ?_ _ | refine blk_drew ?_ | refine blk_alloc ?_ _)); exact BK104001.out⟩, ⟨by (with_reducible repeat (first | refine blk_drewN ?_ _ | refine blk_drew ?_ | refine blk_alloc ?_ _)); exact BK104002.out⟩, ⟨by repeat (first | (with_reducible first | exact HB.out | apply below_alloc | apply pw_below_drewN | apply below_drew1 | refine below_set ?_ GE104001.out | refine below_set ?_ GE104002.out | refine below_set ?_ GE104004.out) | exact HB.out)⟩⟩
             ·rw [if_neg c24] at H
              exact absurd H (by simp)
            ·rw [if_neg c23] at H
             have c23b0 : ((rd l1_1 ((rd_T90 l0_1 x11_1).f1)) == (-1)) = false := beq_eq_false_iff_ne.mpr c23
             have c23b1 : ((rd l1_1 ((rd_T90 l0_1 x11_1).f1)) != (-1)) = true := bne_iff_ne.mpr c23
             have H' := Aside0.mk H
             clear H
             have p104003 : 0 ≤ (x11_1 : Int) := of_decide_eq_true (by first | (with_reducible assumption) | assumption)
             have q104003 : x11_1 < (l0_1.length : Int) := of_decide_eq_true (by first | (with_reducible assumption) | assumption)
             obtain ⟨ad104003, e104003, hx104003_0, hx104003_1, hx104003_2, hx104003_3, hx104003_4⟩ := at_T90 HR0_1.out x11_1 p104003 q104003
             (try rw [← Nbq10.out] at hx104003_4)
             cases e104003
             replace hx104003_0 := (HB.out.cell (World.block_lt_of_cell? w _ hx104003_0)).trans hx104003_0
             replace hx104003_1 := (HB.out.cell (World.block_lt_of_cell? w _ hx104003_1)).trans hx104003_1
             replace hx104003_2 := (HB.out.cell (World.block_lt_of_cell? w _ hx104003_2)).trans hx104003_2
             replace hx104003_3 := (HB.out.cell (World.block_lt_of_cell? w _ hx104003_3)).trans hx104003_3
             replace hx104003_4 := (HB.out.cell (World.block_lt_of_cell? w _ hx104003_4)).trans hx104003_4
             replace p104003 := eq_true p104003
             replace q104003 := eq_true q104003
             go_wp2_with (first | ((with_reducible refine gate_dst (N := 7) rfl ?_); refine box_event ?hg (N := 7) ?hd (cs := #[.int .i64 0, .int .i64 0, .int .i64 0, .int .i64 0, .bool false]) (t := 90) ?hr ?_; (case hd => rfl); (case hg => rfl); (case hr => first | (go_simp; done) | (go_simp; rfl)); intro gb104004 hg w32 hbox hb; have n0_ := Aside0.mk (Kd.R_below (by (with_reducible repeat (first | apply Kd.R_alloc | apply Kd.R_drewN | apply Kd.R_drew)); exact HO_5.out) hb); have n1_ := Aside0.mk (blk_below (g := gb104001) (o := .cells #[.slice A0_0 l0_0.length c0_0, .slice (some ad104003) l0_1.length c0_1, .int .i64 a0_2] 35 (0, 0)) (by (with_reducible repeat (first | refine blk_drewN ?_ _ | refine blk_drew ?_ | refine blk_alloc ?_ _)); exact BK104001.out) hb); have n2_ := Aside0.mk (blk_below (g := gb104002) (o := .cells #[.int .i64 a1_0, .slice A1_1 l1_1.length c1_1, .slice A1_2 l1_2.length c1_2] 66 (0, 0)) (by (with_reducible repeat (first | refine blk_drewN ?_ _ | refine blk_drew ?_ | refine blk_alloc ?_ _)); exact BK104002.out) hb); have n3_ := Aside0.mk (below_step (by repeat (first | (with_reducible first | exact HB.out | apply below_alloc | apply pw_below_drewN | apply below_drew1 | refine below_set ?_ GE104001.out | refine below_set ?_ GE104002.out) | exact HB.out)) hb); have n4_ := Aside0.mk (hbox); have n5_ := Aside0.mk ((by rw [hg]; exact (below_size (by repeat (first | (with_reducible first | exact HB.out | apply below_alloc | apply pw_below_drewN | apply below_drew1 | refine below_set ?_ GE104001.out | refine below_set ?_ GE104002.out) | exact HB.out))) : w.heap.size ≤ gb104004)); have n6_ := Aside0.mk ((by rw [hg]; exact (below_size (by repeat (first | (with_reducible first | exact HB.out | apply below_alloc | apply pw_below_drewN | apply below_drew1 | refine below_set ?_ GE104001.out | refine below_set ?_ GE104002.out) | exact HB.out))) : w.heap.size ≤ gb104004)); have n7_ := Aside0.mk ((by rw [hg]; exact Nat.ne_of_lt (blk_lt (g := gb104001) (o := .cells #[.slice A0_0 l0_0.length c0_0, .slice (some ad104003) l0_1.length c0_1, .int .i64 a0_2] 35 (0, 0)) (by (with_reducible repeat (first | refine blk_drewN ?_ _ | refine blk_drew ?_ | refine blk_alloc ?_ _)); exact BK104001.out)) : gb104001 ≠ gb104004)); have n8_ := Aside0.mk ((by rw [hg]; exact Nat.ne_of_gt (blk_lt (g := gb104001) (o := .cells #[.slice A0_0 l0_0.length c0_0, .slice (some ad104003) l0_1.length c0_1, .int .i64 a0_2] 35 (0, 0)) (by (with_reducible repeat (first | refine blk_drewN ?_ _ | refine blk_drew ?_ | refine blk_alloc ?_ _)); exact BK104001.out)) : gb104004 ≠ gb104001)); have n9_ := Aside0.mk ((by rw [hg]; exact Nat.ne_of_lt (blk_lt (g := gb104002) (o := .cells #[.int .i64 a1_0, .slice A1_1 l1_1.length c1_1, .slice A1_2 l1_2.length c1_2] 66 (0, 0)) (by (with_reducible repeat (first | refine blk_drewN ?_ _ | refine blk_drew ?_ | refine blk_alloc ?_ _)); exact BK104002.out)) : gb104002 ≠ gb104004)); have n10_ := Aside0.mk ((by rw [hg]; exact Nat.ne_of_gt (blk_lt (g := gb104002) (o := .cells #[.int .i64 a1_0, .slice A1_1 l1_1.length c1_1, .slice A1_2 l1_2.length c1_2] 66 (0, 0)) (by (with_reducible repeat (first | refine blk_drewN ?_ _ | refine blk_drew ?_ | refine blk_alloc ?_ _)); exact BK104002.out)) : gb104004 ≠ gb104002)); clear HO_5; clear BK104001; clear BK104002; clear HB; have HO_5 := n0_; have BK104001 := n1_; have BK104002 := n2_; have HB := n3_; have BK104004 := n4_; have GW104004 := n5_; have GE104004 := n6_; have NB104001_104004 := n7_; have NB104004_104001 := n8_; have NB104002_104004 := n9_; have NB104004_104002 := n10_; clear n0_ n1_ n2_ n3_ n4_ n5_ n6_ n7_ n8_ n9_ n10_; clear hb hbox hg; have hnb33 := NB104004_104001.out; have hnc33 := NB104001_104004.out; have hnb34 := NB104004_104002.out; have hnc34 := NB104002_104004.out; have hcz35_0 : w32.cell? ⟨gb104004, 0, none⟩ = some (.int .i64 0) := (blk_cell BK104004.out 0).trans rfl; have hcz35_1 : w32.cell? ⟨gb104004, 1, none⟩ = some (.int .i64 0) := (blk_cell BK104004.out 1).trans rfl; have hcz35_2 : w32.cell? ⟨gb104004, 2, none⟩ = some (.int .i64 0) := (blk_cell BK104004.out 2).trans rfl; have hcz35_3 : w32.cell? ⟨gb104004, 3, none⟩ = some (.int .i64 0) := (blk_cell BK104004.out 3).trans rfl; have hcz35_4 : w32.cell? ⟨gb104004, 4, none⟩ = some (.bool false) := (blk_cell BK104004.out 4).trans rfl; have hfz35_0 := blk_frozen BK104004.out 0; have hfz35_1 := blk_frozen BK104004.out 1; have hfz35_2 := blk_frozen BK104004.out 2; have hfz35_3 := blk_frozen BK104004.out 3; have hfz35_4 := blk_frozen BK104004.out 4; have hnb36 := NB104002_104001.out; have hnc36 := NB104001_104002.out; have hcz37_0 : w32.cell? ⟨gb104002, 0, none⟩ = some (.int .i64 a1_0) := (blk_cell BK104002.out 0).trans rfl; have hcz37_1 : w32.cell? ⟨gb104002, 1, none⟩ = some (.slice A1_1 l1_1.length c1_1) := (blk_cell BK104002.out 1).trans rfl; have hcz37_2 : w32.cell? ⟨gb104002, 2, none⟩ = some (.slice A1_2 l1_2.length c1_2) := (blk_cell BK104002.out 2).trans rfl; have hfz37_0 := blk_frozen BK104002.out 0; have hfz37_1 := blk_frozen BK104002.out 1; have hfz37_2 := blk_frozen BK104002.out 2; have p104005 : 0 ≤ (((rd_T90 l0_1 x11_1).f0) : Int) := of_decide_eq_true (by first | (with_reducible assumption) | assumption); have q104005 : ((rd_T90 l0_1 x11_1).f0) < (l1_1.length : Int) := of_decide_eq_true (by first | (with_reducible assumption) | assumption); obtain ⟨ad104005, e104005, hx104005_0⟩ := Kd.at_int HR1_1.out ((rd_T90 l0_1 x11_1).f0) p104005 q104005; cases e104005; have hn104005_0 : ad104005.block ≠ gb104004 := Nat.ne_of_lt (Nat.lt_of_lt_of_le (by have := World.block_lt_of_cell? _ _ hx104005_0; first | rwa [add_block] at this | exact this) GW104004.out); have hn104005_1 : ad104005.block ≠ gb104004 := Nat.ne_of_lt (Nat.lt_of_lt_of_le (by have := World.block_lt_of_cell? _ _ hx104005_0; first | rwa [add_block] at this | exact this) GW104004.out); have hn104005_2 : ad104005.block ≠ gb104004 := Nat.ne_of_lt (Nat.lt_of_lt_of_le (by have := World.block_lt_of_cell? _ _ hx104005_0; first | rwa [add_block] at this | exact this) GW104004.out); have hn104005_3 : ad104005.block ≠ gb104004 := Nat.ne_of_lt (Nat.lt_of_lt_of_le (by have := World.block_lt_of_cell? _ _ hx104005_0; first | rwa [add_block] at this | exact this) GW104004.out); have hn104005_4 : ad104005.block ≠ gb104004 := Nat.ne_of_lt (Nat.lt_of_lt_of_le (by have := World.block_lt_of_cell? _ _ hx104005_0; first | rwa [add_block] at this | exact this) GW104004.out); replace hx104005_0 := (HB.out.cell (World.block_lt_of_cell? w _ hx104005_0)).trans hx104005_0; replace hx104005_0 := (cell_far (p := ⟨gb104004, 0, none⟩) (by first | (rw [add_block]; exact hn104005_0) | (show (Addr.add _ _).block ≠ _; rw [add_block]; exact hn104005_0) | exact hn104005_0) (.int .i64 ((rd_T90 l0_1 x11_1).f0))).trans hx104005_0; replace hx104005_0 := (cell_far (p := ⟨gb104004, 1, none⟩) (by first | (rw [add_block]; exact hn104005_1) | (show (Addr.add _ _).block ≠ _; rw [add_block]; exact hn104005_1) | exact hn104005_1) (.int .i64 ((rd_T90 l0_1 x11_1).f1))).trans hx104005_0; replace hx104005_0 := (cell_far (p := ⟨gb104004, 2, none⟩) (by first | (rw [add_block]; exact hn104005_2) | (show (Addr.add _ _).block ≠ _; rw [add_block]; exact hn104005_2) | exact hn104005_2) (.int .i64 ((rd_T90 l0_1 x11_1).f2))).trans hx104005_0; replace hx104005_0 := (cell_far (p := ⟨gb104004, 3, none⟩) (by first | (rw [add_block]; exact hn104005_3) | (show (Addr.add _ _).block ≠ _; rw [add_block]; exact hn104005_3) | exact hn104005_3) (.int .i64 ((rd_T90 l0_1 x11_1).f3))).trans hx104005_0; replace hx104005_0 := (cell_far (p := ⟨gb104004, 4, none⟩) (by first | (rw [add_block]; exact hn104005_4) | (show (Addr.add _ _).block ≠ _; rw [add_block]; exact hn104005_4) | exact hn104005_4) (.bool true)).trans hx104005_0; clear hn104005_0; clear hn104005_1; clear hn104005_2; clear hn104005_3; clear hn104005_4; replace p104005 := eq_true p104005; replace q104005 := eq_true q104005; have p104006 : 0 ≤ (((rd_T90 l0_1 x11_1).f1) : Int) := of_decide_eq_true (by first | (with_reducible assumption) | assumption); have q104006 : ((rd_T90 l0_1 x11_1).f1) < (l1_1.length : Int) := of_decide_eq_true (by first | (with_reducible assumption) | assumption); obtain ⟨ad104006, e104006, hx104006_0⟩ := Kd.at_int HR1_1.out ((rd_T90 l0_1 x11_1).f1) p104006 q104006; obtain rfl : ad104005 = ad104006 := (by injection e104006); have hn104006_0 : ad104005.block ≠ gb104004 := Nat.ne_of_lt (Nat.lt_of_lt_of_le (by have := World.block_lt_of_cell? _ _ hx104006_0; first | rwa [add_block] at this | exact this) GW104004.out); have hn104006_1 : ad104005.block ≠ gb104004 := Nat.ne_of_lt (Nat.lt_of_lt_of_le (by have := World.block_lt_of_cell? _ _ hx104006_0; first | rwa [add_block] at this | exact this) GW104004.out); have hn104006_2 : ad104005.block ≠ gb104004 := Nat.ne_of_lt (Nat.lt_of_lt_of_le (by have := World.block_lt_of_cell? _ _ hx104006_0; first | rwa [add_block] at this | exact this) GW104004.out); have hn104006_3 : ad104005.block ≠ gb104004 := Nat.ne_of_lt (Nat.lt_of_lt_of_le (by have := World.block_lt_of_cell? _ _ hx104006_0; first | rwa [add_block] at this | exact this) GW104004.out); have hn104006_4 : ad104005.block ≠ gb104004 := Nat.ne_of_lt (Nat.lt_of_lt_of_le (by have := World.block_lt_of_cell? _ _ hx104006_0; first | rwa [add_block] at this | exact this) GW104004.out); replace hx104006_0 := (HB.out.cell (World.block_lt_of_cell? w _ hx104006_0)).trans hx104006_0; replace hx104006_0 := (cell_far (p := ⟨gb104004, 0, none⟩) (by first | (rw [add_block]; exact hn104006_0) | (show (Addr.add _ _).block ≠ _; rw [add_block]; exact hn104006_0) | exact hn104006_0) (.int .i64 ((rd_T90 l0_1 x11_1).f0))).trans hx104006_0; replace hx104006_0 := (cell_far (p := ⟨gb104004, 1, none⟩) (by first | (rw [add_block]; exact hn104006_1) | (show (Addr.add _ _).block ≠ _; rw [add_block]; exact hn104006_1) | exact hn104006_1) (.int .i64 ((rd_T90 l0_1 x11_1).f1))).trans hx104006_0; replace hx104006_0 := (cell_far (p := ⟨gb104004, 2, none⟩) (by first | (rw [add_block]; exact hn104006_2) | (show (Addr.add _ _).block ≠ _; rw [add_block]; exact hn104006_2) | exact hn104006_2) (.int .i64 ((rd_T90 l0_1 x11_1).f2))).trans hx104006_0; replace hx104006_0 := (cell_far (p := ⟨gb104004, 3, none⟩) (by first | (rw [add_block]; exact hn104006_3) | (show (Addr.add _ _).block ≠ _; rw [add_block]; exact hn104006_3) | exact hn104006_3) (.int .i64 ((rd_T90 l0_1 x11_1).f3))).trans hx104006_0; replace hx104006_0 := (cell_far (p := ⟨gb104004, 4, none⟩) (by first | (rw [add_block]; exact hn104006_4) | (show (Addr.add _ _).block ≠ _; rw [add_block]; exact hn104006_4) | exact hn104006_4) (.bool true)).trans hx104006_0; clear hn104006_0; clear hn104006_1; clear hn104006_2; clear hn104006_3; clear hn104006_4; replace p104006 := eq_true p104006; replace q104006 := eq_true q104006))
             go_roundg k1
             case measure => have := HK1.out; omega
             case rel => exact ⟨(x5_1), (wrap64 (x11_1 + 1)), (by first | rfl | (simp; done) | (simp [*]; done)), H', ⟨by have := HK1.out; omega⟩, ⟨by (with_reducible repeat (first | apply Kd.R_alloc | apply Kd.R_drewN | apply Kd.R_drew)); exact Kd.R_mono (Kd.R_far (p := ⟨gb104004, 4, none⟩) (Kd.R_far (p := ⟨gb104004, 3, none⟩) (Kd.R_far (p := ⟨gb104004, 2, none⟩) (Kd.R_far (p := ⟨gb104004, 1, none⟩) (Kd.R_far (p := ⟨gb104004, 0, none⟩) (Kd.R_types HO_5.out BK104004.out (by decide)) (fun _ hk => hk.2) (.int .i64 ((rd_T90 l0_1 x11_1).f0))) (fun _ hk => hk.2) (.int .i64 ((rd_T90 l0_1 x11_1).f1))) (fun _ hk => hk.2) (.int .i64 ((rd_T90 l0_1 x11_1).f2))) (fun _ hk => hk.2) (.int .i64 ((rd_T90 l0_1 x11_1).f3))) (fun _ hk => hk.2) (.bool true)) (fun _ hk => trivial)⟩, ⟨by (with_reducible repeat (first | refine blk_drewN ?_ _ | refine blk_drew ?_ | refine blk_alloc ?_ _)); refine blk_far ?_ NB104001_104004.out _; (with_reducible repeat (first | refine blk_drewN ?_ _ | refine blk_drew ?_ | refine blk_alloc ?_ _)); refine blk_far ?_ NB104001_104004.out _; (with_reducible repeat (first | refine blk_drewN ?_ _ | refine blk_drew ?_ | refine blk_alloc ?_ _)); refine blk_far ?_ NB104001_104004.out _; (with_reducible repeat (first | refine blk_drewN ?_ _ | refine blk_drew ?_ | refine blk_alloc ?_ _)); refine blk_far ?_ NB104001_104004.out _; (with_reducible repeat (first | refine blk_drewN ?_ _ | refine blk_drew ?_ | refine blk_alloc ?_ _)); refine blk_far ?_ NB104001_104004.out _; (with_reducible repeat (first | refine blk_drewN ?_ _ | refine blk_drew ?_ | refine blk_alloc ?_ _)); exact BK104001.out⟩, ⟨by (with_reducible repeat (first | refine blk_drewN ?_ _ | refine blk_drew ?_ | refine blk_alloc ?_ _)); refine blk_far ?_ NB104002_104004.out _; (with_reducible repeat (first | refine blk_drewN ?_ _ | refine blk_drew ?_ | refine blk_alloc ?_ _)); refine blk_far ?_ NB104002_104004.out _; (with_reducible repeat (first | refine blk_drewN ?_ _ | refine blk_drew ?_ | refine blk_alloc ?_ _)); refine blk_far ?_ NB104002_104004.out _; (with_reducible repeat (first | refine blk_drewN ?_ _ | refine blk_drew ?_ | refine blk_alloc ?_ _)); refine blk_far ?_ NB104002_104004.out _; (with_reducible repeat (first | refine blk_drewN ?_ _ | refine blk_drew ?_ | refine blk_alloc ?_ _)); refine blk_far ?_ NB104002_104004.out _; (with_reducible repeat (first | refine blk_drewN ?_ _ | refine blk_drew ?_ | refine blk_alloc ?_ _)); exact BK104002.out⟩, ⟨by repeat (first | (with_reducible first | exact HB.out | apply below_alloc | apply pw_below_drewN | apply below_drew1 | refine below_set ?_ GE104001.out | refine below_set ?_ GE104002.out | refine below_set ?_ GE104004.out) | exact HB.out)⟩⟩
           ·rw [if_neg c22] at H
            exact absurd H (by simp)
          ·rw [if_neg c21] at H
           exact absurd H (by simp)
        ·rw [if_neg c13] at H
         exact absurd H (by simp)
       ·rw [if_neg c12] at H
        exact absurd H (by simp)
      ·replace c11 := Bool.eq_false_iff.mpr c11
       subst c11
       have H1 : (impl_active.l0 k1 x5_1 l0_1 (l0_1.length : Int) (wrap64 (x11_1 + 1)) a1_0 l1_1 l1_2) = some r := by rw [if_neg (show ¬ (false = true) by decide)] at H; exact H
       clear H
       have H := H1
       clear H1
       have H' := Aside0.mk H
       clear H
       have p104003 : 0 ≤ (x11_1 : Int) := of_decide_eq_true (by first | (with_reducible assumption) | assumption)
       have q104003 : x11_1 < (l0_1.length : Int) := of_decide_eq_true (by first | (with_reducible assumption) | assumption)
       obtain ⟨ad104003, e104003, hx104003_0, hx104003_1, hx104003_2, hx104003_3, hx104003_4⟩ := at_T90 HR0_1.out x11_1 p104003 q104003
       (try rw [← Nbq10.out] at hx104003_4)
       cases e104003
       replace hx104003_0 := (HB.out.cell (World.block_lt_of_cell? w _ hx104003_0)).trans hx104003_0
       replace hx104003_1 := (HB.out.cell (World.block_lt_of_cell? w _ hx104003_1)).trans hx104003_1
       replace hx104003_2 := (HB.out.cell (World.block_lt_of_cell? w _ hx104003_2)).trans hx104003_2
       replace hx104003_3 := (HB.out.cell (World.block_lt_of_cell? w _ hx104003_3)).trans hx104003_3
       replace hx104003_4 := (HB.out.cell (World.block_lt_of_cell? w _ hx104003_4)).trans hx104003_4
       replace p104003 := eq_true p104003
       replace q104003 := eq_true q104003
       go_wp2_with (first | ((with_reducible refine gate_dst (N := 7) rfl ?_); refine box_event ?hg (N := 7) ?hd (cs := #[.int .i64 0, .int .i64 0, .int .i64 0, .int .i64 0, .bool false]) (t := 90) ?hr ?_; (case hd => rfl); (case hg => rfl); (case hr => first | (go_simp; done) | (go_simp; rfl)); intro gb104004 hg w38 hbox hb; have n0_ := Aside0.mk (Kd.R_below (by (with_reducible repeat (first | apply Kd.R_alloc | apply Kd.R_drewN | apply Kd.R_drew)); exact HO_5.out) hb); have n1_ := Aside0.mk (blk_below (g := gb104001) (o := .cells #[.slice A0_0 l0_0.length c0_0, .slice (some ad104003) l0_1.length c0_1, .int .i64 a0_2] 35 (0, 0)) (by (with_reducible repeat (first | refine blk_drewN ?_ _ | refine blk_drew ?_ | refine blk_alloc ?_ _)); exact BK104001.out) hb); have n2_ := Aside0.mk (blk_below (g := gb104002) (o := .cells #[.int .i64 a1_0, .slice A1_1 l1_1.length c1_1, .slice A1_2 l1_2.length c1_2] 66 (0, 0)) (by (with_reducible repeat (first | refine blk_drewN ?_ _ | refine blk_drew ?_ | refine blk_alloc ?_ _)); exact BK104002.out) hb); have n3_ := Aside0.mk (below_step (by repeat (first | (with_reducible first | exact HB.out | apply below_alloc | apply pw_below_drewN | apply below_drew1 | refine below_set ?_ GE104001.out | refine below_set ?_ GE104002.out) | exact HB.out)) hb); have n4_ := Aside0.mk (hbox); have n5_ := Aside0.mk ((by rw [hg]; exact (below_size (by repeat (first | (with_reducible first | exact HB.out | apply below_alloc | apply pw_below_drewN | apply below_drew1 | refine below_set ?_ GE104001.out | refine below_set ?_ GE104002.out) | exact HB.out))) : w.heap.size ≤ gb104004)); have n6_ := Aside0.mk ((by rw [hg]; exact (below_size (by repeat (first | (with_reducible first | exact HB.out | apply below_alloc | apply pw_below_drewN | apply below_drew1 | refine below_set ?_ GE104001.out | refine below_set ?_ GE104002.out) | exact HB.out))) : w.heap.size ≤ gb104004)); have n7_ := Aside0.mk ((by rw [hg]; exact Nat.ne_of_lt (blk_lt (g := gb104001) (o := .cells #[.slice A0_0 l0_0.length c0_0, .slice (some ad104003) l0_1.length c0_1, .int .i64 a0_2] 35 (0, 0)) (by (with_reducible repeat (first | refine blk_drewN ?_ _ | refine blk_drew ?_ | refine blk_alloc ?_ _)); exact BK104001.out)) : gb104001 ≠ gb104004)); have n8_ := Aside0.mk ((by rw [hg]; exact Nat.ne_of_gt (blk_lt (g := gb104001) (o := .cells #[.slice A0_0 l0_0.length c0_0, .slice (some ad104003) l0_1.length c0_1, .int .i64 a0_2] 35 (0, 0)) (by (with_reducible repeat (first | refine blk_drewN ?_ _ | refine blk_drew ?_ | refine blk_alloc ?_ _)); exact BK104001.out)) : gb104004 ≠ gb104001)); have n9_ := Aside0.mk ((by rw [hg]; exact Nat.ne_of_lt (blk_lt (g := gb104002) (o := .cells #[.int .i64 a1_0, .slice A1_1 l1_1.length c1_1, .slice A1_2 l1_2.length c1_2] 66 (0, 0)) (by (with_reducible repeat (first | refine blk_drewN ?_ _ | refine blk_drew ?_ | refine blk_alloc ?_ _)); exact BK104002.out)) : gb104002 ≠ gb104004)); have n10_ := Aside0.mk ((by rw [hg]; exact Nat.ne_of_gt (blk_lt (g := gb104002) (o := .cells #[.int .i64 a1_0, .slice A1_1 l1_1.length c1_1, .slice A1_2 l1_2.length c1_2] 66 (0, 0)) (by (with_reducible repeat (first | refine blk_drewN ?_ _ | refine blk_drew ?_ | refine blk_alloc ?_ _)); exact BK104002.out)) : gb104004 ≠ gb104002)); clear HO_5; clear BK104001; clear BK104002; clear HB; have HO_5 := n0_; have BK104001 := n1_; have BK104002 := n2_; have HB := n3_; have BK104004 := n4_; have GW104004 := n5_; have GE104004 := n6_; have NB104001_104004 := n7_; have NB104004_104001 := n8_; have NB104002_104004 := n9_; have NB104004_104002 := n10_; clear n0_ n1_ n2_ n3_ n4_ n5_ n6_ n7_ n8_ n9_ n10_; clear hb hbox hg; have hnb39 := NB104004_104001.out; have hnc39 := NB104001_104004.out; have hnb40 := NB104004_104002.out; have hnc40 := NB104002_104004.out; have hcz41_0 : w38.cell? ⟨gb104004, 0, none⟩ = some (.int .i64 0) := (blk_cell BK104004.out 0).trans rfl; have hcz41_1 : w38.cell? ⟨gb104004, 1, none⟩ = some (.int .i64 0) := (blk_cell BK104004.out 1).trans rfl; have hcz41_2 : w38.cell? ⟨gb104004, 2, none⟩ = some (.int .i64 0) := (blk_cell BK104004.out 2).trans rfl; have hcz41_3 : w38.cell? ⟨gb104004, 3, none⟩ = some (.int .i64 0) := (blk_cell BK104004.out 3).trans rfl; have hcz41_4 : w38.cell? ⟨gb104004, 4, none⟩ = some (.bool false) := (blk_cell BK104004.out 4).trans rfl; have hfz41_0 := blk_frozen BK104004.out 0; have hfz41_1 := blk_frozen BK104004.out 1; have hfz41_2 := blk_frozen BK104004.out 2; have hfz41_3 := blk_frozen BK104004.out 3; have hfz41_4 := blk_frozen BK104004.out 4))
       go_roundg k1
       case measure => have := HK1.out; omega
       case rel => exact ⟨(x5_1), (wrap64 (x11_1 + 1)), (by first | rfl | (simp; done) | (simp [*]; done)), H', ⟨by have := HK1.out; omega⟩, ⟨by (with_reducible repeat (first | apply Kd.R_alloc | apply Kd.R_drewN | apply Kd.R_drew)); exact Kd.R_mono (Kd.R_far (p := ⟨gb104004, 4, none⟩) (Kd.R_far (p := ⟨gb104004, 3, none⟩) (Kd.R_far (p := ⟨gb104004, 2, none⟩) (Kd.R_far (p := ⟨gb104004, 1, none⟩) (Kd.R_far (p := ⟨gb104004, 0, none⟩) (Kd.R_types HO_5.out BK104004.out (by decide)) (fun _ hk => hk.2) (.int .i64 ((rd_T90 l0_1 x11_1).f0))) (fun _ hk => hk.2) (.int .i64 ((rd_T90 l0_1 x11_1).f1))) (fun _ hk => hk.2) (.int .i64 ((rd_T90 l0_1 x11_1).f2))) (fun _ hk => hk.2) (.int .i64 ((rd_T90 l0_1 x11_1).f3))) (fun _ hk => hk.2) (.bool false)) (fun _ hk => trivial)⟩, ⟨by (with_reducible repeat (first | refine blk_drewN ?_ _ | refine blk_drew ?_ | refine blk_alloc ?_ _)); refine blk_far ?_ NB104001_104004.out _; (with_reducible repeat (first | refine blk_drewN ?_ _ | refine blk_drew ?_ | refine blk_alloc ?_ _)); refine blk_far ?_ NB104001_104004.out _; (with_reducible repeat (first | refine blk_drewN ?_ _ | refine blk_drew ?_ | refine blk_alloc ?_ _)); refine blk_far ?_ NB104001_104004.out _; (with_reducible repeat (first | refine blk_drewN ?_ _ | refine blk_drew ?_ | refine blk_alloc ?_ _)); refine blk_far ?_ NB104001_104004.out _; (with_reducible repeat (first | refine blk_drewN ?_ _ | refine blk_drew ?_ | refine blk_alloc ?_ _)); refine blk_far ?_ NB104001_104004.out _; (with_reducible repeat (first | refine blk_drewN ?_ _ | refine blk_drew ?_ | refine blk_alloc ?_ _)); exact BK104001.out⟩, ⟨by (with_reducible repeat (first | refine blk_drewN ?_ _ | refine blk_drew ?_ | refine blk_alloc ?_ _)); refine blk_far ?_ NB104002_104004.out _; (with_reducible repeat (first | refine blk_drewN ?_ _ | refine blk_drew ?_ | refine blk_alloc ?_ _)); refine blk_far ?_ NB104002_104004.out _; (with_reducible repeat (first | refine blk_drewN ?_ _ | refine blk_drew ?_ | refine blk_alloc ?_ _)); refine blk_far ?_ NB104002_104004.out _; (with_reducible repeat (first | refine blk_drewN ?_ _ | refine blk_drew ?_ | refine blk_alloc ?_ _)); refine blk_far ?_ NB104002_104004.out _; (with_reducible repeat (first | refine blk_drewN ?_ _ | refine blk_drew ?_ | refine blk_alloc ?_ _)); refine blk_far ?_ NB104002_104004.out _; (with_reducible repeat (first | refine blk_drewN ?_ _ | refine blk_drew ?_ | refine blk_alloc ?_ _)); exact BK104002.out⟩, ⟨by repeat (first | (with_reducible first | exact HB.out | apply below_alloc | apply pw_below_drewN | apply below_drew1 | refine below_set ?_ GE104001.out | refine below_set ?_ GE104002.out | refine below_set ?_ GE104004.out) | exact HB.out)⟩⟩
     ·rw [if_neg c9] at H
      exact absurd H (by simp)
    ·rw [if_neg c8] at H
     exact absurd H (by simp)
   ·rw [if_neg c7] at H
    have c7b0 : decide (x11_1 < (l0_1.length : Int)) = false := decide_eq_false c7
    clear c7
    obtain rfl := Option.some.inj H
    go_wp2
    go_ret
    exact ⟨_, by first | rfl | (simp [errW_none, errW_some] <;> rfl) | (simp [*, errW_none, errW_some] <;> rfl), by (with_reducible repeat (first | apply Kd.R_alloc | apply Kd.R_drewN | apply Kd.R_drew)); exact HO_5.out, by repeat (first | (with_reducible first | exact HB.out | apply below_alloc | apply pw_below_drewN | apply below_drew1 | refine below_set ?_ GE104001.out | refine below_set ?_ GE104002.out) | exact HB.out)⟩

end Go.Proofs.Ytodfnelilhjoeaa.Pr

namespace Go.Proofs.Ytodfnelilhjoeaa.Pr
open Go.RowKit Go.Proofs.YtodfnelilhjoeaaW.PrintWords Go.Proofs.YtodfnelilhjoeaaW.PrintLast Go.Proofs.YtodfnelilhjoeaaW.PrintMore
attribute [local go_sem] max2_int min2_int max_two min_two max_three min_three max_four min_four
set_option linter.unusedVariables false
set_option linter.unusedSimpArgs false

/-! ### impl_Node: function 164 (by hand) -/
-- IMPORT Derived.Deep.LoopGhost
-- IMPORT Derived.Shelf.Abstract
-- IMPORT Derived.Test.YtodfnelilhjoeaaQNice
open Go.Proofs.Ytodfnelilhjoeaa.Ni
set_option maxHeartbeats 4000000 in
theorem impl_Node.any (p : S116 → Bool) (g : Nat) (lb : Array Value) (eg : ∀ args w, (callFunc g args).run Try.prog w = .ok (.enter g args) w) (A0 : Option Addr) (c0 : Nat) (l0 : List S116) (w : World) (hr0 : Kd.C k116 w A0 l0.length l0)
  (hp : ∀ (W : World) (x : S116) (A1_ : Option Addr) (c1_ : Nat), x ∈ l0 → Below w.heap.size w W → x.f1.length ≤ c1_ → Kd.C (Kd.int .i64) W A1_ x.f1.length x.f1 → Calls Try.prog g (#[.agg #[.string x.f0, .slice A1_ x.f1.length c1_, .int .i64 x.f2]] ++ lb) W fun e w' => e = .returned (.bool (p x)) ∧ Below W.heap.size W w') :
  Calls Try.prog 164 #[.slice A0 l0.length c0, .func (.func g) #[] lb] w fun e w' => e = .returned (.int .i64 (idxOf p l0)) ∧ Below w.heap.size w w' := by
 have HR0 := Aside0.mk hr0; have HP := Aside0.mk hp; clear hr0 hp
 have HL : l0.length ≤ 9223372036854775807 := HR0.out.2.1
 go_enter Try.func164, Try.ntmps164
 go_wp2
 go_loopg [5, 8] l0.length (fun gg _ s8 wr => ∃ kk : Nat, Aside0 (kk ≤ l0.length) ∧ Aside0 (l0.length - kk ≤ gg) ∧ s8 = .int .i64 kk ∧ Aside0 (Below w.heap.size w wr) ∧ Aside0 (∀ j y, j < kk → l0[j]? = some y → p y = false))
 case atStart => exact ⟨0, ⟨Nat.zero_le _⟩, ⟨by omega⟩, rfl, ⟨Below.refl _ _⟩, ⟨fun j y hj => absurd hj (Nat.not_lt_zero _)⟩⟩
 case round =>
  obtain ⟨kk, HK, HG, rfl, HB, HN⟩ := hrel
  by_cases hlt : kk < l0.length
  ·have hltz : (kk : Int) < (l0.length : Int) := by omega
   obtain ⟨ad, A1_, c1_, e1, hx0, hx1, hx2, l1_, g1_⟩ := at_T116 HR0.out (kk : Int) (by omega) hltz
   cases e1
   replace hx0 := (HB.out.cell (World.block_lt_of_cell? w _ hx0)).trans hx0
   rw [Int.toNat_natCast] at hx0
   replace hx1 := (HB.out.cell (World.block_lt_of_cell? w _ hx1)).trans hx1
   rw [Int.toNat_natCast] at hx1
   replace hx2 := (HB.out.cell (World.block_lt_of_cell? w _ hx2)).trans hx2
   rw [Int.toNat_natCast] at hx2
   have hxe : l0[kk]? = some (rd_T116 l0 (kk : Int)) := by
    unfold rd_T116
    rw [Int.toNat_natCast, List.getD_eq_getElem?_getD, List.getElem?_eq_getElem hlt]; rfl

   generalize rd_T116 l0 (kk : Int) = y at hx0 hx1 hx2 l1_ g1_ hxe
   have HX := Aside0.mk hxe; clear hxe
   have hcall := HP.out wr y A1_ c1_ (List.mem_of_getElem? HX.out) HB.out l1_ (Kd.C_below g1_ HB.out)
   clear g1_ l1_
   cases hq : p y with
   | true =>
    have HQ := Aside0.mk hq
    rw [hq] at hcall
    clear hq
    go_wp2_with (go_at_fn g; refine hcall.mono ?_; rintro e w' ⟨rfl, hb⟩)
    go_ret
    exact ⟨by rw [idxOf_hit p l0 kk y HX.out HQ.out HN.out]; rfl, HB.out.trans (hb.mono HB.out.size)⟩
   | false =>
    have HQ := Aside0.mk hq
    rw [hq] at hcall
    clear hq
    go_wp2_with (go_at_fn g; refine hcall.mono ?_; rintro e w' ⟨rfl, hb⟩)
    go_roundg (l0.length - (kk + 1))
    case measure => have := HG.out; omega
    case rel =>
     refine ⟨kk + 1, ⟨by omega⟩, ⟨by omega⟩, by go_num, ⟨HB.out.trans (hb.mono HB.out.size)⟩, ⟨fun j y' hj hy => ?_⟩⟩
     by_cases e : j = kk
     ·subst e
      rw [HX.out] at hy
      cases hy
      exact HQ.out
     ·exact HN.out j y' (by omega) hy
  ·have hltz : ¬ (kk : Int) < (l0.length : Int) := by omega
   have : kk = l0.length := by have := HK.out; omega
   subst this
   go_wp2
   go_ret
   exact ⟨by rw [idxOf_miss p l0 HN.out]; rfl, HB.out⟩

end Go.Proofs.Ytodfnelilhjoeaa.Pr

namespace Go.Proofs.Ytodfnelilhjoeaa.Pr
open Go.RowKit Go.Proofs.YtodfnelilhjoeaaW.PrintWords Go.Proofs.YtodfnelilhjoeaaW.PrintLast Go.Proofs.YtodfnelilhjoeaaW.PrintMore
attribute [local go_sem] max2_int min2_int max_two min_two max_three min_three max_four min_four
set_option linter.unusedVariables false
set_option linter.unusedSimpArgs false

/-! ### impl_watcher: function 126 (by hand) -/
open Go.Proofs.Ytodfnelilhjoeaa.Ni
-- IMPORT Derived.Test.YtodfnelilhjoeaaQNice
def pwatchI (ns : List S116) (p : Int) : Int := idxOf (fun n => decide (0 < p) && decide (n.f2 = p)) ns
def impl_watcher.f (l0_0 : List (S116)) (l0_1 : List (S90)) (a0_2 : Int) (a1 : Int) : Option Int := some (pwatchI l0_0 a1)
theorem impl_watcher_1.clo (B : Nat) (p : Int) (W : World) (hB : W.cell? ⟨B, 0, none⟩ = some (.int .i64 p)) (x : S116) (A1_ : Option Addr) (c1_ : Nat) :
  Calls Try.prog 165 #[.agg #[.string x.f0, .slice A1_ x.f1.length c1_, .int .i64 x.f2], .pointer (some ⟨B, 0, none⟩)] W fun e w' => e = .returned (.bool (decide (0 < p) && decide (x.f2 = p))) ∧ Below W.heap.size W w' := by
 have hlt : B < W.heap.size := World.block_lt_of_cell? W _ hB
 have HE := Aside0.mk (show (x.f2 == p) = decide (x.f2 = p) by rw [Bool.eq_iff_iff]; simp)
 cases hp : decide (0 < p) with
 | false =>
  go_enter Try.func165, Try.ntmps165
  go_wp2
  go_ret
  exact ⟨rfl, (Below.refl _ _).alloc (Nat.le_refl _) _⟩
 | true =>
  go_enter Try.func165, Try.ntmps165
  go_wp2
  go_ret
  exact ⟨by rw [← HE.out]; rfl, (Below.refl _ _).alloc (Nat.le_refl _) _⟩
set_option maxHeartbeats 4000000 in
theorem impl_watcher.calls (A0_0 : Option Addr) (c0_0 : Nat) (l0_0 : List (S116)) (A0_1 : Option Addr) (c0_1 : Nat) (l0_1 : List (S90)) (a0_2 : Int) (a1 : Int) (r : Int) (w : World) (hr0_0 : Kd.C k116 w A0_0 l0_0.length l0_0) (hc0_0 : l0_0.length ≤ c0_0) (hr0_1 : Kd.C k90 w A0_1 l0_1.length l0_1) (hc0_1 : l0_1.length ≤ c0_1) (h : impl_watcher.f l0_0 l0_1 a0_2 a1 = some r) :
  Calls Try.prog 126 #[.agg #[.slice A0_0 l0_0.length c0_0, .slice A0_1 l0_1.length c0_1, .int .i64 a0_2], .int .i64 a1] w fun e w' => e = .returned (.int .i64 r) ∧ Below w.heap.size w w' := by
 obtain rfl := Option.some.inj h
 have HC' := Aside0.mk fun (W : World) (B : Nat) (hb : Below w.heap.size w W) (hcell : W.cell? ⟨B, 0, none⟩ = some (.int .i64 a1)) => impl_Node.any (fun n => decide (0 < a1) && decide (n.f2 = a1)) 165 #[.pointer (some ⟨B, 0, none⟩)] (enters_of Try.func165 (by kernel_rfl) rfl) A0_0 c0_0 l0_0 W (Kd.C_below hr0_0 hb)
    (fun W' x A1_ c1_ _ hb' _ _ => impl_watcher_1.clo B a1 W' ((hb'.cell (World.block_lt_of_cell? W _ hcell)).trans hcell) x A1_ c1_)
 clear hr0_0 hr0_1 h
 have HB2 := Aside0.mk (((Below.refl w.heap.size w).alloc (Nat.le_refl _) (.cells #[.slice A0_0 l0_0.length c0_0, .slice A0_1 l0_1.length c0_1, .int .i64 a0_2] 35)).alloc (by simp) (.cells #[.int .i64 a1] 3))
 have hu := Try.underlying35
 go_enter Try.func126, Try.ntmps126
 go_wp2_with fail
 refine (HC'.out _ _ HB2.out (by go_simp)).mono ?_
 rintro e w' ⟨rfl, hb⟩
 go_wp2
 go_ret
 exact ⟨rfl, HB2.out.trans (hb.mono HB2.out.size)⟩

end Go.Proofs.Ytodfnelilhjoeaa.Pr

namespace Go.Proofs.Ytodfnelilhjoeaa.Pr
open Go.RowKit Go.Proofs.YtodfnelilhjoeaaW.PrintWords Go.Proofs.YtodfnelilhjoeaaW.PrintLast Go.Proofs.YtodfnelilhjoeaaW.PrintMore
attribute [local go_sem] max2_int min2_int max_two min_two max_three min_three max_four min_four
set_option linter.unusedVariables false
set_option linter.unusedSimpArgs false

/-! ### impl_ValuesOk_1: function 177 -/
def impl_ValuesOk_1.f (a0 : Int) : Option (Bool) := if a0 < (-1) then (some true) else (some (decide (a0 > 1)))
set_option maxHeartbeats 8000000 in
set_option maxRecDepth 100000 in
theorem impl_ValuesOk_1.calls (a0 : Int) (r : Bool) (w : World) (h : impl_ValuesOk_1.f a0 = some r) :
  Calls Try.prog 177 #[.int .i64 a0] w fun e w' => e = .returned (.bool r) ∧ Drawn0 w w' := by
 have H : (if a0 < (-1) then (some true) else (some (decide (a0 > 1)))) = some r := h
 clear h
 by_cases c2 : a0 < (-1)
 ·rw [if_pos c2] at H
  have c2b0 : decide (a0 < (-1)) = true := decide_eq_true c2
  clear c2
  obtain rfl := Option.some.inj H
  go_enter Try.func177, Try.ntmps177
  go_wp2
  go_ret
  exact ⟨by first | rfl | (simp; done) | (simp [*]; done), by repeat (first | exact Drawn0.refl _ | apply Drawn0.step)⟩
 ·rw [if_neg c2] at H
  have c2b0 : decide (a0 < (-1)) = false := decide_eq_false c2
  clear c2
  obtain rfl := Option.some.inj H
  go_enter Try.func177, Try.ntmps177
  go_wp2
  go_ret
  exact ⟨by first | rfl | (simp; done) | (simp [*]; done), by repeat (first | exact Drawn0.refl _ | apply Drawn0.step)⟩

end Go.Proofs.Ytodfnelilhjoeaa.Pr

namespace Go.Proofs.Ytodfnelilhjoeaa.Pr
open Go.RowKit Go.Proofs.YtodfnelilhjoeaaW.PrintWords Go.Proofs.YtodfnelilhjoeaaW.PrintLast Go.Proofs.YtodfnelilhjoeaaW.PrintMore
attribute [local go_sem] max2_int min2_int max_two min_two max_three min_three max_four min_four
set_option linter.unusedVariables false
set_option linter.unusedSimpArgs false

/-! ### impl_ValuesOk: function 167 (by hand) -/
open Go.Proofs.Ytodfnelilhjoeaa.Ni
-- IMPORT Derived.Test.YtodfnelilhjoeaaQNice
def impl_ValuesOk.f (l0 : List Int) : Option Bool := some (valsB l0)
theorem impl_ValuesOk.calls (A0 : Option Addr) (c0 : Nat) (l0 : List Int) (r : Bool) (w : World) (hr0 : Kd.C (Kd.int .i64) w A0 l0.length l0) (hc0 : l0.length ≤ c0) (h : impl_ValuesOk.f l0 = some r) :
  Calls Try.prog 167 #[.slice A0 l0.length c0] w fun e w' => e = .returned (.bool r) ∧ Below w.heap.size w w' := by
 obtain rfl : valsB l0 = r := Option.some.inj h
 have hv : l0.length = 3 → (!(l0.any fun n => decide (n < -1) || decide (n > 1))) = valsB l0 := fun hl => by
  unfold valsB
  rw [decide_eq_true hl, Bool.true_and, List.not_any_eq_all_not]
  congr 1
  funext n
  rw [Bool.eq_iff_iff]
  simp
 have hn : ¬ l0.length = 3 → valsB l0 = false := fun hl => by simp [valsB, hl]
 have HV := Aside0.mk hv; have HN := Aside0.mk hn
 have HC := Aside0.mk (slices_ContainsFunc_int_int.any (fun n => decide (n < -1) || decide (n > 1)) 177 #[] (enters_of Try.func177 (by kernel_rfl) rfl) A0 c0 l0 w hr0
  (fun W x _ _ => (impl_ValuesOk_1.calls x (decide (x < -1) || decide (x > 1)) W (by
   unfold impl_ValuesOk_1.f
   by_cases h1 : x < -1
   ·rw [if_pos h1, decide_eq_true h1]; rfl
   ·rw [if_neg h1, decide_eq_false h1]; rfl)).mono fun e w' ⟨he, hd⟩ => ⟨he, hd.below⟩))
 clear hv hn h hr0 hc0
 by_cases hl : l0.length = 3
 ·have h3 : ((l0.length : Int) == 3) = true := by rw [beq_iff_eq]; omega
  have HL := Aside0.mk hl; clear hl
  go_enter Try.func167, Try.ntmps167
  go_wp2_with (go_at_call 123; refine HC.out.mono ?_; rintro e w' ⟨rfl, hb⟩)
  go_ret
  exact ⟨by rw [← HV.out HL.out]; rfl, hb⟩
 ·have h3 : ((l0.length : Int) == 3) = false := by rw [beq_eq_false_iff_ne]; omega
  have HL := Aside0.mk hl; clear hl
  go_enter Try.func167, Try.ntmps167
  go_wp2
  go_ret
  exact ⟨by rw [HN.out HL.out]; rfl, Below.refl _ _⟩

end Go.Proofs.Ytodfnelilhjoeaa.Pr

namespace Go.Proofs.Ytodfnelilhjoeaa.Pr
open Go.RowKit Go.Proofs.YtodfnelilhjoeaaW.PrintWords Go.Proofs.YtodfnelilhjoeaaW.PrintLast Go.Proofs.YtodfnelilhjoeaaW.PrintMore
attribute [local go_sem] max2_int min2_int max_two min_two max_three min_three max_four min_four
set_option linter.unusedVariables false
set_option linter.unusedSimpArgs false

/-! ### impl_isState: function 142 -/
mutual
def impl_isState.j0 : Nat → Bool → List (S116) → List (S90) → Int → Int → List Int → List Int → Option (Bool)
 | 0, _, _, _, _, _, _, _ => none
 | k + 1, x35, x142002000, x142002001, x142002002, x142003000, x142003001, x142003002 => if x35 = true then (some false) else (impl_isState.l0 k x142003001 (x142003001.length : Int) 0 x142002000 x142002001 x142002002 x142003000 x142003001 x142003002)
def impl_isState.l0 : Nat → List Int → Int → Int → List (S116) → List (S90) → Int → Int → List Int → List Int → Option (Bool)
 | 0, _, _, _, _, _, _, _, _, _ => none
 | k + 1, x37, x38, x39, x142002000, x142002001, x142002002, x142003000, x142003001, x142003002 => if x39 < x38 then (if 0 ≤ x39 then (if x39 < (x37.length : Int) then (if x39 = 0 then (if (rd x37 x39) = 0 then (if x39 > 0 then (if (rd x37 x39) < (-1) then (some false) else (if (rd x37 x39) > (wrap64 (x142003000 - 1)) then (some false) else (impl_isState.l0 k x37 x38 (wrap64 (x39 + 1)) x142002000 x142002001 x142002002 x142003000 x142003001 x142003002))) else (impl_isState.l0 k x37 x38 (wrap64 (x39 + 1)) x142002000 x142002001 x142002002 x142003000 x142003001 x142003002)) else (some false)) else (if x39 > 0 then (if (rd x37 x39) < (-1) then (some false) else (if (rd x37 x39) > (wrap64 (x142003000 - 1)) then (some false) else (impl_isState.l0 k x37 x38 (wrap64 (x39 + 1)) x142002000 x142002001 x142002002 x142003000 x142003001 x142003002))) else (impl_isState.l0 k x37 x38 (wrap64 (x39 + 1)) x142002000 x142002001 x142002002 x142003000 x142003001 x142003002))) else (none)) else (none)) else (impl_isState.l1 k x142003002 (x142003002.length : Int) 0 x142002000 x142002001 x142002002 x142003000 x142003001 x142003002)
def impl_isState.l1 : Nat → List Int → Int → Int → List (S116) → List (S90) → Int → Int → List Int → List Int → Option (Bool)
 | 0, _, _, _, _, _, _, _, _, _ => none
 | k + 1, x67, x68, x69, x142002000, x142002001, x142002002, x142003000, x142003001, x142003002 => if x69 < x68 then (if 0 ≤ x69 then (if x69 < (x67.length : Int) then ((impl_watcher.f x142002000 x142002001 x142002002 (wrap64 (x69 + 1))).bind fun t142006 => (if t142006 ≥ 0 then (if 0 ≤ t142006 then (if t142006 < (x142003001.length : Int) then (if (((rd x67 x69) != 0) != ((rd x142003001 t142006) != (-1))) = true then (some false) else (impl_isState.l1 k x67 x68 (wrap64 (x69 + 1)) x142002000 x142002001 x142002002 x142003000 x142003001 x142003002)) else (none)) else (none)) else (if (((rd x67 x69) != 0) != false) = true then (some false) else (impl_isState.l1 k x67 x68 (wrap64 (x69 + 1)) x142002000 x142002001 x142002002 x142003000 x142003001 x142003002)))) else (none)) else (none)) else (some true)
end
def impl_isState.f (k : Nat) (l0_0 : List (S116)) (l0_1 : List (S90)) (a0_2 : Int) (a1_0 : Int) (l1_1 : List Int) (l1_2 : List Int) : Option (Bool) := if a1_0 < 0 then (impl_isState.j0 k true l0_0 l0_1 a0_2 a1_0 l1_1 l1_2) else (if a1_0 > (wrap64 (a0_2 + 1)) then (impl_isState.j0 k true l0_0 l0_1 a0_2 a1_0 l1_1 l1_2) else (if (l1_1.length : Int) = (l0_0.length : Int) then ((impl_ValuesOk.f l1_2).bind fun t142003 => (impl_isState.j0 k (!t142003) l0_0 l0_1 a0_2 a1_0 l1_1 l1_2)) else (impl_isState.j0 k true l0_0 l0_1 a0_2 a1_0 l1_1 l1_2)))
set_option maxHeartbeats 8000000 in
set_option maxRecDepth 100000 in
theorem impl_isState.calls (k : Nat) (A0_0 : Option Addr) (c0_0 : Nat) (l0_0 : List (S116)) (A0_1 : Option Addr) (c0_1 : Nat) (l0_1 : List (S90)) (a0_2 : Int) (a1_0 : Int) (A1_1 : Option Addr) (c1_1 : Nat) (l1_1 : List Int) (A1_2 : Option Addr) (c1_2 : Nat) (l1_2 : List Int) (r : Bool) (w : World) (hr0_0 : Kd.C k116 w A0_0 l0_0.length l0_0) (hc0_0 : l0_0.length ≤ c0_0) (hr0_1 : Kd.C k90 w A0_1 l0_1.length l0_1) (hc0_1 : l0_1.length ≤ c0_1) (hr1_1 : Kd.C (Kd.int .i64) w A1_1 l1_1.length l1_1) (hc1_1 : l1_1.length ≤ c1_1) (hr1_2 : Kd.C (Kd.int .i64) w A1_2 l1_2.length l1_2) (hc1_2 : l1_2.length ≤ c1_2) (h : impl_isState.f k l0_0 l0_1 a0_2 a1_0 l1_1 l1_2 = some r) :
  Calls Try.prog 142 #[.agg #[.slice A0_0 l0_0.length c0_0, .slice A0_1 l0_1.length c0_1, .int .i64 a0_2], .agg #[.int .i64 a1_0, .slice A1_1 l1_1.length c1_1, .slice A1_2 l1_2.length c1_2]] w fun e w' => e = .returned (.bool r) ∧ Below w.heap.size w w' := by
 have hu35 := Try.underlying35
 have hu66 := Try.underlying66
 have HR0_0 := Aside0.mk hr0_0; have HC0_0 := Aside0.mk hc0_0; clear hr0_0 hc0_0; have HR0_1 := Aside0.mk hr0_1; have HC0_1 := Aside0.mk hc0_1; clear hr0_1 hc0_1; have HR1_1 := Aside0.mk hr1_1; have HC1_1 := Aside0.mk hc1_1; clear hr1_1 hc1_1; have HR1_2 := Aside0.mk hr1_2; have HC1_2 := Aside0.mk hc1_2; clear hr1_2 hc1_2
 have HB := Aside0.mk (Below.refl w.heap.size w)
 have H : (if a1_0 < 0 then (impl_isState.j0 k true l0_0 l0_1 a0_2 a1_0 l1_1 l1_2) else (if a1_0 > (wrap64 (a0_2 + 1)) then (impl_isState.j0 k true l0_0 l0_1 a0_2 a1_0 l1_1 l1_2) else (if (l1_1.length : Int) = (l0_0.length : Int) then ((impl_ValuesOk.f l1_2).bind fun t142003 => (impl_isState.j0 k (!t142003) l0_0 l0_1 a0_2 a1_0 l1_1 l1_2)) else (impl_isState.j0 k true l0_0 l0_1 a0_2 a1_0 l1_1 l1_2)))) = some r := h
 clear h; have HC3 := Aside0.mk H; clear H
 go_enter Try.func142, Try.ntmps142
 go_upto_region 1 with (first | ((with_reducible refine gate_dst (N := 2) rfl ?_); (try (refine gate_guard (by rfl) ?_; dsimp only)); refine box_event ?hg (N := 2) ?hd (cs := #[.slice A0_0 l0_0.length c0_0, .slice A0_1 l0_1.length c0_1, .int .i64 a0_2]) (t := 35) ?hr ?_; (case hd => rfl); (case hg => rfl); (case hr => first | (go_simp; done) | (go_simp; rfl)); intro gb142001 hg w4 hbox hb; have n0_ := Aside0.mk (below_step (by repeat (first | (with_reducible first | exact HB.out | apply below_alloc | apply pw_below_drewN | apply below_drew1) | exact HB.out)) hb); have n1_ := Aside0.mk (hbox); have n2_ := Aside0.mk ((by rw [hg]; exact (below_size (by repeat (first | (with_reducible first | exact HB.out | apply below_alloc | apply pw_below_drewN | apply below_drew1) | exact HB.out))) : w.heap.size ≤ gb142001)); have n3_ := Aside0.mk ((by rw [hg]; exact (below_size (by repeat (first | (with_reducible first | exact HB.out | apply below_alloc | apply pw_below_drewN | apply below_drew1) | exact HB.out))) : w.heap.size ≤ gb142001)); clear HB; have HB := n0_; have BK142001 := n1_; have GW142001 := n2_; have GE142001 := n3_; clear n0_ n1_ n2_ n3_; clear hb hbox hg) | ((with_reducible refine gate_dst (N := 3) rfl ?_); (try (refine gate_guard (by rfl) ?_; dsimp only)); refine box_event ?hg (N := 3) ?hd (cs := #[.int .i64 a1_0, .slice A1_1 l1_1.length c1_1, .slice A1_2 l1_2.length c1_2]) (t := 66) ?hr ?_; (case hd => rfl); (case hg => rfl); (case hr => first | (go_simp; done) | (go_simp; rfl)); intro gb142002 hg w5 hbox hb; have n0_ := Aside0.mk (blk_below (g := gb142001) (o := .cells #[.slice A0_0 l0_0.length c0_0, .slice A0_1 l0_1.length c0_1, .int .i64 a0_2] 35 (0, 0)) (by (with_reducible repeat (first | refine blk_drewN ?_ _ | refine blk_drew ?_ | refine blk_alloc ?_ _)); exact BK142001.out) hb); have n1_ := Aside0.mk (below_step (by repeat (first | (with_reducible first | exact HB.out | apply below_alloc | apply pw_below_drewN | apply below_drew1 | refine below_set ?_ GE142001.out) | exact HB.out)) hb); have n2_ := Aside0.mk (hbox); have n3_ := Aside0.mk ((by rw [hg]; exact (below_size (by repeat (first | (with_reducible first | exact HB.out | apply below_alloc | apply pw_below_drewN | apply below_drew1 | refine below_set ?_ GE142001.out) | exact HB.out))) : w.heap.size ≤ gb142002)); have n4_ := Aside0.mk ((by rw [hg]; exact (below_size (by repeat (first | (with_reducible first | exact HB.out | apply below_alloc | apply pw_below_drewN | apply below_drew1 | refine below_set ?_ GE142001.out) | exact HB.out))) : w.heap.size ≤ gb142002)); have n5_ := Aside0.mk ((by rw [hg]; exact Nat.ne_of_lt (blk_lt (g := gb142001) (o := .cells #[.slice A0_0 l0_0.length c0_0, .slice A0_1 l0_1.length c0_1, .int .i64 a0_2] 35 (0, 0)) (by (with_reducible repeat (first | refine blk_drewN ?_ _ | refine blk_drew ?_ | refine blk_alloc ?_ _)); exact BK142001.out)) : gb142001 ≠ gb142002)); have n6_ := Aside0.mk ((by rw [hg]; exact Nat.ne_of_gt (blk_lt (g := gb142001) (o := .cells #[.slice A0_0 l0_0.length c0_0, .slice A0_1 l0_1.length c0_1, .int .i64 a0_2] 35 (0, 0)) (by (with_reducible repeat (first | refine blk_drewN ?_ _ | refine blk_drew ?_ | refine blk_alloc ?_ _)); exact BK142001.out)) : gb142002 ≠ gb142001)); clear BK142001; clear HB; have BK142001 := n0_; have HB := n1_; have BK142002 := n2_; have GW142002 := n3_; have GE142002 := n4_; have NB142001_142002 := n5_; have NB142002_142001 := n6_; clear n0_ n1_ n2_ n3_ n4_ n5_ n6_; clear hb hbox hg))
 (try simp only [Act.put, List.setIfInBounds_toArray, List.set_cons_zero, List.set_cons_succ])
 go_cut [35] (fun v35 wc => ∃ (kq : Nat) (x35_2 : Bool), v35 = .bool x35_2 ∧ Aside0 (impl_isState.j0 kq x35_2 l0_0 l0_1 a0_2 a1_0 l1_1 l1_2 = some r) ∧ Aside0 (kq ≤ k) ∧ Aside0 (wc.heap[gb142001]? = some (.cells #[(.slice A0_0 l0_0.length c0_0), (.slice A0_1 l0_1.length c0_1), .int .i64 a0_2] 35 (0, 0))) ∧ Aside0 (wc.heap[gb142002]? = some (.cells #[.int .i64 a1_0, (.slice A1_1 l1_1.length c1_1), (.slice A1_2 l1_2.length c1_2)] 66 (0, 0))) ∧ Aside0 (Below w.heap.size w wc))
 case first =>
  have H := HC3.out
  clear HC3
  by_cases c6 : a1_0 < 0
  ·rw [if_pos c6] at H
   have c6b0 : decide (a1_0 < 0) = true := decide_eq_true c6
   clear c6
   (first | rw [c6b0] | (simp only [i64_w, i32_w]; rw [c6b0]) | skip)
   have H' := Aside0.mk H
   clear H
   have hcz8_0 : w5.cell? ⟨gb142002, 0, none⟩ = some (.int .i64 a1_0) := (blk_cell BK142002.out 0).trans rfl
   have hcz8_1 : w5.cell? ⟨gb142002, 1, none⟩ = some (.slice A1_1 l1_1.length c1_1) := (blk_cell BK142002.out 1).trans rfl
   have hcz8_2 : w5.cell? ⟨gb142002, 2, none⟩ = some (.slice A1_2 l1_2.length c1_2) := (blk_cell BK142002.out 2).trans rfl
   go_wp2
   go_meet
   case rel => exact ⟨_, (true), (by first | rfl | (simp; done) | (simp [*]; done)), H', ⟨by first | omega | exact Nat.le_refl _⟩, ⟨by (with_reducible repeat (first | refine blk_drewN ?_ _ | refine blk_drew ?_ | refine blk_alloc ?_ _)); exact BK142001.out⟩, ⟨by (with_reducible repeat (first | refine blk_drewN ?_ _ | refine blk_drew ?_ | refine blk_alloc ?_ _)); exact BK142002.out⟩, ⟨by repeat (first | (with_reducible first | exact HB.out | apply below_alloc | apply pw_below_drewN | apply below_drew1 | refine below_set ?_ GE142001.out | refine below_set ?_ GE142002.out) | exact HB.out)⟩⟩
  ·rw [if_neg c6] at H
   have c6b0 : decide (a1_0 < 0) = false := decide_eq_false c6
   clear c6
   (first | rw [c6b0] | (simp only [i64_w, i32_w]; rw [c6b0]) | skip)
   by_cases c9 : a1_0 > (wrap64 (a0_2 + 1))
   ·rw [if_pos c9] at H
    have c9b0 : decide ((wrap64 (a0_2 + 1)) < a1_0) = true := decide_eq_true c9
    clear c9
    have H' := Aside0.mk H
    clear H
    have hcz11_0 : w5.cell? ⟨gb142002, 0, none⟩ = some (.int .i64 a1_0) := (blk_cell BK142002.out 0).trans rfl
    have hcz11_1 : w5.cell? ⟨gb142002, 1, none⟩ = some (.slice A1_1 l1_1.length c1_1) := (blk_cell BK142002.out 1).trans rfl
    have hcz11_2 : w5.cell? ⟨gb142002, 2, none⟩ = some (.slice A1_2 l1_2.length c1_2) := (blk_cell BK142002.out 2).trans rfl
    have hcz12_0 : w5.cell? ⟨gb142001, 0, none⟩ = some (.slice A0_0 l0_0.length c0_0) := (blk_cell BK142001.out 0).trans rfl
    have hcz12_1 : w5.cell? ⟨gb142001, 1, none⟩ = some (.slice A0_1 l0_1.length c0_1) := (blk_cell BK142001.out 1).trans rfl
    have hcz12_2 : w5.cell? ⟨gb142001, 2, none⟩ = some (.int .i64 a0_2) := (blk_cell BK142001.out 2).trans rfl
    go_wp2
    go_meet
    case rel => exact ⟨_, (true), (by first | rfl | (simp; done) | (simp [*]; done)), H', ⟨by first | omega | exact Nat.le_refl _⟩, ⟨by (with_reducible repeat (first | refine blk_drewN ?_ _ | refine blk_drew ?_ | refine blk_alloc ?_ _)); exact BK142001.out⟩, ⟨by (with_reducible repeat (first | refine blk_drewN ?_ _ | refine blk_drew ?_ | refine blk_alloc ?_ _)); exact BK142002.out⟩, ⟨by repeat (first | (with_reducible first | exact HB.out | apply below_alloc | apply pw_below_drewN | apply below_drew1 | refine below_set ?_ GE142001.out | refine below_set ?_ GE142002.out) | exact HB.out)⟩⟩
   ·rw [if_neg c9] at H
    have c9b0 : decide ((wrap64 (a0_2 + 1)) < a1_0) = false := decide_eq_false c9
    clear c9
    by_cases c13 : (l1_1.length : Int) = (l0_0.length : Int)
    ·rw [if_pos c13] at H
     have c13b0 : ((l1_1.length : Int) == (l0_0.length : Int)) = true := beq_iff_eq.mpr c13
     have c13b1 : ((l1_1.length : Int) != (l0_0.length : Int)) = false := bne_eq_false_iff_eq.mpr c13
     have c13b2 : (l1_1.length == l0_0.length) = true := by first | simpa using c13 | (simp at c13 ⊢; omega)
     clear c13
     replace H := Option.bind_eq_some_iff.mp H
     obtain ⟨t142003, A140, H⟩ := H; have A14 := Aside0.mk A140; clear A140
     have H' := Aside0.mk H
     clear H
     have hcz16_0 : w5.cell? ⟨gb142002, 0, none⟩ = some (.int .i64 a1_0) := (blk_cell BK142002.out 0).trans rfl
     have hcz16_1 : w5.cell? ⟨gb142002, 1, none⟩ = some (.slice A1_1 l1_1.length c1_1) := (blk_cell BK142002.out 1).trans rfl
     have hcz16_2 : w5.cell? ⟨gb142002, 2, none⟩ = some (.slice A1_2 l1_2.length c1_2) := (blk_cell BK142002.out 2).trans rfl
     have hcz17_0 : w5.cell? ⟨gb142001, 0, none⟩ = some (.slice A0_0 l0_0.length c0_0) := (blk_cell BK142001.out 0).trans rfl
     have hcz17_1 : w5.cell? ⟨gb142001, 1, none⟩ = some (.slice A0_1 l0_1.length c0_1) := (blk_cell BK142001.out 1).trans rfl
     have hcz17_2 : w5.cell? ⟨gb142001, 2, none⟩ = some (.int .i64 a0_2) := (blk_cell BK142001.out 2).trans rfl
     go_wp2_with (first | (go_at_call 167; (with_reducible refine (impl_ValuesOk.calls _ _ l1_2 t142003 _ ?side1 ?side2 A14.out).mono ?_); (case side1 => repeat (first | exact (Kd.C_below HR1_2.out HB.out) | (with_reducible refine Kd.C_alloc ?_ _) | (with_reducible refine Kd.C_drewN ?_ _) | (with_reducible refine Kd.C_drew ?_))); (case side2 => exact HC1_2.out); rintro e w18 ⟨rfl, hb⟩; have n0_ := Aside0.mk (blk_below (g := gb142001) (o := .cells #[.slice A0_0 l0_0.length c0_0, .slice A0_1 l0_1.length c0_1, .int .i64 a0_2] 35 (0, 0)) (by (with_reducible repeat (first | refine blk_drewN ?_ _ | refine blk_drew ?_ | refine blk_alloc ?_ _)); exact BK142001.out) hb); have n1_ := Aside0.mk (blk_below (g := gb142002) (o := .cells #[.int .i64 a1_0, .slice A1_1 l1_1.length c1_1, .slice A1_2 l1_2.length c1_2] 66 (0, 0)) (by (with_reducible repeat (first | refine blk_drewN ?_ _ | refine blk_drew ?_ | refine blk_alloc ?_ _)); exact BK142002.out) hb); have n2_ := Aside0.mk (below_step (by repeat (first | (with_reducible first | exact HB.out | apply below_alloc | apply pw_below_drewN | apply below_drew1 | refine below_set ?_ GE142001.out | refine below_set ?_ GE142002.out) | exact HB.out)) hb); clear BK142001; clear BK142002; clear HB; have BK142001 := n0_; have BK142002 := n1_; have HB := n2_; clear n0_ n1_ n2_; (try clear hi)))
     go_meet
     case rel => exact ⟨_, (!t142003), (by first | rfl | (simp; done) | (simp [*]; done)), H', ⟨by first | omega | exact Nat.le_refl _⟩, ⟨by (with_reducible repeat (first | refine blk_drewN ?_ _ | refine blk_drew ?_ | refine blk_alloc ?_ _)); exact BK142001.out⟩, ⟨by (with_reducible repeat (first | refine blk_drewN ?_ _ | refine blk_drew ?_ | refine blk_alloc ?_ _)); exact BK142002.out⟩, ⟨by repeat (first | (with_reducible first | exact HB.out | apply below_alloc | apply pw_below_drewN | apply below_drew1 | refine below_set ?_ GE142001.out | refine below_set ?_ GE142002.out) | exact HB.out)⟩⟩
    ·rw [if_neg c13] at H
     have c13b0 : ((l1_1.length : Int) == (l0_0.length : Int)) = false := beq_eq_false_iff_ne.mpr c13
     have c13b1 : ((l1_1.length : Int) != (l0_0.length : Int)) = true := bne_iff_ne.mpr c13
     have c13b2 : (l1_1.length == l0_0.length) = false := by first | simpa using c13 | (simp at c13 ⊢; omega)
     have H' := Aside0.mk H
     clear H
     have hcz20_0 : w5.cell? ⟨gb142002, 0, none⟩ = some (.int .i64 a1_0) := (blk_cell BK142002.out 0).trans rfl
     have hcz20_1 : w5.cell? ⟨gb142002, 1, none⟩ = some (.slice A1_1 l1_1.length c1_1) := (blk_cell BK142002.out 1).trans rfl
     have hcz20_2 : w5.cell? ⟨gb142002, 2, none⟩ = some (.slice A1_2 l1_2.length c1_2) := (blk_cell BK142002.out 2).trans rfl
     have hcz21_0 : w5.cell? ⟨gb142001, 0, none⟩ = some (.slice A0_0 l0_0.length c0_0) := (blk_cell BK142001.out 0).trans rfl
     have hcz21_1 : w5.cell? ⟨gb142001, 1, none⟩ = some (.slice A0_1 l0_1.length c0_1) := (blk_cell BK142001.out 1).trans rfl
     have hcz21_2 : w5.cell? ⟨gb142001, 2, none⟩ = some (.int .i64 a0_2) := (blk_cell BK142001.out 2).trans rfl
     go_wp2
     go_meet
     case rel => exact ⟨_, (true), (by first | rfl | (simp; done) | (simp [*]; done)), H', ⟨by first | omega | exact Nat.le_refl _⟩, ⟨by (with_reducible repeat (first | refine blk_drewN ?_ _ | refine blk_drew ?_ | refine blk_alloc ?_ _)); exact BK142001.out⟩, ⟨by (with_reducible repeat (first | refine blk_drewN ?_ _ | refine blk_drew ?_ | refine blk_alloc ?_ _)); exact BK142002.out⟩, ⟨by repeat (first | (with_reducible first | exact HB.out | apply below_alloc | apply pw_below_drewN | apply below_drew1 | refine below_set ?_ GE142001.out | refine below_set ?_ GE142002.out) | exact HB.out)⟩⟩
 case rest =>
  clear HC3
  try clear c1
  try clear p2
  try clear c6
  try clear c6b0
  try clear p6
  try clear c7
  try clear c9
  try clear c9b0
  try clear c10
  try clear c13
  try clear c13b0
  try clear c13b1
  try clear c13b2
  try clear c14
  try clear c15
  try clear c19
  try clear hcz11_0
  try clear hcz11_1
  try clear hcz11_2
  try clear hcz12_0
  try clear hcz12_1
  try clear hcz12_2
  try clear hcz16_0
  try clear hcz16_1
  try clear hcz16_2
  try clear hcz17_0
  try clear hcz17_1
  try clear hcz17_2
  try clear hcz20_0
  try clear hcz20_1
  try clear hcz20_2
  try clear hcz21_0
  try clear hcz21_1
  try clear hcz21_2
  try clear hcz8_0
  try clear hcz8_1
  try clear hcz8_2
  try clear hfz11_0
  try clear hfz11_1
  try clear hfz11_2
  try clear hfz12_0
  try clear hfz12_1
  try clear hfz12_2
  try clear hfz16_0
  try clear hfz16_1
  try clear hfz16_2
  try clear hfz17_0
  try clear hfz17_1
  try clear hfz17_2
  try clear hfz20_0
  try clear hfz20_1
  try clear hfz20_2
  try clear hfz21_0
  try clear hfz21_1
  try clear hfz21_2
  try clear hfz8_0
  try clear hfz8_1
  try clear hfz8_2
  obtain ⟨kq, x35_2, rfl, HA, HJ2, BK142001, BK142002, HB⟩ := hcut
  cases kq with
  | zero => exact absurd HA.out (by simp [impl_isState.j0])
  | succ kj2 =>
   have H := HA.out
   clear HA
   simp only [impl_isState.j0] at H
   by_cases c22 : x35_2 = true
   ·subst c22
    have H1 : (some false) = some r := by rw [if_pos rfl] at H; exact H
    clear H
    have H := H1
    clear H1
    obtain rfl := Option.some.inj H
    go_wp2
    go_ret
    exact ⟨by first | rfl | (simp [errW_none, errW_some] <;> rfl) | (simp [*, errW_none, errW_some] <;> rfl), by repeat (first | (with_reducible first | exact HB.out | apply below_alloc | apply pw_below_drewN | apply below_drew1 | refine below_set ?_ GE142001.out | refine below_set ?_ GE142002.out) | exact HB.out)⟩
   ·replace c22 := Bool.eq_false_iff.mpr c22
    subst c22
    have H1 : (impl_isState.l0 kj2 l1_1 (l1_1.length : Int) 0 l0_0 l0_1 a0_2 a1_0 l1_1 l1_2) = some r := by rw [if_neg (show ¬ (false = true) by decide)] at H; exact H
    clear H
    have H := H1
    clear H1
    have H' := Aside0.mk H
    clear H
    have hcz24_0 : wc.cell? ⟨gb142002, 0, none⟩ = some (.int .i64 a1_0) := (blk_cell BK142002.out 0).trans rfl
    have hcz24_1 : wc.cell? ⟨gb142002, 1, none⟩ = some (.slice A1_1 l1_1.length c1_1) := (blk_cell BK142002.out 1).trans rfl
    have hcz24_2 : wc.cell? ⟨gb142002, 2, none⟩ = some (.slice A1_2 l1_2.length c1_2) := (blk_cell BK142002.out 2).trans rfl
    go_wp2
    go_loopg [39] kj2 (fun kq v39 w' => ∃ (x39_2 : Int), v39 = .int .i64 x39_2 ∧ Aside0 (impl_isState.l0 kq l1_1 (l1_1.length : Int) x39_2 l0_0 l0_1 a0_2 a1_0 l1_1 l1_2 = some r) ∧ Aside0 (kq ≤ kj2) ∧ Aside0 (w'.heap[gb142001]? = some (.cells #[(.slice A0_0 l0_0.length c0_0), (.slice A0_1 l0_1.length c0_1), .int .i64 a0_2] 35 (0, 0))) ∧ Aside0 (w'.heap[gb142002]? = some (.cells #[.int .i64 a1_0, (.slice A1_1 l1_1.length c1_1), (.slice A1_2 l1_2.length c1_2)] 66 (0, 0))) ∧ Aside0 (Below w.heap.size w w'))
    case atStart => exact ⟨(0), (by first | rfl | (simp; done) | (simp [*]; done)), H', ⟨Nat.le_refl _⟩, ⟨by (with_reducible repeat (first | refine blk_drewN ?_ _ | refine blk_drew ?_ | refine blk_alloc ?_ _)); exact BK142001.out⟩, ⟨by (with_reducible repeat (first | refine blk_drewN ?_ _ | refine blk_drew ?_ | refine blk_alloc ?_ _)); exact BK142002.out⟩, ⟨by repeat (first | (with_reducible first | exact HB.out | apply below_alloc | apply pw_below_drewN | apply below_drew1 | refine below_set ?_ GE142001.out | refine below_set ?_ GE142002.out) | exact HB.out)⟩⟩
    case round =>
     clear H'
     try clear c1
     try clear c2
     try clear p2
     try clear c6
     try clear c6b0
     try clear p6
     try clear c7
     try clear c9
     try clear c9b0
     try clear c10
     try clear c13
     try clear c13b0
     try clear c13b1
     try clear c13b2
     try clear c14
     try clear c15
     try clear c19
     try clear c22
     try clear c23
     try clear hcz11_0
     try clear hcz11_1
     try clear hcz11_2
     try clear hcz12_0
     try clear hcz12_1
     try clear hcz12_2
     try clear hcz16_0
     try clear hcz16_1
     try clear hcz16_2
     try clear hcz17_0
     try clear hcz17_1
     try clear hcz17_2
     try clear hcz20_0
     try clear hcz20_1
     try clear hcz20_2
     try clear hcz21_0
     try clear hcz21_1
     try clear hcz21_2
     try clear hcz24_0
     try clear hcz24_1
     try clear hcz24_2
     try clear hcz8_0
     try clear hcz8_1
     try clear hcz8_2
     try clear hfz11_0
     try clear hfz11_1
     try clear hfz11_2
     try clear hfz12_0
     try clear hfz12_1
     try clear hfz12_2
     try clear hfz16_0
     try clear hfz16_1
     try clear hfz16_2
     try clear hfz17_0
     try clear hfz17_1
     try clear hfz17_2
     try clear hfz20_0
     try clear hfz20_1
     try clear hfz20_2
     try clear hfz21_0
     try clear hfz21_1
     try clear hfz21_2
     try clear hfz24_0
     try clear hfz24_1
     try clear hfz24_2
     try clear hfz8_0
     try clear hfz8_1
     try clear hfz8_2
     try clear p2
     try clear p6
     obtain ⟨x39_2, rfl, HA, HK2, BK142001, BK142002, HB⟩ := hrel
     cases gk with
     | zero => exact absurd HA.out (by simp [impl_isState.l0])
     | succ k2 =>
      have H := HA.out
      clear HA
      simp only [impl_isState.l0] at H
      by_cases c25 : x39_2 < (l1_1.length : Int)
      ·rw [if_pos c25] at H
       have c25b0 : decide (x39_2 < (l1_1.length : Int)) = true := decide_eq_true c25
       clear c25
       by_cases c26 : 0 ≤ x39_2
       ·rw [if_pos c26] at H
        have c26b0 : decide (0 ≤ x39_2) = true := decide_eq_true c26
        clear c26
        by_cases c27 : x39_2 < (l1_1.length : Int)
        ·rw [if_pos c27] at H
         have c27b0 : decide (x39_2 < (l1_1.length : Int)) = true := decide_eq_true c27
         clear c27
         by_cases c28 : x39_2 = 0
         ·rw [if_pos c28] at H
          have c28b0 : (x39_2 == 0) = true := beq_iff_eq.mpr c28
          have c28b1 : (x39_2 != 0) = false := bne_eq_false_iff_eq.mpr c28
          clear c28
          by_cases c29 : (rd l1_1 x39_2) = 0
          ·rw [if_pos c29] at H
           have c29b0 : ((rd l1_1 x39_2) == 0) = true := beq_iff_eq.mpr c29
           have c29b1 : ((rd l1_1 x39_2) != 0) = false := bne_eq_false_iff_eq.mpr c29
           clear c29
           by_cases c30 : x39_2 > 0
           ·rw [if_pos c30] at H
            have c30b0 : decide (0 < x39_2) = true := decide_eq_true c30
            clear c30
            by_cases c31 : (rd l1_1 x39_2) < (-1)
            ·rw [if_pos c31] at H
             have c31b0 : decide ((rd l1_1 x39_2) < (-1)) = true := decide_eq_true c31
             clear c31
             obtain rfl := Option.some.inj H
             have p142004 : 0 ≤ (x39_2 : Int) := of_decide_eq_true (by first | (with_reducible assumption) | assumption)
             have q142004 : x39_2 < (l1_1.length : Int) := of_decide_eq_true (by first | (with_reducible assumption) | assumption)
             obtain ⟨ad142004, e142004, hx142004_0⟩ := Kd.at_int HR1_1.out x39_2 p142004 q142004
             cases e142004
             replace hx142004_0 := (HB.out.cell (World.block_lt_of_cell? w _ hx142004_0)).trans hx142004_0
             replace p142004 := eq_true p142004
             replace q142004 := eq_true q142004
             go_wp2
             go_ret
             exact ⟨by first | rfl | (simp [errW_none, errW_some] <;> rfl) | (simp [*, errW_none, errW_some] <;> rfl), by repeat (first | (with_reducible first | exact HB.out | apply below_alloc | apply pw_below_drewN | apply below_drew1 | refine below_set ?_ GE142001.out | refine below_set ?_ GE142002.out) | exact HB.out)⟩
            ·rw [if_neg c31] at H
             have c31b0 : decide ((rd l1_1 x39_2) < (-1)) = false := decide_eq_false c31
             clear c31
             by_cases c32 : (rd l1_1 x39_2) > (wrap64 (a1_0 - 1))
             ·rw [if_pos c32] at H
              have c32b0 : decide ((wrap64 (a1_0 - 1)) < (rd l1_1 x39_2)) = true := decide_eq_true c32
              clear c32
              obtain rfl := Option.some.inj H
              have p142004 : 0 ≤ (x39_2 : Int) := of_decide_eq_true (by first | (with_reducible assumption) | assumption)
              have q142004 : x39_2 < (l1_1.length : Int) := of_decide_eq_true (by first | (with_reducible assumption) | assumption)
              obtain ⟨ad142004, e142004, hx142004_0⟩ := Kd.at_int HR1_1.out x39_2 p142004 q142004
              cases e142004
              replace hx142004_0 := (HB.out.cell (World.block_lt_of_cell? w _ hx142004_0)).trans hx142004_0
              replace p142004 := eq_true p142004
              replace q142004 := eq_true q142004
              have hcz34_0 : wr.cell? ⟨gb142002, 0, none⟩ = some (.int .i64 a1_0) := (blk_cell BK142002.out 0).trans rfl
              have hcz34_1 : wr.cell? ⟨gb142002, 1, none⟩ = some (.slice (some ad142004) l1_1.length c1_1) := (blk_cell BK142002.out 1).trans rfl
              have hcz34_2 : wr.cell? ⟨gb142002, 2, none⟩ = some (.slice A1_2 l1_2.length c1_2) := (blk_cell BK142002.out 2).trans rfl
              go_wp2
              go_ret
              exact ⟨by first | rfl | (simp [errW_none, errW_some] <;> rfl) | (simp [*, errW_none, errW_some] <;> rfl), by repeat (first | (with_reducible first | exact HB.out | apply below_alloc | apply pw_below_drewN | apply below_drew1 | refine below_set ?_ GE142001.out | refine below_set ?_ GE142002.out) | exact HB.out)⟩
             ·rw [if_neg c32] at H
              have c32b0 : decide ((wrap64 (a1_0 - 1)) < (rd l1_1 x39_2)) = false := decide_eq_false c32
              clear c32
              have H' := Aside0.mk H
              clear H
              have p142004 : 0 ≤ (x39_2 : Int) := of_decide_eq_true (by first | (with_reducible assumption) | assumption)
              have q142004 : x39_2 < (l1_1.length : Int) := of_decide_eq_true (by first | (with_reducible assumption) | assumption)
              obtain ⟨ad142004, e142004, hx142004_0⟩ := Kd.at_int HR1_1.out x39_2 p142004 q142004
              cases e142004
              replace hx142004_0 := (HB.out.cell (World.block_lt_of_cell? w _ hx142004_0)).trans hx142004_0
              replace p142004 := eq_true p142004
              replace q142004 := eq_true q142004
              have hcz36_0 : wr.cell? ⟨gb142002, 0, none⟩ = some (.int .i64 a1_0) := (blk_cell BK142002.out 0).trans rfl
              have hcz36_1 : wr.cell? ⟨gb142002, 1, none⟩ = some (.slice (some ad142004) l1_1.length c1_1) := (blk_cell BK142002.out 1).trans rfl
              have hcz36_2 : wr.cell? ⟨gb142002, 2, none⟩ = some (.slice A1_2 l1_2.length c1_2) := (blk_cell BK142002.out 2).trans rfl
              go_wp2
              go_roundg k2
              case measure => have := HJ2.out; have := HK2.out; omega
              case rel => exact ⟨(wrap64 (x39_2 + 1)), (by first | rfl | (simp; done) | (simp [*]; done)), H', ⟨by have := HJ2.out; have := HK2.out; omega⟩, ⟨by (with_reducible repeat (first | refine blk_drewN ?_ _ | refine blk_drew ?_ | refine blk_alloc ?_ _)); exact BK142001.out⟩, ⟨by (with_reducible repeat (first | refine blk_drewN ?_ _ | refine blk_drew ?_ | refine blk_alloc ?_ _)); exact BK142002.out⟩, ⟨by repeat (first | (with_reducible first | exact HB.out | apply below_alloc | apply pw_below_drewN | apply below_drew1 | refine below_set ?_ GE142001.out | refine below_set ?_ GE142002.out) | exact HB.out)⟩⟩
           ·rw [if_neg c30] at H
            have c30b0 : decide (0 < x39_2) = false := decide_eq_false c30
            clear c30
            have H' := Aside0.mk H
            clear H
            have p142004 : 0 ≤ (x39_2 : Int) := of_decide_eq_true (by first | (with_reducible assumption) | assumption)
            have q142004 : x39_2 < (l1_1.length : Int) := of_decide_eq_true (by first | (with_reducible assumption) | assumption)
            obtain ⟨ad142004, e142004, hx142004_0⟩ := Kd.at_int HR1_1.out x39_2 p142004 q142004
            cases e142004
            replace hx142004_0 := (HB.out.cell (World.block_lt_of_cell? w _ hx142004_0)).trans hx142004_0
            replace p142004 := eq_true p142004
            replace q142004 := eq_true q142004
            go_wp2
            go_roundg k2
            case measure => have := HJ2.out; have := HK2.out; omega
            case rel => exact ⟨(wrap64 (x39_2 + 1)), (by first | rfl | (simp; done) | (simp [*]; done)), H', ⟨by have := HJ2.out; have := HK2.out; omega⟩, ⟨by (with_reducible repeat (first | refine blk_drewN ?_ _ | refine blk_drew ?_ | refine blk_alloc ?_ _)); exact BK142001.out⟩, ⟨by (with_reducible repeat (first | refine blk_drewN ?_ _ | refine blk_drew ?_ | refine blk_alloc ?_ _)); exact BK142002.out⟩, ⟨by repeat (first | (with_reducible first | exact HB.out | apply below_alloc | apply pw_below_drewN | apply below_drew1 | refine below_set ?_ GE142001.out | refine below_set ?_ GE142002.out) | exact HB.out)⟩⟩
          ·rw [if_neg c29] at H
           have c29b0 : ((rd l1_1 x39_2) == 0) = false := beq_eq_false_iff_ne.mpr c29
           have c29b1 : ((rd l1_1 x39_2) != 0) = true := bne_iff_ne.mpr c29
           obtain rfl := Option.some.inj H
           have p142004 : 0 ≤ (x39_2 : Int) := of_decide_eq_true (by first | (with_reducible assumption) | assumption)
           have q142004 : x39_2 < (l1_1.length : Int) := of_decide_eq_true (by first | (with_reducible assumption) | assumption)
           obtain ⟨ad142004, e142004, hx142004_0⟩ := Kd.at_int HR1_1.out x39_2 p142004 q142004
           cases e142004
           replace hx142004_0 := (HB.out.cell (World.block_lt_of_cell? w _ hx142004_0)).trans hx142004_0
           replace p142004 := eq_true p142004
           replace q142004 := eq_true q142004
           go_wp2
           go_ret
           exact ⟨by first | rfl | (simp [errW_none, errW_some] <;> rfl) | (simp [*, errW_none, errW_some] <;> rfl), by repeat (first | (with_reducible first | exact HB.out | apply below_alloc | apply pw_below_drewN | apply below_drew1 | refine below_set ?_ GE142001.out | refine below_set ?_ GE142002.out) | exact HB.out)⟩
         ·rw [if_neg c28] at H
          have c28b0 : (x39_2 == 0) = false := beq_eq_false_iff_ne.mpr c28
          have c28b1 : (x39_2 != 0) = true := bne_iff_ne.mpr c28
          by_cases c37 : x39_2 > 0
          ·rw [if_pos c37] at H
           have c37b0 : decide (0 < x39_2) = true := decide_eq_true c37
           clear c37
           by_cases c38 : (rd l1_1 x39_2) < (-1)
           ·rw [if_pos c38] at H
            have c38b0 : decide ((rd l1_1 x39_2) < (-1)) = true := decide_eq_true c38
            clear c38
            obtain rfl := Option.some.inj H
            have p142004 : 0 ≤ (x39_2 : Int) := of_decide_eq_true (by first | (with_reducible assumption) | assumption)
            have q142004 : x39_2 < (l1_1.length : Int) := of_decide_eq_true (by first | (with_reducible assumption) | assumption)
            obtain ⟨ad142004, e142004, hx142004_0⟩ := Kd.at_int HR1_1.out x39_2 p142004 q142004
            cases e142004
            replace hx142004_0 := (HB.out.cell (World.block_lt_of_cell? w _ hx142004_0)).trans hx142004_0
            replace p142004 := eq_true p142004
            replace q142004 := eq_true q142004
            go_wp2
            go_ret
            exact ⟨by first | rfl | (simp [errW_none, errW_some] <;> rfl) | (simp [*, errW_none, errW_some] <;> rfl), by repeat (first | (with_reducible first | exact HB.out | apply below_alloc | apply pw_below_drewN | apply below_drew1 | refine below_set ?_ GE142001.out | refine below_set ?_ GE142002.out) | exact HB.out)⟩
           ·rw [if_neg c38] at H
            have c38b0 : decide ((rd l1_1 x39_2) < (-1)) = false := decide_eq_false c38
            clear c38
            by_cases c39 : (rd l1_1 x39_2) > (wrap64 (a1_0 - 1))
            ·rw [if_pos c39] at H
             have c39b0 : decide ((wrap64 (a1_0 - 1)) < (rd l1_1 x39_2)) = true := decide_eq_true c39
             clear c39
             obtain rfl := Option.some.inj H
             have p142004 : 0 ≤ (x39_2 : Int) := of_decide_eq_true (by first | (with_reducible assumption) | assumption)
             have q142004 : x39_2 < (l1_1.length : Int) := of_decide_eq_true (by first | (with_reducible assumption) | assumption)
             obtain ⟨ad142004, e142004, hx142004_0⟩ := Kd.at_int HR1_1.out x39_2 p142004 q142004
             cases e142004
             replace hx142004_0 := (HB.out.cell (World.block_lt_of_cell? w _ hx142004_0)).trans hx142004_0
             replace p142004 := eq_true p142004
             replace q142004 := eq_true q142004
             have hcz41_0 : wr.cell? ⟨gb142002, 0, none⟩ = some (.int .i64 a1_0) := (blk_cell BK142002.out 0).trans rfl
             have hcz41_1 : wr.cell? ⟨gb142002, 1, none⟩ = some (.slice (some ad142004) l1_1.length c1_1) := (blk_cell BK142002.out 1).trans rfl
             have hcz41_2 : wr.cell? ⟨gb142002, 2, none⟩ = some (.slice A1_2 l1_2.length c1_2) := (blk_cell BK142002.out 2).trans rfl
             go_wp2
             go_ret
             exact ⟨by first | rfl | (simp [errW_none, errW_some] <;> rfl) | (simp [*, errW_none, errW_some] <;> rfl), by repeat (first | (with_reducible first | exact HB.out | apply below_alloc | apply pw_below_drewN | apply below_drew1 | refine below_set ?_ GE142001.out | refine below_set ?_ GE142002.out) | exact HB.out)⟩
            ·rw [if_neg c39] at H
             have c39b0 : decide ((wrap64 (a1_0 - 1)) < (rd l1_1 x39_2)) = false := decide_eq_false c39
             clear c39
             have H' := Aside0.mk H
             clear H
             have p142004 : 0 ≤ (x39_2 : Int) := of_decide_eq_true (by first | (with_reducible assumption) | assumption)
             have q142004 : x39_2 < (l1_1.length : Int) := of_decide_eq_true (by first | (with_reducible assumption) | assumption)
             obtain ⟨ad142004, e142004, hx142004_0⟩ := Kd.at_int HR1_1.out x39_2 p142004 q142004
             cases e142004
             replace hx142004_0 := (HB.out.cell (World.block_lt_of_cell? w _ hx142004_0)).trans hx142004_0
             replace p142004 := eq_true p142004
             replace q142004 := eq_true q142004
             have hcz43_0 : wr.cell? ⟨gb142002, 0, none⟩ = some (.int .i64 a1_0) := (blk_cell BK142002.out 0).trans rfl
             have hcz43_1 : wr.cell? ⟨gb142002, 1, none⟩ = some (.slice (some ad142004) l1_1.length c1_1) := (blk_cell BK142002.out 1).trans rfl
             have hcz43_2 : wr.cell? ⟨gb142002, 2, none⟩ = some (.slice A1_2 l1_2.length c1_2) := (blk_cell BK142002.out 2).trans rfl
             go_wp2
             go_roundg k2
             case measure => have := HJ2.out; have := HK2.out; omega
             case rel => exact ⟨(wrap64 (x39_2 + 1)), (by first | rfl | (simp; done) | (simp [*]; done)), H', ⟨by have := HJ2.out; have := HK2.out; omega⟩, ⟨by (with_reducible repeat (first | refine blk_drewN ?_ _ | refine blk_drew ?_ | refine blk_alloc ?_ _)); exact BK142001.out⟩, ⟨by (with_reducible repeat (first | refine blk_drewN ?_ _ | refine blk_drew ?_ | refine blk_alloc ?_ _)); exact BK142002.out⟩, ⟨by repeat (first | (with_reducible first | exact HB.out | apply below_alloc | apply pw_below_drewN | apply below_drew1 | refine below_set ?_ GE142001.out | refine below_set ?_ GE142002.out) | exact HB.out)⟩⟩
          ·rw [if_neg c37] at H
           have c37b0 : decide (0 < x39_2) = false := decide_eq_false c37
           clear c37
           have H' := Aside0.mk H
           clear H
           have p142004 : 0 ≤ (x39_2 : Int) := of_decide_eq_true (by first | (with_reducible assumption) | assumption)
           have q142004 : x39_2 < (l1_1.length : Int) := of_decide_eq_true (by first | (with_reducible assumption) | assumption)
           obtain ⟨ad142004, e142004, hx142004_0⟩ := Kd.at_int HR1_1.out x39_2 p142004 q142004
           cases e142004
           replace hx142004_0 := (HB.out.cell (World.block_lt_of_cell? w _ hx142004_0)).trans hx142004_0
           replace p142004 := eq_true p142004
           replace q142004 := eq_true q142004
           go_wp2
           go_roundg k2
           case measure => have := HJ2.out; have := HK2.out; omega
           case rel => exact ⟨(wrap64 (x39_2 + 1)), (by first | rfl | (simp; done) | (simp [*]; done)), H', ⟨by have := HJ2.out; have := HK2.out; omega⟩, ⟨by (with_reducible repeat (first | refine blk_drewN ?_ _ | refine blk_drew ?_ | refine blk_alloc ?_ _)); exact BK142001.out⟩, ⟨by (with_reducible repeat (first | refine blk_drewN ?_ _ | refine blk_drew ?_ | refine blk_alloc ?_ _)); exact BK142002.out⟩, ⟨by repeat (first | (with_reducible first | exact HB.out | apply below_alloc | apply pw_below_drewN | apply below_drew1 | refine below_set ?_ GE142001.out | refine below_set ?_ GE142002.out) | exact HB.out)⟩⟩
        ·rw [if_neg c27] at H
         exact absurd H (by simp)
       ·rw [if_neg c26] at H
        exact absurd H (by simp)
      ·rw [if_neg c25] at H
       have c25b0 : decide (x39_2 < (l1_1.length : Int)) = false := decide_eq_false c25
       clear c25
       have H' := Aside0.mk H
       clear H
       have hcz45_0 : wr.cell? ⟨gb142002, 0, none⟩ = some (.int .i64 a1_0) := (blk_cell BK142002.out 0).trans rfl
       have hcz45_1 : wr.cell? ⟨gb142002, 1, none⟩ = some (.slice A1_1 l1_1.length c1_1) := (blk_cell BK142002.out 1).trans rfl
       have hcz45_2 : wr.cell? ⟨gb142002, 2, none⟩ = some (.slice A1_2 l1_2.length c1_2) := (blk_cell BK142002.out 2).trans rfl
       go_wp2
       go_loopg [69] k2 (fun kq v69 w' => ∃ (x69_3 : Int), v69 = .int .i64 x69_3 ∧ Aside0 (impl_isState.l1 kq l1_2 (l1_2.length : Int) x69_3 l0_0 l0_1 a0_2 a1_0 l1_1 l1_2 = some r) ∧ Aside0 (kq ≤ k2) ∧ Aside0 (w'.heap[gb142001]? = some (.cells #[(.slice A0_0 l0_0.length c0_0), (.slice A0_1 l0_1.length c0_1), .int .i64 a0_2] 35 (0, 0))) ∧ Aside0 (w'.heap[gb142002]? = some (.cells #[.int .i64 a1_0, (.slice A1_1 l1_1.length c1_1), (.slice A1_2 l1_2.length c1_2)] 66 (0, 0))) ∧ Aside0 (Below w.heap.size w w'))
       case atStart => exact ⟨(0), (by first | rfl | (simp; done) | (simp [*]; done)), H', ⟨Nat.le_refl _⟩, ⟨by (with_reducible repeat (first | refine blk_drewN ?_ _ | refine blk_drew ?_ | refine blk_alloc ?_ _)); exact BK142001.out⟩, ⟨by (with_reducible repeat (first | refine blk_drewN ?_ _ | refine blk_drew ?_ | refine blk_alloc ?_ _)); exact BK142002.out⟩, ⟨by repeat (first | (with_reducible first | exact HB.out | apply below_alloc | apply pw_below_drewN | apply below_drew1 | refine below_set ?_ GE142001.out | refine below_set ?_ GE142002.out) | exact HB.out)⟩⟩
       case round =>
        clear H'
        try clear c1
        try clear p1
        try clear q1
        try clear hx1
        try clear c2
        try clear p2
        try clear c3
        try clear c4
        try clear c6
        try clear c6b0
        try clear p6
        try clear c7
        try clear c9
        try clear c9b0
        try clear c10
        try clear c13
        try clear c13b0
        try clear c13b1
        try clear c13b2
        try clear c14
        try clear p14
        try clear q14
        try clear hx14
        try clear c15
        try clear c19
        try clear c22
        try clear c23
        try clear c25
        try clear c25b0
        try clear c26
        try clear c26b0
        try clear c27
        try clear c27b0
        try clear c28
        try clear c28b0
        try clear c28b1
        try clear c29
        try clear c29b0
        try clear c29b1
        try clear c30
        try clear c30b0
        try clear c31
        try clear c31b0
        try clear c32
        try clear c32b0
        try clear c33
        try clear c35
        try clear c37
        try clear c37b0
        try clear c38
        try clear c38b0
        try clear c39
        try clear c39b0
        try clear c40
        try clear c42
        try clear c44
        try clear hcz11_0
        try clear hcz11_1
        try clear hcz11_2
        try clear hcz12_0
        try clear hcz12_1
        try clear hcz12_2
        try clear hcz16_0
        try clear hcz16_1
        try clear hcz16_2
        try clear hcz17_0
        try clear hcz17_1
        try clear hcz17_2
        try clear hcz20_0
        try clear hcz20_1
        try clear hcz20_2
        try clear hcz21_0
        try clear hcz21_1
        try clear hcz21_2
        try clear hcz24_0
        try clear hcz24_1
        try clear hcz24_2
        try clear hcz34_0
        try clear hcz34_1
        try clear hcz34_2
        try clear hcz36_0
        try clear hcz36_1
        try clear hcz36_2
        try clear hcz41_0
        try clear hcz41_1
        try clear hcz41_2
        try clear hcz43_0
        try clear hcz43_1
        try clear hcz43_2
        try clear hcz45_0
        try clear hcz45_1
        try clear hcz45_2
        try clear hcz8_0
        try clear hcz8_1
        try clear hcz8_2
        try clear hfz11_0
        try clear hfz11_1
        try clear hfz11_2
        try clear hfz12_0
        try clear hfz12_1
        try clear hfz12_2
        try clear hfz16_0
        try clear hfz16_1
        try clear hfz16_2
        try clear hfz17_0
        try clear hfz17_1
        try clear hfz17_2
        try clear hfz20_0
        try clear hfz20_1
        try clear hfz20_2
        try clear hfz21_0
        try clear hfz21_1
        try clear hfz21_2
        try clear hfz24_0
        try clear hfz24_1
        try clear hfz24_2
        try clear hfz34_0
        try clear hfz34_1
        try clear hfz34_2
        try clear hfz36_0
        try clear hfz36_1
        try clear hfz36_2
        try clear hfz41_0
        try clear hfz41_1
        try clear hfz41_2
        try clear hfz43_0
        try clear hfz43_1
        try clear hfz43_2
        try clear hfz45_0
        try clear hfz45_1
        try clear hfz45_2
        try clear hfz8_0
        try clear hfz8_1
        try clear hfz8_2
        try clear hx142004_0
        try clear p142004
        try clear p2
        try clear p6
        try clear q142004
        obtain ⟨x69_3, rfl, HA, HK3, BK142001, BK142002, HB⟩ := hrel
        cases gk with
        | zero => exact absurd HA.out (by simp [impl_isState.l1])
        | succ k3 =>
         have H := HA.out
         clear HA
         simp only [impl_isState.l1] at H
         by_cases c46 : x69_3 < (l1_2.length : Int)
         ·rw [if_pos c46] at H
          have c46b0 : decide (x69_3 < (l1_2.length : Int)) = true := decide_eq_true c46
          clear c46
          by_cases c47 : 0 ≤ x69_3
          ·rw [if_pos c47] at H
           have c47b0 : decide (0 ≤ x69_3) = true := decide_eq_true c47
           clear c47
           by_cases c48 : x69_3 < (l1_2.length : Int)
           ·rw [if_pos c48] at H
            have c48b0 : decide (x69_3 < (l1_2.length : Int)) = true := decide_eq_true c48
            clear c48
            replace H := Option.bind_eq_some_iff.mp H
            obtain ⟨t142006, A490, H⟩ := H; have A49 := Aside0.mk A490; clear A490
            by_cases c50 : t142006 ≥ 0
            ·rw [if_pos c50] at H
             have c50b0 : decide (0 ≤ t142006) = true := decide_eq_true c50
             clear c50
             by_cases c51 : 0 ≤ t142006
             ·rw [if_pos c51] at H
              have c51b0 : decide (0 ≤ t142006) = true := decide_eq_true c51
              clear c51
              by_cases c52 : t142006 < (l1_1.length : Int)
              ·rw [if_pos c52] at H
               have c52b0 : decide (t142006 < (l1_1.length : Int)) = true := decide_eq_true c52
               clear c52
               by_cases c53 : (((rd l1_2 x69_3) != 0) != ((rd l1_1 t142006) != (-1))) = true
               ·rw [if_pos c53] at H
                have c53b0 : (((rd l1_2 x69_3) != 0) != ((rd l1_1 t142006) != (-1))) = true := c53
                (try (have c53b1 : decide (((rd l1_2 x69_3) != 0) = ((rd l1_1 t142006) != (-1))) = false := by simpa using c53))
                (try (have c53b2 : (((rd l1_2 x69_3) != 0) == ((rd l1_1 t142006) != (-1))) = false := by simpa using c53))
                (try (have c53b3 : ¬ (((rd l1_2 x69_3) != 0) = ((rd l1_1 t142006) != (-1))) := by simpa using c53))
                clear c53
                obtain rfl := Option.some.inj H
                have p142005 : 0 ≤ (x69_3 : Int) := of_decide_eq_true (by first | (with_reducible assumption) | assumption)
                have q142005 : x69_3 < (l1_2.length : Int) := of_decide_eq_true (by first | (with_reducible assumption) | assumption)
                obtain ⟨ad142005, e142005, hx142005_0⟩ := Kd.at_int HR1_2.out x69_3 p142005 q142005
                cases e142005
                replace hx142005_0 := (HB.out.cell (World.block_lt_of_cell? w _ hx142005_0)).trans hx142005_0
                replace p142005 := eq_true p142005
                replace q142005 := eq_true q142005
                have hcz55_0 : wr.cell? ⟨gb142001, 0, none⟩ = some (.slice A0_0 l0_0.length c0_0) := (blk_cell BK142001.out 0).trans rfl
                have hcz55_1 : wr.cell? ⟨gb142001, 1, none⟩ = some (.slice A0_1 l0_1.length c0_1) := (blk_cell BK142001.out 1).trans rfl
                have hcz55_2 : wr.cell? ⟨gb142001, 2, none⟩ = some (.int .i64 a0_2) := (blk_cell BK142001.out 2).trans rfl
                go_wp2_with (first | ((with_reducible refine gate_callee (f := 126) rfl ?_); refine goesL_ (some 77) rfl rfl Try.func126 (by kernel_rfl) rfl #[.agg #[.slice A0_0 l0_0.length c0_0, .slice A0_1 l0_1.length c0_1, .int .i64 a0_2], .int .i64 (wrap64 (x69_3 + 1))] rfl (by (try simp only [List.map_toArray, List.map_cons, List.map_nil]); first | done | rfl | (simp only [List.length_drop, List.length_take]; rfl)) ?_; (with_reducible refine (impl_watcher.calls _ _ l0_0 _ _ l0_1 a0_2 (wrap64 (x69_3 + 1)) t142006 _ ?side1 ?side2 ?side3 ?side4 A49.out).mono ?_); (case side1 => repeat (first | exact (Kd.C_below HR0_0.out HB.out) | (with_reducible refine Kd.C_alloc ?_ _) | (with_reducible refine Kd.C_drewN ?_ _) | (with_reducible refine Kd.C_drew ?_))); (case side2 => exact HC0_0.out); (case side3 => repeat (first | exact (Kd.C_below HR0_1.out HB.out) | (with_reducible refine Kd.C_alloc ?_ _) | (with_reducible refine Kd.C_drewN ?_ _) | (with_reducible refine Kd.C_drew ?_))); (case side4 => exact HC0_1.out); rintro e w56 ⟨rfl, hb⟩; refine ⟨_, rfl, ?_⟩; have n0_ := Aside0.mk (blk_below (g := gb142001) (o := .cells #[.slice A0_0 l0_0.length c0_0, .slice A0_1 l0_1.length c0_1, .int .i64 a0_2] 35 (0, 0)) (by (with_reducible repeat (first | refine blk_drewN ?_ _ | refine blk_drew ?_ | refine blk_alloc ?_ _)); exact BK142001.out) hb); have n1_ := Aside0.mk (blk_below (g := gb142002) (o := .cells #[.int .i64 a1_0, .slice A1_1 l1_1.length c1_1, .slice (some ad142005) l1_2.length c1_2] 66 (0, 0)) (by (with_reducible repeat (first | refine blk_drewN ?_ _ | refine blk_drew ?_ | refine blk_alloc ?_ _)); exact BK142002.out) hb); have n2_ := Aside0.mk (below_step (by repeat (first | (with_reducible first | exact HB.out | apply below_alloc | apply pw_below_drewN | apply below_drew1 | refine below_set ?_ GE142001.out | refine below_set ?_ GE142002.out) | exact HB.out)) hb); clear BK142001; clear BK142002; clear HB; have BK142001 := n0_; have BK142002 := n1_; have HB := n2_; clear n0_ n1_ n2_; have hcz57_0 : w56.cell? ⟨gb142002, 0, none⟩ = some (.int .i64 a1_0) := (blk_cell BK142002.out 0).trans rfl; have hcz57_1 : w56.cell? ⟨gb142002, 1, none⟩ = some (.slice A1_1 l1_1.length c1_1) := (blk_cell BK142002.out 1).trans rfl; have hcz57_2 : w56.cell? ⟨gb142002, 2, none⟩ = some (.slice (some ad142005) l1_2.length c1_2) := (blk_cell BK142002.out 2).trans rfl; have p142007 : 0 ≤ (t142006 : Int) := of_decide_eq_true (by first | (with_reducible assumption) | assumption); have q142007 : t142006 < (l1_1.length : Int) := of_decide_eq_true (by first | (with_reducible assumption) | assumption); obtain ⟨ad142007, e142007, hx142007_0⟩ := Kd.at_int HR1_1.out t142006 p142007 q142007; cases e142007; replace hx142007_0 := (HB.out.cell (World.block_lt_of_cell? w _ hx142007_0)).trans hx142007_0; replace p142007 := eq_true p142007; replace q142007 := eq_true q142007))
                go_ret
                exact ⟨by first | rfl | (simp [errW_none, errW_some] <;> rfl) | (simp [*, errW_none, errW_some] <;> rfl), by repeat (first | (with_reducible first | exact HB.out | apply below_alloc | apply pw_below_drewN | apply below_drew1 | refine below_set ?_ GE142001.out | refine below_set ?_ GE142002.out) | exact HB.out)⟩
               ·rw [if_neg c53] at H
                have c53b0 : (((rd l1_2 x69_3) != 0) != ((rd l1_1 t142006) != (-1))) = false := by simpa using c53
                (try (have c53b1 : decide (((rd l1_2 x69_3) != 0) = ((rd l1_1 t142006) != (-1))) = true := by simpa using c53))
                (try (have c53b2 : (((rd l1_2 x69_3) != 0) == ((rd l1_1 t142006) != (-1))) = true := by simpa using c53))
                clear c53
                have H' := Aside0.mk H
                clear H
                have p142005 : 0 ≤ (x69_3 : Int) := of_decide_eq_true (by first | (with_reducible assumption) | assumption)
                have q142005 : x69_3 < (l1_2.length : Int) := of_decide_eq_true (by first | (with_reducible assumption) | assumption)
                obtain ⟨ad142005, e142005, hx142005_0⟩ := Kd.at_int HR1_2.out x69_3 p142005 q142005
                cases e142005
                replace hx142005_0 := (HB.out.cell (World.block_lt_of_cell? w _ hx142005_0)).trans hx142005_0
                replace p142005 := eq_true p142005
                replace q142005 := eq_true q142005
                have hcz59_0 : wr.cell? ⟨gb142001, 0, none⟩ = some (.slice A0_0 l0_0.length c0_0) := (blk_cell BK142001.out 0).trans rfl
                have hcz59_1 : wr.cell? ⟨gb142001, 1, none⟩ = some (.slice A0_1 l0_1.length c0_1) := (blk_cell BK142001.out 1).trans rfl
                have hcz59_2 : wr.cell? ⟨gb142001, 2, none⟩ = some (.int .i64 a0_2) := (blk_cell BK142001.out 2).trans rfl
                go_wp2_with (first | ((with_reducible refine gate_callee (f := 126) rfl ?_); refine goesL_ (some 77) rfl rfl Try.func126 (by kernel_rfl) rfl #[.agg #[.slice A0_0 l0_0.length c0_0, .slice A0_1 l0_1.length c0_1, .int .i64 a0_2], .int .i64 (wrap64 (x69_3 + 1))] rfl (by (try simp only [List.map_toArray, List.map_cons, List.map_nil]); first | done | rfl | (simp only [List.length_drop, List.length_take]; rfl)) ?_; (with_reducible refine (impl_watcher.calls _ _ l0_0 _ _ l0_1 a0_2 (wrap64 (x69_3 + 1)) t142006 _ ?side1 ?side2 ?side3 ?side4 A49.out).mono ?_); (case side1 => repeat (first | exact (Kd.C_below HR0_0.out HB.out) | (with_reducible refine Kd.C_alloc ?_ _) | (with_reducible refine Kd.C_drewN ?_ _) | (with_reducible refine Kd.C_drew ?_))); (case side2 => exact HC0_0.out); (case side3 => repeat (first | exact (Kd.C_below HR0_1.out HB.out) | (with_reducible refine Kd.C_alloc ?_ _) | (with_reducible refine Kd.C_drewN ?_ _) | (with_reducible refine Kd.C_drew ?_))); (case side4 => exact HC0_1.out); rintro e w60 ⟨rfl, hb⟩; refine ⟨_, rfl, ?_⟩; have n0_ := Aside0.mk (blk_below (g := gb142001) (o := .cells #[.slice A0_0 l0_0.length c0_0, .slice A0_1 l0_1.length c0_1, .int .i64 a0_2] 35 (0, 0)) (by (with_reducible repeat (first | refine blk_drewN ?_ _ | refine blk_drew ?_ | refine blk_alloc ?_ _)); exact BK142001.out) hb); have n1_ := Aside0.mk (blk_below (g := gb142002) (o := .cells #[.int .i64 a1_0, .slice A1_1 l1_1.length c1_1, .slice (some ad142005) l1_2.length c1_2] 66 (0, 0)) (by (with_reducible repeat (first | refine blk_drewN ?_ _ | refine blk_drew ?_ | refine blk_alloc ?_ _)); exact BK142002.out) hb); have n2_ := Aside0.mk (below_step (by repeat (first | (with_reducible first | exact HB.out | apply below_alloc | apply pw_below_drewN | apply below_drew1 | refine below_set ?_ GE142001.out | refine below_set ?_ GE142002.out) | exact HB.out)) hb); clear BK142001; clear BK142002; clear HB; have BK142001 := n0_; have BK142002 := n1_; have HB := n2_; clear n0_ n1_ n2_; have hcz61_0 : w60.cell? ⟨gb142002, 0, none⟩ = some (.int .i64 a1_0) := (blk_cell BK142002.out 0).trans rfl; have hcz61_1 : w60.cell? ⟨gb142002, 1, none⟩ = some (.slice A1_1 l1_1.length c1_1) := (blk_cell BK142002.out 1).trans rfl; have hcz61_2 : w60.cell? ⟨gb142002, 2, none⟩ = some (.slice (some ad142005) l1_2.length c1_2) := (blk_cell BK142002.out 2).trans rfl; have p142007 : 0 ≤ (t142006 : Int) := of_decide_eq_true (by first | (with_reducible assumption) | assumption); have q142007 : t142006 < (l1_1.length : Int) := of_decide_eq_true (by first | (with_reducible assumption) | assumption); obtain ⟨ad142007, e142007, hx142007_0⟩ := Kd.at_int HR1_1.out t142006 p142007 q142007; cases e142007; replace hx142007_0 := (HB.out.cell (World.block_lt_of_cell? w _ hx142007_0)).trans hx142007_0; replace p142007 := eq_true p142007; replace q142007 := eq_true q142007))
                go_roundg k3
                case measure => have := HJ2.out; have := HK2.out; have := HK3.out; omega
                case rel => exact ⟨(wrap64 (x69_3 + 1)), (by first | rfl | (simp; done) | (simp [*]; done)), H', ⟨by have := HJ2.out; have := HK2.out; have := HK3.out; omega⟩, ⟨by (with_reducible repeat (first | refine blk_drewN ?_ _ | refine blk_drew ?_ | refine blk_alloc ?_ _)); exact BK142001.out⟩, ⟨by (with_reducible repeat (first | refine blk_drewN ?_ _ | refine blk_drew ?_ | refine blk_alloc ?_ _)); exact BK142002.out⟩, ⟨by repeat (first | (with_reducible first | exact HB.out | apply below_alloc | apply pw_below_drewN | apply below_drew1 | refine below_set ?_ GE142001.out | refine below_set ?_ GE142002.out) | exact HB.out)⟩⟩
              ·rw [if_neg c52] at H
               exact absurd H (by simp)
             ·rw [if_neg c51] at H
              exact absurd H (by simp)
            ·rw [if_neg c50] at H
             have c50b0 : decide (0 ≤ t142006) = false := decide_eq_false c50
             clear c50
             by_cases c62 : (((rd l1_2 x69_3) != 0) != false) = true
             ·rw [if_pos c62] at H
              have c62b0 : (((rd l1_2 x69_3) != 0) != false) = true := c62
              (try (have c62b1 : decide (((rd l1_2 x69_3) != 0) = false) = false := by simpa using c62))
              (try (have c62b2 : (((rd l1_2 x69_3) != 0) == false) = false := by simpa using c62))
              (try (have c62b3 : ¬ (((rd l1_2 x69_3) != 0) = false) := by simpa using c62))
              clear c62
              obtain rfl := Option.some.inj H
              have p142005 : 0 ≤ (x69_3 : Int) := of_decide_eq_true (by first | (with_reducible assumption) | assumption)
              have q142005 : x69_3 < (l1_2.length : Int) := of_decide_eq_true (by first | (with_reducible assumption) | assumption)
              obtain ⟨ad142005, e142005, hx142005_0⟩ := Kd.at_int HR1_2.out x69_3 p142005 q142005
              cases e142005
              replace hx142005_0 := (HB.out.cell (World.block_lt_of_cell? w _ hx142005_0)).trans hx142005_0
              replace p142005 := eq_true p142005
              replace q142005 := eq_true q142005
              have hcz64_0 : wr.cell? ⟨gb142001, 0, none⟩ = some (.slice A0_0 l0_0.length c0_0) := (blk_cell BK142001.out 0).trans rfl
              have hcz64_1 : wr.cell? ⟨gb142001, 1, none⟩ = some (.slice A0_1 l0_1.length c0_1) := (blk_cell BK142001.out 1).trans rfl
              have hcz64_2 : wr.cell? ⟨gb142001, 2, none⟩ = some (.int .i64 a0_2) := (blk_cell BK142001.out 2).trans rfl
              go_wp2_with (first | ((with_reducible refine gate_callee (f := 126) rfl ?_); refine goesL_ (some 77) rfl rfl Try.func126 (by kernel_rfl) rfl #[.agg #[.slice A0_0 l0_0.length c0_0, .slice A0_1 l0_1.length c0_1, .int .i64 a0_2], .int .i64 (wrap64 (x69_3 + 1))] rfl (by (try simp only [List.map_toArray, List.map_cons, List.map_nil]); first | done | rfl | (simp only [List.length_drop, List.length_take]; rfl)) ?_; (with_reducible refine (impl_watcher.calls _ _ l0_0 _ _ l0_1 a0_2 (wrap64 (x69_3 + 1)) t142006 _ ?side1 ?side2 ?side3 ?side4 A49.out).mono ?_); (case side1 => repeat (first | exact (Kd.C_below HR0_0.out HB.out) | (with_reducible refine Kd.C_alloc ?_ _) | (with_reducible refine Kd.C_drewN ?_ _) | (with_reducible refine Kd.C_drew ?_))); (case side2 => exact HC0_0.out); (case side3 => repeat (first | exact (Kd.C_below HR0_1.out HB.out) | (with_reducible refine Kd.C_alloc ?_ _) | (with_reducible refine Kd.C_drewN ?_ _) | (with_reducible refine Kd.C_drew ?_))); (case side4 => exact HC0_1.out); rintro e w65 ⟨rfl, hb⟩; refine ⟨_, rfl, ?_⟩; have n0_ := Aside0.mk (blk_below (g := gb142001) (o := .cells #[.slice A0_0 l0_0.length c0_0, .slice A0_1 l0_1.length c0_1, .int .i64 a0_2] 35 (0, 0)) (by (with_reducible repeat (first | refine blk_drewN ?_ _ | refine blk_drew ?_ | refine blk_alloc ?_ _)); exact BK142001.out) hb); have n1_ := Aside0.mk (blk_below (g := gb142002) (o := .cells #[.int .i64 a1_0, .slice A1_1 l1_1.length c1_1, .slice (some ad142005) l1_2.length c1_2] 66 (0, 0)) (by (with_reducible repeat (first | refine blk_drewN ?_ _ | refine blk_drew ?_ | refine blk_alloc ?_ _)); exact BK142002.out) hb); have n2_ := Aside0.mk (below_step (by repeat (first | (with_reducible first | exact HB.out | apply below_alloc | apply pw_below_drewN | apply below_drew1 | refine below_set ?_ GE142001.out | refine below_set ?_ GE142002.out) | exact HB.out)) hb); clear BK142001; clear BK142002; clear HB; have BK142001 := n0_; have BK142002 := n1_; have HB := n2_; clear n0_ n1_ n2_; (try clear hi)))
              go_ret
              exact ⟨by first | rfl | (simp [errW_none, errW_some] <;> rfl) | (simp [*, errW_none, errW_some] <;> rfl), by repeat (first | (with_reducible first | exact HB.out | apply below_alloc | apply pw_below_drewN | apply below_drew1 | refine below_set ?_ GE142001.out | refine below_set ?_ GE142002.out) | exact HB.out)⟩
             ·rw [if_neg c62] at H
              have c62b0 : (((rd l1_2 x69_3) != 0) != false) = false := by simpa using c62
              (try (have c62b1 : decide (((rd l1_2 x69_3) != 0) = false) = true := by simpa using c62))
              (try (have c62b2 : (((rd l1_2 x69_3) != 0) == false) = true := by simpa using c62))
              clear c62
              have H' := Aside0.mk H
              clear H
              have p142005 : 0 ≤ (x69_3 : Int) := of_decide_eq_true (by first | (with_reducible assumption) | assumption)
              have q142005 : x69_3 < (l1_2.length : Int) := of_decide_eq_true (by first | (with_reducible assumption) | assumption)
              obtain ⟨ad142005, e142005, hx142005_0⟩ := Kd.at_int HR1_2.out x69_3 p142005 q142005
              cases e142005
              replace hx142005_0 := (HB.out.cell (World.block_lt_of_cell? w _ hx142005_0)).trans hx142005_0
              replace p142005 := eq_true p142005
              replace q142005 := eq_true q142005
              have hcz67_0 : wr.cell? ⟨gb142001, 0, none⟩ = some (.slice A0_0 l0_0.length c0_0) := (blk_cell BK142001.out 0).trans rfl
              have hcz67_1 : wr.cell? ⟨gb142001, 1, none⟩ = some (.slice A0_1 l0_1.length c0_1) := (blk_cell BK142001.out 1).trans rfl
              have hcz67_2 : wr.cell? ⟨gb142001, 2, none⟩ = some (.int .i64 a0_2) := (blk_cell BK142001.out 2).trans rfl
              go_wp2_with (first | ((with_reducible refine gate_callee (f := 126) rfl ?_); refine goesL_ (some 77) rfl rfl Try.func126 (by kernel_rfl) rfl #[.agg #[.slice A0_0 l0_0.length c0_0, .slice A0_1 l0_1.length c0_1, .int .i64 a0_2], .int .i64 (wrap64 (x69_3 + 1))] rfl (by (try simp only [List.map_toArray, List.map_cons, List.map_nil]); first | done | rfl | (simp only [List.length_drop, List.length_take]; rfl)) ?_; (with_reducible refine (impl_watcher.calls _ _ l0_0 _ _ l0_1 a0_2 (wrap64 (x69_3 + 1)) t142006 _ ?side1 ?side2 ?side3 ?side4 A49.out).mono ?_); (case side1 => repeat (first | exact (Kd.C_below HR0_0.out HB.out) | (with_reducible refine Kd.C_alloc ?_ _) | (with_reducible refine Kd.C_drewN ?_ _) | (with_reducible refine Kd.C_drew ?_))); (case side2 => exact HC0_0.out); (case side3 => repeat (first | exact (Kd.C_below HR0_1.out HB.out) | (with_reducible refine Kd.C_alloc ?_ _) | (with_reducible refine Kd.C_drewN ?_ _) | (with_reducible refine Kd.C_drew ?_))); (case side4 => exact HC0_1.out); rintro e w68 ⟨rfl, hb⟩; refine ⟨_, rfl, ?_⟩; have n0_ := Aside0.mk (blk_below (g := gb142001) (o := .cells #[.slice A0_0 l0_0.length c0_0, .slice A0_1 l0_1.length c0_1, .int .i64 a0_2] 35 (0, 0)) (by (with_reducible repeat (first | refine blk_drewN ?_ _ | refine blk_drew ?_ | refine blk_alloc ?_ _)); exact BK142001.out) hb); have n1_ := Aside0.mk (blk_below (g := gb142002) (o := .cells #[.int .i64 a1_0, .slice A1_1 l1_1.length c1_1, .slice (some ad142005) l1_2.length c1_2] 66 (0, 0)) (by (with_reducible repeat (first | refine blk_drewN ?_ _ | refine blk_drew ?_ | refine blk_alloc ?_ _)); exact BK142002.out) hb); have n2_ := Aside0.mk (below_step (by repeat (first | (with_reducible first | exact HB.out | apply below_alloc | apply pw_below_drewN | apply below_drew1 | refine below_set ?_ GE142001.out | refine below_set ?_ GE142002.out) | exact HB.out)) hb); clear BK142001; clear BK142002; clear HB; have BK142001 := n0_; have BK142002 := n1_; have HB := n2_; clear n0_ n1_ n2_; (try clear hi)))
              go_roundg k3
              case measure => have := HJ2.out; have := HK2.out; have := HK3.out; omega
              case rel => exact ⟨(wrap64 (x69_3 + 1)), (by first | rfl | (simp; done) | (simp [*]; done)), H', ⟨by have := HJ2.out; have := HK2.out; have := HK3.out; omega⟩, ⟨by (with_reducible repeat (first | refine blk_drewN ?_ _ | refine blk_drew ?_ | refine blk_alloc ?_ _)); exact BK142001.out⟩, ⟨by (with_reducible repeat (first | refine blk_drewN ?_ _ | refine blk_drew ?_ | refine blk_alloc ?_ _)); exact BK142002.out⟩, ⟨by repeat (first | (with_reducible first | exact HB.out | apply below_alloc | apply pw_below_drewN | apply below_drew1 | refine below_set ?_ GE142001.out | refine below_set ?_ GE142002.out) | exact HB.out)⟩⟩
           ·rw [if_neg c48] at H
            exact absurd H (by simp)
          ·rw [if_neg c47] at H
           exact absurd H (by simp)
         ·rw [if_neg c46] at H
          have c46b0 : decide (x69_3 < (l1_2.length : Int)) = false := decide_eq_false c46
          clear c46
          obtain rfl := Option.some.inj H
          go_wp2
          go_ret
          exact ⟨by first | rfl | (simp [errW_none, errW_some] <;> rfl) | (simp [*, errW_none, errW_some] <;> rfl), by repeat (first | (with_reducible first | exact HB.out | apply below_alloc | apply pw_below_drewN | apply below_drew1 | refine below_set ?_ GE142001.out | refine below_set ?_ GE142002.out) | exact HB.out)⟩

end Go.Proofs.Ytodfnelilhjoeaa.Pr

