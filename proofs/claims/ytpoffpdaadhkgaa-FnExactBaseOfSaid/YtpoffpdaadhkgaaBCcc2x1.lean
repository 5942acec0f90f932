/- The texts of one claim, put together by a program of this session. -/
import Derived.Test.YtpoffpdaadhkgaaBCcc1x1
import Derived.Test.YtpoffpdaadhkgaaBCcc1x10
import Derived.Test.YtpoffpdaadhkgaaBCcc1x3
import Derived.Test.YtpoffpdaadhkgaaBCcc1x4
import Derived.Test.YtpoffpdaadhkgaaBCcc1x8
namespace Go.Proofs.Ytpoffpdaadhkgaa.Pr
open Go.RowKit Go.Proofs.YtpoffpdaadhkgaaW.PrintWords Go.Proofs.YtpoffpdaadhkgaaW.PrintLast Go.Proofs.YtpoffpdaadhkgaaW.PrintMore
attribute [local go_sem] max2_int min2_int max_two min_two max_three min_three max_four min_four
set_option linter.unusedVariables false
set_option linter.unusedSimpArgs false

/-! ### spec_l12Base: function 107 -/
def spec_l12Base.l0 : Nat → Int → Int → Int → Int → List (S120) → List (S126) → Int → Option (Int × Int × Int × Bool)
  | 0, _, _, _, _, _, _, _ => none
  | k + 1, x1, x8, x9, x10, x107002000, x107002001, x107002002 => if x10 ≤ (x107002000.length : Int) then ((spec_l08Free.f k x107002000 x107002001 x107002002 x1).bind fun t107002 => (if t107002 < 0 then (some (x1, x8, x9, true)) else (if 0 ≤ t107002 then (if t107002 < (x107002001.length : Int) then (spec_l12Base.l0 k ((rd_T126 x107002001 t107002).f0) (wrap64 (x8 + ((rd_T126 x107002001 t107002).f2))) (wrap64 (x9 + ((rd_T126 x107002001 t107002).f3))) (wrap64 (x10 + 1)) x107002000 x107002001 x107002002) else (none)) else (none)))) else (some ((-1), 0, 0, false))
def spec_l12Base.f (k : Nat) (l0_0 : List (S120)) (l0_1 : List (S126)) (a0_2 : Int) (a1 : Int) : Option (Int × Int × Int × Bool) := spec_l12Base.l0 k a1 0 0 0 l0_0 l0_1 a0_2
set_option maxHeartbeats 8000000 in
set_option maxRecDepth 100000 in
theorem spec_l12Base.calls (k : Nat) (A0_0 : Option Addr) (c0_0 : Nat) (l0_0 : List (S120)) (A0_1 : Option Addr) (c0_1 : Nat) (l0_1 : List (S126)) (a0_2 : Int) (a1 : Int) (r1 : Int) (r2 : Int) (r3 : Int) (r4 : Bool) (w : World) (hr0_0 : Kd.C k120 w A0_0 l0_0.length l0_0) (hc0_0 : l0_0.length ≤ c0_0) (hr0_1 : Kd.C k126 w A0_1 l0_1.length l0_1) (hc0_1 : l0_1.length ≤ c0_1) (h : spec_l12Base.f k l0_0 l0_1 a0_2 a1 = some (r1, r2, r3, r4)) :
    Calls Try.prog 107 #[.agg #[.slice A0_0 l0_0.length c0_0, .slice A0_1 l0_1.length c0_1, .int .i64 a0_2], .int .i64 a1] w fun e w' => e = .returned (.tuple #[.int .i64 r1, .int .i64 r2, .int .i64 r3, .bool r4]) ∧ Below w.heap.size w w' := by
  have hu66 := Try.underlying66
  have HR0_0 := Aside0.mk hr0_0
  have HC0_0 := Aside0.mk hc0_0
  clear hr0_0 hc0_0
  have HR0_1 := Aside0.mk hr0_1
  have HC0_1 := Aside0.mk hc0_1
  clear hr0_1 hc0_1
  have HB := Aside0.mk (Below.refl w.heap.size w)
  have H : (spec_l12Base.l0 k a1 0 0 0 l0_0 l0_1 a0_2) = some (r1, r2, r3, r4) := h
  clear h
  have H' := Aside0.mk H
  clear H
  go_enter Try.func107, Try.ntmps107
  go_wp2_with (first | ((with_reducible refine gate_dst (N := 2) rfl ?_); refine box_event ?hg (N := 2) ?hd (cs := #[.slice A0_0 l0_0.length c0_0, .slice A0_1 l0_1.length c0_1, .int .i64 a0_2]) (t := 66) ?hr ?_; (case hd => rfl); (case hg => rfl); (case hr => first | (go_simp; done) | (go_simp; rfl)); intro gb107001 hg w3 hbox hb; have n0_ := Aside0.mk (below_step (by repeat (first | (with_reducible first | exact HB.out | apply below_alloc | apply pw_below_drewN | apply below_drew1) | exact HB.out)) hb); have n1_ := Aside0.mk (hbox); have n2_ := Aside0.mk ((by rw [hg]; exact (below_size (by repeat (first | (with_reducible first | exact HB.out | apply below_alloc | apply pw_below_drewN | apply below_drew1) | exact HB.out))) : w.heap.size ≤ gb107001)); have n3_ := Aside0.mk ((by rw [hg]; exact (below_size (by repeat (first | (with_reducible first | exact HB.out | apply below_alloc | apply pw_below_drewN | apply below_drew1) | exact HB.out))) : w.heap.size ≤ gb107001)); clear HB; have HB := n0_; have BK107001 := n1_; have GW107001 := n2_; have GE107001 := n3_; clear n0_ n1_ n2_ n3_; clear hb hbox hg))
  go_loopg [1, 8, 9, 10] k (fun kq v1 v8 v9 v10 w' => ∃ (x1_1 : Int) (x8_1 : Int) (x9_1 : Int) (x10_1 : Int), v1 = .int .i64 x1_1 ∧ v8 = .int .i64 x8_1 ∧ v9 = .int .i64 x9_1 ∧ v10 = .int .i64 x10_1 ∧ Aside0 (spec_l12Base.l0 kq x1_1 x8_1 x9_1 x10_1 l0_0 l0_1 a0_2 = some (r1, r2, r3, r4)) ∧ Aside0 (kq ≤ k) ∧ Aside0 (w'.heap[gb107001]? = some (.cells #[(.slice A0_0 l0_0.length c0_0), (.slice A0_1 l0_1.length c0_1), .int .i64 a0_2] 66 (0, 0))) ∧ Aside0 (Below w.heap.size w w'))
  case atStart => exact ⟨(a1), (0), (0), (0), (by first | rfl | (simp; done) | (simp [*]; done)), (by first | rfl | (simp; done) | (simp [*]; done)), (by first | rfl | (simp; done) | (simp [*]; done)), (by first | rfl | (simp; done) | (simp [*]; done)), H', ⟨Nat.le_refl _⟩, ⟨by (with_reducible repeat (first | refine blk_drewN ?_ _ | refine blk_drew ?_ | refine blk_alloc ?_ _)); exact BK107001.out⟩, ⟨by repeat (first | (with_reducible first | exact HB.out | apply below_alloc | apply pw_below_drewN | apply below_drew1 | refine below_set ?_ GE107001.out) | exact HB.out)⟩⟩
  case round =>
    clear H'
    try clear c1
    try clear p2
    obtain ⟨x1_1, x8_1, x9_1, x10_1, rfl, rfl, rfl, rfl, HA, HK1, BK107001, HB⟩ := hrel
    cases gk with
    | zero => exact absurd HA.out (by simp [spec_l12Base.l0])
    | succ k1 =>
      have H := HA.out
      clear HA
      simp only [spec_l12Base.l0] at H
      by_cases c4 : x10_1 ≤ (l0_0.length : Int)
      · rw [if_pos c4] at H
        have c4b0 : decide (x10_1 ≤ (l0_0.length : Int)) = true := decide_eq_true c4
        clear c4
        replace H := Option.bind_eq_some_iff.mp H
        obtain ⟨t107002, A50, H⟩ := H
        replace H : (if t107002 < 0 then (some (x1_1, x8_1, x9_1, true)) else (if 0 ≤ t107002 then (if t107002 < (l0_1.length : Int) then (spec_l12Base.l0 k1 ((rd_T126 l0_1 t107002).f0) (wrap64 (x8_1 + ((rd_T126 l0_1 t107002).f2))) (wrap64 (x9_1 + ((rd_T126 l0_1 t107002).f3))) (wrap64 (x10_1 + 1)) l0_0 l0_1 a0_2) else (none)) else (none))) = some (r1, r2, r3, r4) := H
        have A5 := Aside0.mk A50
        clear A50
        by_cases c6 : t107002 < 0
        · rw [if_pos c6] at H
          have c6b0 : decide (t107002 < 0) = true := decide_eq_true c6
          clear c6
          simp only [Option.some.injEq, Prod.mk.injEq] at H
          obtain ⟨rfl, rfl, rfl, rfl⟩ := H
          have hcz7_0 : wr.cell? ⟨gb107001, 0, none⟩ = some (.slice A0_0 l0_0.length c0_0) := (blk_cell BK107001.out 0).trans rfl
          have hcz7_1 : wr.cell? ⟨gb107001, 1, none⟩ = some (.slice A0_1 l0_1.length c0_1) := (blk_cell BK107001.out 1).trans rfl
          have hcz7_2 : wr.cell? ⟨gb107001, 2, none⟩ = some (.int .i64 a0_2) := (blk_cell BK107001.out 2).trans rfl
          have hfz7_0 := blk_frozen BK107001.out 0
          have hfz7_1 := blk_frozen BK107001.out 1
          have hfz7_2 := blk_frozen BK107001.out 2
          go_wp2_with (first | ((with_reducible refine gate_callee (f := 103) rfl ?_); refine goesL_ (some 21) rfl rfl Try.func103 (by kernel_rfl) rfl #[.agg #[.slice A0_0 l0_0.length c0_0, .slice A0_1 l0_1.length c0_1, .int .i64 a0_2], .int .i64 x1_1] rfl (by (try simp only [List.map_toArray, List.map_cons, List.map_nil]); first | done | rfl | (simp only [List.length_drop, List.length_take]; rfl)) ?_; (with_reducible refine (spec_l08Free.calls k1 _ _ l0_0 _ _ l0_1 a0_2 x1_1 t107002 _ ?side1 ?side2 ?side3 ?side4 A5.out).mono ?_); (case side1 => repeat (first | exact (Kd.C_below HR0_0.out HB.out) | (with_reducible refine Kd.C_alloc ?_ _) | (with_reducible refine Kd.C_drewN ?_ _) | (with_reducible refine Kd.C_drew ?_))); (case side2 => exact HC0_0.out); (case side3 => repeat (first | exact (Kd.C_below HR0_1.out HB.out) | (with_reducible refine Kd.C_alloc ?_ _) | (with_reducible refine Kd.C_drewN ?_ _) | (with_reducible refine Kd.C_drew ?_))); (case side4 => exact HC0_1.out); rintro e w8 ⟨rfl, hb⟩; refine ⟨_, rfl, ?_⟩; have n0_ := Aside0.mk (blk_below (g := gb107001) (o := .cells #[.slice A0_0 l0_0.length c0_0, .slice A0_1 l0_1.length c0_1, .int .i64 a0_2] 66 (0, 0)) (by (with_reducible repeat (first | refine blk_drewN ?_ _ | refine blk_drew ?_ | refine blk_alloc ?_ _)); exact BK107001.out) hb); have n1_ := Aside0.mk (below_step (by repeat (first | (with_reducible first | exact HB.out | apply below_alloc | apply pw_below_drewN | apply below_drew1 | refine below_set ?_ GE107001.out) | exact HB.out)) hb); clear BK107001; clear HB; have BK107001 := n0_; have HB := n1_; clear n0_ n1_; (try clear hb); (try clear hb2); (try clear hk); (try clear hi)))
          refine bodyPost_ret (results_list (rs := [.tmp 4, .tmp 5, .tmp 6, .tmp 7]) rfl (by simp) (.tmp (.tmp (.tmp (.tmp .nil))))) rfl ?_
          exact ⟨by first | rfl | (simp [errW_none, errW_some] <;> rfl) | (simp [*, errW_none, errW_some] <;> rfl), by repeat (first | (with_reducible first | exact HB.out | apply below_alloc | apply pw_below_drewN | apply below_drew1 | refine below_set ?_ GE107001.out) | exact HB.out)⟩
        · rw [if_neg c6] at H
          have c6b0 : decide (t107002 < 0) = false := decide_eq_false c6
          clear c6
          by_cases c9 : 0 ≤ t107002
          · rw [if_pos c9] at H
            have c9b0 : decide (0 ≤ t107002) = true := decide_eq_true c9
            clear c9
            by_cases c10 : t107002 < (l0_1.length : Int)
            · rw [if_pos c10] at H
              have c10b0 : decide (t107002 < (l0_1.length : Int)) = true := decide_eq_true c10
              clear c10
              have H' := Aside0.mk H
              clear H
              have hcz11_0 : wr.cell? ⟨gb107001, 0, none⟩ = some (.slice A0_0 l0_0.length c0_0) := (blk_cell BK107001.out 0).trans rfl
              have hcz11_1 : wr.cell? ⟨gb107001, 1, none⟩ = some (.slice A0_1 l0_1.length c0_1) := (blk_cell BK107001.out 1).trans rfl
              have hcz11_2 : wr.cell? ⟨gb107001, 2, none⟩ = some (.int .i64 a0_2) := (blk_cell BK107001.out 2).trans rfl
              have hfz11_0 := blk_frozen BK107001.out 0
              have hfz11_1 := blk_frozen BK107001.out 1
              have hfz11_2 := blk_frozen BK107001.out 2
              go_wp2_with (first | ((with_reducible refine gate_callee (f := 103) rfl ?_); refine goesL_ (some 21) rfl rfl Try.func103 (by kernel_rfl) rfl #[.agg #[.slice A0_0 l0_0.length c0_0, .slice A0_1 l0_1.length c0_1, .int .i64 a0_2], .int .i64 x1_1] rfl (by (try simp only [List.map_toArray, List.map_cons, List.map_nil]); first | done | rfl | (simp only [List.length_drop, List.length_take]; rfl)) ?_; (with_reducible refine (spec_l08Free.calls k1 _ _ l0_0 _ _ l0_1 a0_2 x1_1 t107002 _ ?side1 ?side2 ?side3 ?side4 A5.out).mono ?_); (case side1 => repeat (first | exact (Kd.C_below HR0_0.out HB.out) | (with_reducible refine Kd.C_alloc ?_ _) | (with_reducible refine Kd.C_drewN ?_ _) | (with_reducible refine Kd.C_drew ?_))); (case side2 => exact HC0_0.out); (case side3 => repeat (first | exact (Kd.C_below HR0_1.out HB.out) | (with_reducible refine Kd.C_alloc ?_ _) | (with_reducible refine Kd.C_drewN ?_ _) | (with_reducible refine Kd.C_drew ?_))); (case side4 => exact HC0_1.out); rintro e w12 ⟨rfl, hb⟩; refine ⟨_, rfl, ?_⟩; have n0_ := Aside0.mk (blk_below (g := gb107001) (o := .cells #[.slice A0_0 l0_0.length c0_0, .slice A0_1 l0_1.length c0_1, .int .i64 a0_2] 66 (0, 0)) (by (with_reducible repeat (first | refine blk_drewN ?_ _ | refine blk_drew ?_ | refine blk_alloc ?_ _)); exact BK107001.out) hb); have n1_ := Aside0.mk (below_step (by repeat (first | (with_reducible first | exact HB.out | apply below_alloc | apply pw_below_drewN | apply below_drew1 | refine below_set ?_ GE107001.out) | exact HB.out)) hb); clear BK107001; clear HB; have BK107001 := n0_; have HB := n1_; clear n0_ n1_; (try clear hb); (try clear hb2); (try clear hk); (try clear hi); have hcz13_0 : w12.cell? ⟨gb107001, 0, none⟩ = some (.slice A0_0 l0_0.length c0_0) := (blk_cell BK107001.out 0).trans rfl; have hcz13_1 : w12.cell? ⟨gb107001, 1, none⟩ = some (.slice A0_1 l0_1.length c0_1) := (blk_cell BK107001.out 1).trans rfl; have hcz13_2 : w12.cell? ⟨gb107001, 2, none⟩ = some (.int .i64 a0_2) := (blk_cell BK107001.out 2).trans rfl; have hfz13_0 := blk_frozen BK107001.out 0; have hfz13_1 := blk_frozen BK107001.out 1; have hfz13_2 := blk_frozen BK107001.out 2; have p107003 : 0 ≤ (t107002 : Int) := of_decide_eq_true (by first | (with_reducible assumption) | assumption); have q107003 : t107002 < (l0_1.length : Int) := of_decide_eq_true (by first | (with_reducible assumption) | assumption); obtain ⟨ad107003, e107003, hx107003_0, hx107003_1, hx107003_2, hx107003_3, hx107003_4⟩ := at_T126 HR0_1.out t107002 p107003 q107003; cases e107003; replace hx107003_0 := (HB.out.cell (World.block_lt_of_cell? w _ hx107003_0)).trans hx107003_0; replace hx107003_1 := (HB.out.cell (World.block_lt_of_cell? w _ hx107003_1)).trans hx107003_1; replace hx107003_2 := (HB.out.cell (World.block_lt_of_cell? w _ hx107003_2)).trans hx107003_2; replace hx107003_3 := (HB.out.cell (World.block_lt_of_cell? w _ hx107003_3)).trans hx107003_3; replace hx107003_4 := (HB.out.cell (World.block_lt_of_cell? w _ hx107003_4)).trans hx107003_4; replace p107003 := eq_true p107003; replace q107003 := eq_true q107003; have p107004 : 0 ≤ (t107002 : Int) := of_decide_eq_true (by first | (with_reducible assumption) | assumption); have q107004 : t107002 < (l0_1.length : Int) := of_decide_eq_true (by first | (with_reducible assumption) | assumption); obtain ⟨ad107004, e107004, hx107004_0, hx107004_1, hx107004_2, hx107004_3, hx107004_4⟩ := at_T126 HR0_1.out t107002 p107004 q107004; obtain rfl : ad107003 = ad107004 := (by injection e107004); replace hx107004_0 := (HB.out.cell (World.block_lt_of_cell? w _ hx107004_0)).trans hx107004_0; replace hx107004_1 := (HB.out.cell (World.block_lt_of_cell? w _ hx107004_1)).trans hx107004_1; replace hx107004_2 := (HB.out.cell (World.block_lt_of_cell? w _ hx107004_2)).trans hx107004_2; replace hx107004_3 := (HB.out.cell (World.block_lt_of_cell? w _ hx107004_3)).trans hx107004_3; replace hx107004_4 := (HB.out.cell (World.block_lt_of_cell? w _ hx107004_4)).trans hx107004_4; replace p107004 := eq_true p107004; replace q107004 := eq_true q107004; have p107005 : 0 ≤ (t107002 : Int) := of_decide_eq_true (by first | (with_reducible assumption) | assumption); have q107005 : t107002 < (l0_1.length : Int) := of_decide_eq_true (by first | (with_reducible assumption) | assumption); obtain ⟨ad107005, e107005, hx107005_0, hx107005_1, hx107005_2, hx107005_3, hx107005_4⟩ := at_T126 HR0_1.out t107002 p107005 q107005; obtain rfl : ad107003 = ad107005 := (by injection e107005); replace hx107005_0 := (HB.out.cell (World.block_lt_of_cell? w _ hx107005_0)).trans hx107005_0; replace hx107005_1 := (HB.out.cell (World.block_lt_of_cell? w _ hx107005_1)).trans hx107005_1; replace hx107005_2 := (HB.out.cell (World.block_lt_of_cell? w _ hx107005_2)).trans hx107005_2; replace hx107005_3 := (HB.out.cell (World.block_lt_of_cell? w _ hx107005_3)).trans hx107005_3; replace hx107005_4 := (HB.out.cell (World.block_lt_of_cell? w _ hx107005_4)).trans hx107005_4; replace p107005 := eq_true p107005; replace q107005 := eq_true q107005))
              go_roundg k1
              case measure => have := HK1.out; omega
              case rel => exact ⟨((rd_T126 l0_1 t107002).f0), (wrap64 (x8_1 + ((rd_T126 l0_1 t107002).f2))), (wrap64 (x9_1 + ((rd_T126 l0_1 t107002).f3))), (wrap64 (x10_1 + 1)), (by first | rfl | (simp; done) | (simp [*]; done)), (by first | rfl | (simp; done) | (simp [*]; done)), (by first | rfl | (simp; done) | (simp [*]; done)), (by first | rfl | (simp; done) | (simp [*]; done)), H', ⟨by have := HK1.out; omega⟩, ⟨by (with_reducible repeat (first | refine blk_drewN ?_ _ | refine blk_drew ?_ | refine blk_alloc ?_ _)); exact BK107001.out⟩, ⟨by repeat (first | (with_reducible first | exact HB.out | apply below_alloc | apply pw_below_drewN | apply below_drew1 | refine below_set ?_ GE107001.out) | exact HB.out)⟩⟩
            · rw [if_neg c10] at H
              exact absurd H (by simp)
          · rw [if_neg c9] at H
            exact absurd H (by simp)
      · rw [if_neg c4] at H
        have c4b0 : decide (x10_1 ≤ (l0_0.length : Int)) = false := decide_eq_false c4
        clear c4
        simp only [Option.some.injEq, Prod.mk.injEq] at H
        obtain ⟨rfl, rfl, rfl, rfl⟩ := H
        have hcz14_0 : wr.cell? ⟨gb107001, 0, none⟩ = some (.slice A0_0 l0_0.length c0_0) := (blk_cell BK107001.out 0).trans rfl
        have hcz14_1 : wr.cell? ⟨gb107001, 1, none⟩ = some (.slice A0_1 l0_1.length c0_1) := (blk_cell BK107001.out 1).trans rfl
        have hcz14_2 : wr.cell? ⟨gb107001, 2, none⟩ = some (.int .i64 a0_2) := (blk_cell BK107001.out 2).trans rfl
        have hfz14_0 := blk_frozen BK107001.out 0
        have hfz14_1 := blk_frozen BK107001.out 1
        have hfz14_2 := blk_frozen BK107001.out 2
        go_wp2
        refine bodyPost_ret (results_list (rs := [.tmp 4, .tmp 5, .tmp 6, .tmp 7]) rfl (by simp) (.tmp (.tmp (.tmp (.tmp .nil))))) rfl ?_
        exact ⟨by first | rfl | (simp [errW_none, errW_some] <;> rfl) | (simp [*, errW_none, errW_some] <;> rfl), by repeat (first | (with_reducible first | exact HB.out | apply below_alloc | apply pw_below_drewN | apply below_drew1 | refine below_set ?_ GE107001.out) | exact HB.out)⟩

end Go.Proofs.Ytpoffpdaadhkgaa.Pr

namespace Go.Proofs.Ytpoffpdaadhkgaa.Pr
open Go.RowKit Go.Proofs.YtpoffpdaadhkgaaW.PrintWords Go.Proofs.YtpoffpdaadhkgaaW.PrintLast Go.Proofs.YtpoffpdaadhkgaaW.PrintMore
attribute [local go_sem] max2_int min2_int max_two min_two max_three min_three max_four min_four
set_option linter.unusedVariables false
set_option linter.unusedSimpArgs false

/-! ### spec_BaseOf: function 54 -/
def spec_BaseOf.j0 : Nat → Int → Bool → List (S120) → List (S126) → Int → Option (Int × Int × Int)
  | 0, _, _, _, _, _ => none
  | k + 1, x1, x22, x54002000, x54002001, x54002002 => if x22 = true then (some ((-1), 0, 0)) else ((spec_l12Base.f k x54002000 x54002001 x54002002 x1).bind fun bt54004 => (if bt54004.2.2.2 = true then (some (bt54004.1, bt54004.2.1, bt54004.2.2.1)) else (some ((-1), 0, 0))))
def spec_BaseOf.f (k : Nat) (l0_0 : List (S120)) (l0_1 : List (S126)) (a0_2 : Int) (a1 : Int) : Option (Int × Int × Int) := (spec_ShowOk.f k l0_0 l0_1 a0_2).bind fun t54002 => (if t54002 = true then ((spec_l01In.f a1 0 (wrap64 ((l0_0.length : Int) - 1))).bind fun t54003 => (spec_BaseOf.j0 k a1 (!t54003) l0_0 l0_1 a0_2)) else (spec_BaseOf.j0 k a1 true l0_0 l0_1 a0_2))
set_option maxHeartbeats 8000000 in
set_option maxRecDepth 100000 in
theorem spec_BaseOf.calls (k : Nat) (A0_0 : Option Addr) (c0_0 : Nat) (l0_0 : List (S120)) (A0_1 : Option Addr) (c0_1 : Nat) (l0_1 : List (S126)) (a0_2 : Int) (a1 : Int) (r1 : Int) (r2 : Int) (r3 : Int) (w : World) (hr0_0 : Kd.C k120 w A0_0 l0_0.length l0_0) (hc0_0 : l0_0.length ≤ c0_0) (hr0_1 : Kd.C k126 w A0_1 l0_1.length l0_1) (hc0_1 : l0_1.length ≤ c0_1) (h : spec_BaseOf.f k l0_0 l0_1 a0_2 a1 = some (r1, r2, r3)) :
    Calls Try.prog 54 #[.agg #[.slice A0_0 l0_0.length c0_0, .slice A0_1 l0_1.length c0_1, .int .i64 a0_2], .int .i64 a1] w fun e w' => e = .returned (.tuple #[.int .i64 r1, .int .i64 r2, .int .i64 r3]) ∧ Below w.heap.size w w' := by
  have hu66 := Try.underlying66
  have HR0_0 := Aside0.mk hr0_0
  have HC0_0 := Aside0.mk hc0_0
  clear hr0_0 hc0_0
  have HR0_1 := Aside0.mk hr0_1
  have HC0_1 := Aside0.mk hc0_1
  clear hr0_1 hc0_1
  have HB := Aside0.mk (Below.refl w.heap.size w)
  have H : ((spec_ShowOk.f k l0_0 l0_1 a0_2).bind fun t54002 => (if t54002 = true then ((spec_l01In.f a1 0 (wrap64 ((l0_0.length : Int) - 1))).bind fun t54003 => (spec_BaseOf.j0 k a1 (!t54003) l0_0 l0_1 a0_2)) else (spec_BaseOf.j0 k a1 true l0_0 l0_1 a0_2))) = some (r1, r2, r3) := h
  clear h
  have HC3 := Aside0.mk H
  clear H
  go_enter Try.func54, Try.ntmps54
  go_upto_region 1 with (first | ((with_reducible refine gate_dst (N := 2) rfl ?_); (try (refine gate_guard (by rfl) ?_; dsimp only)); refine box_event ?hg (N := 2) ?hd (cs := #[.slice A0_0 l0_0.length c0_0, .slice A0_1 l0_1.length c0_1, .int .i64 a0_2]) (t := 66) ?hr ?_; (case hd => rfl); (case hg => rfl); (case hr => first | (go_simp; done) | (go_simp; rfl)); intro gb54001 hg w4 hbox hb; have n0_ := Aside0.mk (below_step (by repeat (first | (with_reducible first | exact HB.out | apply below_alloc | apply pw_below_drewN | apply below_drew1) | exact HB.out)) hb); have n1_ := Aside0.mk (hbox); have n2_ := Aside0.mk ((by rw [hg]; exact (below_size (by repeat (first | (with_reducible first | exact HB.out | apply below_alloc | apply pw_below_drewN | apply below_drew1) | exact HB.out))) : w.heap.size ≤ gb54001)); have n3_ := Aside0.mk ((by rw [hg]; exact (below_size (by repeat (first | (with_reducible first | exact HB.out | apply below_alloc | apply pw_below_drewN | apply below_drew1) | exact HB.out))) : w.heap.size ≤ gb54001)); clear HB; have HB := n0_; have BK54001 := n1_; have GW54001 := n2_; have GE54001 := n3_; clear n0_ n1_ n2_ n3_; clear hb hbox hg))
  (try simp only [Act.put, List.setIfInBounds_toArray, List.set_cons_zero, List.set_cons_succ])
  go_cut [22] (fun v22 wc => ∃ (kq : Nat) (x22_2 : Bool), v22 = .bool x22_2 ∧ Aside0 (spec_BaseOf.j0 kq a1 x22_2 l0_0 l0_1 a0_2 = some (r1, r2, r3)) ∧ Aside0 (kq ≤ k) ∧ Aside0 (wc.heap[gb54001]? = some (.cells #[(.slice A0_0 l0_0.length c0_0), (.slice A0_1 l0_1.length c0_1), .int .i64 a0_2] 66 (0, 0))) ∧ Aside0 (Below w.heap.size w wc))
  case first =>
    have H := HC3.out
    clear HC3
    replace H := Option.bind_eq_some_iff.mp H
    obtain ⟨t54002, A50, H⟩ := H
    replace H : (if t54002 = true then ((spec_l01In.f a1 0 (wrap64 ((l0_0.length : Int) - 1))).bind fun t54003 => (spec_BaseOf.j0 k a1 (!t54003) l0_0 l0_1 a0_2)) else (spec_BaseOf.j0 k a1 true l0_0 l0_1 a0_2)) = some (r1, r2, r3) := H
    have A5 := Aside0.mk A50
    clear A50
    by_cases c6 : t54002 = true
    · subst c6
      have H1 : ((spec_l01In.f a1 0 (wrap64 ((l0_0.length : Int) - 1))).bind fun t54003 => (spec_BaseOf.j0 k a1 (!t54003) l0_0 l0_1 a0_2)) = some (r1, r2, r3) := by rw [if_pos rfl] at H; exact H
      clear H
      have H := H1
      clear H1
      replace H := Option.bind_eq_some_iff.mp H
      obtain ⟨t54003, A70, H⟩ := H
      replace H : (spec_BaseOf.j0 k a1 (!t54003) l0_0 l0_1 a0_2) = some (r1, r2, r3) := H
      have A7 := Aside0.mk A70
      clear A70
      have H' := Aside0.mk H
      clear H
      have hcz8_0 : w4.cell? ⟨gb54001, 0, none⟩ = some (.slice A0_0 l0_0.length c0_0) := (blk_cell BK54001.out 0).trans rfl
      have hcz8_1 : w4.cell? ⟨gb54001, 1, none⟩ = some (.slice A0_1 l0_1.length c0_1) := (blk_cell BK54001.out 1).trans rfl
      have hcz8_2 : w4.cell? ⟨gb54001, 2, none⟩ = some (.int .i64 a0_2) := (blk_cell BK54001.out 2).trans rfl
      have hfz8_0 := blk_frozen BK54001.out 0
      have hfz8_1 := blk_frozen BK54001.out 1
      have hfz8_2 := blk_frozen BK54001.out 2
      go_wp2_with (first | ((with_reducible refine gate_callee (f := 42) rfl ?_); refine goesL_ (some 12) rfl rfl Try.func42 (by kernel_rfl) rfl #[.agg #[.slice A0_0 l0_0.length c0_0, .slice A0_1 l0_1.length c0_1, .int .i64 a0_2]] rfl (by (try simp only [List.map_toArray, List.map_cons, List.map_nil]); first | done | rfl | (simp only [List.length_drop, List.length_take]; rfl)) ?_; (with_reducible refine (spec_ShowOk.calls k _ _ l0_0 _ _ l0_1 a0_2 true _ ?side1 ?side2 ?side3 ?side4 A5.out).mono ?_); (case side1 => repeat (first | exact (Kd.C_below HR0_0.out HB.out) | (with_reducible refine Kd.C_alloc ?_ _) | (with_reducible refine Kd.C_drewN ?_ _) | (with_reducible refine Kd.C_drew ?_))); (case side2 => exact HC0_0.out); (case side3 => repeat (first | exact (Kd.C_below HR0_1.out HB.out) | (with_reducible refine Kd.C_alloc ?_ _) | (with_reducible refine Kd.C_drewN ?_ _) | (with_reducible refine Kd.C_drew ?_))); (case side4 => exact HC0_1.out); rintro e w9 ⟨rfl, hb⟩; refine ⟨_, rfl, ?_⟩; have n0_ := Aside0.mk (blk_below (g := gb54001) (o := .cells #[.slice A0_0 l0_0.length c0_0, .slice A0_1 l0_1.length c0_1, .int .i64 a0_2] 66 (0, 0)) (by (with_reducible repeat (first | refine blk_drewN ?_ _ | refine blk_drew ?_ | refine blk_alloc ?_ _)); exact BK54001.out) hb); have n1_ := Aside0.mk (below_step (by repeat (first | (with_reducible first | exact HB.out | apply below_alloc | apply pw_below_drewN | apply below_drew1 | refine below_set ?_ GE54001.out) | exact HB.out)) hb); clear BK54001; clear HB; have BK54001 := n0_; have HB := n1_; clear n0_ n1_; (try clear hb); (try clear hb2); (try clear hk); (try clear hi); have hcz10_0 : w9.cell? ⟨gb54001, 0, none⟩ = some (.slice A0_0 l0_0.length c0_0) := (blk_cell BK54001.out 0).trans rfl; have hcz10_1 : w9.cell? ⟨gb54001, 1, none⟩ = some (.slice A0_1 l0_1.length c0_1) := (blk_cell BK54001.out 1).trans rfl; have hcz10_2 : w9.cell? ⟨gb54001, 2, none⟩ = some (.int .i64 a0_2) := (blk_cell BK54001.out 2).trans rfl; have hfz10_0 := blk_frozen BK54001.out 0; have hfz10_1 := blk_frozen BK54001.out 1; have hfz10_2 := blk_frozen BK54001.out 2) | (go_at_call 87; (with_reducible refine (spec_l01In.calls a1 0 (wrap64 ((l0_0.length : Int) - 1)) t54003 _ A7.out).mono ?_); rintro e w' ⟨rfl, ⟨nd, rfl⟩⟩))
      go_meet
      case rel => exact ⟨_, (!t54003), (by first | rfl | (simp; done) | (simp [*]; done)), H', ⟨by first | omega | exact Nat.le_refl _⟩, ⟨by (with_reducible repeat (first | refine blk_drewN ?_ _ | refine blk_drew ?_ | refine blk_alloc ?_ _)); exact BK54001.out⟩, ⟨by repeat (first | (with_reducible first | exact HB.out | apply below_alloc | apply pw_below_drewN | apply below_drew1 | refine below_set ?_ GE54001.out) | exact HB.out)⟩⟩
    · replace c6 := Bool.eq_false_iff.mpr c6
      subst c6
      have H1 : (spec_BaseOf.j0 k a1 true l0_0 l0_1 a0_2) = some (r1, r2, r3) := by rw [if_neg (show ¬ (false = true) by decide)] at H; exact H
      clear H
      have H := H1
      clear H1
      have H' := Aside0.mk H
      clear H
      have hcz11_0 : w4.cell? ⟨gb54001, 0, none⟩ = some (.slice A0_0 l0_0.length c0_0) := (blk_cell BK54001.out 0).trans rfl
      have hcz11_1 : w4.cell? ⟨gb54001, 1, none⟩ = some (.slice A0_1 l0_1.length c0_1) := (blk_cell BK54001.out 1).trans rfl
      have hcz11_2 : w4.cell? ⟨gb54001, 2, none⟩ = some (.int .i64 a0_2) := (blk_cell BK54001.out 2).trans rfl
      have hfz11_0 := blk_frozen BK54001.out 0
      have hfz11_1 := blk_frozen BK54001.out 1
      have hfz11_2 := blk_frozen BK54001.out 2
      go_wp2_with (first | ((with_reducible refine gate_callee (f := 42) rfl ?_); refine goesL_ (some 12) rfl rfl Try.func42 (by kernel_rfl) rfl #[.agg #[.slice A0_0 l0_0.length c0_0, .slice A0_1 l0_1.length c0_1, .int .i64 a0_2]] rfl (by (try simp only [List.map_toArray, List.map_cons, List.map_nil]); first | done | rfl | (simp only [List.length_drop, List.length_take]; rfl)) ?_; (with_reducible refine (spec_ShowOk.calls k _ _ l0_0 _ _ l0_1 a0_2 false _ ?side1 ?side2 ?side3 ?side4 A5.out).mono ?_); (case side1 => repeat (first | exact (Kd.C_below HR0_0.out HB.out) | (with_reducible refine Kd.C_alloc ?_ _) | (with_reducible refine Kd.C_drewN ?_ _) | (with_reducible refine Kd.C_drew ?_))); (case side2 => exact HC0_0.out); (case side3 => repeat (first | exact (Kd.C_below HR0_1.out HB.out) | (with_reducible refine Kd.C_alloc ?_ _) | (with_reducible refine Kd.C_drewN ?_ _) | (with_reducible refine Kd.C_drew ?_))); (case side4 => exact HC0_1.out); rintro e w12 ⟨rfl, hb⟩; refine ⟨_, rfl, ?_⟩; have n0_ := Aside0.mk (blk_below (g := gb54001) (o := .cells #[.slice A0_0 l0_0.length c0_0, .slice A0_1 l0_1.length c0_1, .int .i64 a0_2] 66 (0, 0)) (by (with_reducible repeat (first | refine blk_drewN ?_ _ | refine blk_drew ?_ | refine blk_alloc ?_ _)); exact BK54001.out) hb); have n1_ := Aside0.mk (below_step (by repeat (first | (with_reducible first | exact HB.out | apply below_alloc | apply pw_below_drewN | apply below_drew1 | refine below_set ?_ GE54001.out) | exact HB.out)) hb); clear BK54001; clear HB; have BK54001 := n0_; have HB := n1_; clear n0_ n1_; (try clear hb); (try clear hb2); (try clear hk); (try clear hi)))
      go_meet
      case rel => exact ⟨_, (true), (by first | rfl | (simp; done) | (simp [*]; done)), H', ⟨by first | omega | exact Nat.le_refl _⟩, ⟨by (with_reducible repeat (first | refine blk_drewN ?_ _ | refine blk_drew ?_ | refine blk_alloc ?_ _)); exact BK54001.out⟩, ⟨by repeat (first | (with_reducible first | exact HB.out | apply below_alloc | apply pw_below_drewN | apply below_drew1 | refine below_set ?_ GE54001.out) | exact HB.out)⟩⟩
  case rest =>
    clear HC3
    try clear p2
    try clear c4
    try clear c5
    try clear c6
    try clear p6
    try clear hcz10_0
    try clear hcz10_1
    try clear hcz10_2
    try clear hcz11_0
    try clear hcz11_1
    try clear hcz11_2
    try clear hcz8_0
    try clear hcz8_1
    try clear hcz8_2
    try clear hfz10_0
    try clear hfz10_1
    try clear hfz10_2
    try clear hfz11_0
    try clear hfz11_1
    try clear hfz11_2
    try clear hfz8_0
    try clear hfz8_1
    try clear hfz8_2
    obtain ⟨kq, x22_2, rfl, HA, HJ2, BK54001, HB⟩ := hcut
    cases kq with
    | zero => exact absurd HA.out (by simp [spec_BaseOf.j0])
    | succ kj2 =>
      have H := HA.out
      clear HA
      simp only [spec_BaseOf.j0] at H
      by_cases c13 : x22_2 = true
      · subst c13
        have H1 : (some ((-1), 0, 0)) = some (r1, r2, r3) := by rw [if_pos rfl] at H; exact H
        clear H
        have H := H1
        clear H1
        simp only [Option.some.injEq, Prod.mk.injEq] at H
        obtain ⟨rfl, rfl, rfl⟩ := H
        go_wp2
        go_ret3
        exact ⟨by first | rfl | (simp [errW_none, errW_some] <;> rfl) | (simp [*, errW_none, errW_some] <;> rfl), by repeat (first | (with_reducible first | exact HB.out | apply below_alloc | apply pw_below_drewN | apply below_drew1 | refine below_set ?_ GE54001.out) | exact HB.out)⟩
      · replace c13 := Bool.eq_false_iff.mpr c13
        subst c13
        have H1 : ((spec_l12Base.f kj2 l0_0 l0_1 a0_2 a1).bind fun bt54004 => (if bt54004.2.2.2 = true then (some (bt54004.1, bt54004.2.1, bt54004.2.2.1)) else (some ((-1), 0, 0)))) = some (r1, r2, r3) := by rw [if_neg (show ¬ (false = true) by decide)] at H; exact H
        clear H
        have H := H1
        clear H1
        replace H := Option.bind_eq_some_iff.mp H
        obtain ⟨⟨t54004, t54005, t54006, t54007⟩, A140, H⟩ := H
        replace H : (if t54007 = true then (some (t54004, t54005, t54006)) else (some ((-1), 0, 0))) = some (r1, r2, r3) := H
        have A14 := Aside0.mk A140
        clear A140
        by_cases c15 : t54007 = true
        · subst c15
          have H1 : (some (t54004, t54005, t54006)) = some (r1, r2, r3) := by rw [if_pos rfl] at H; exact H
          clear H
          have H := H1
          clear H1
          simp only [Option.some.injEq, Prod.mk.injEq] at H
          obtain ⟨rfl, rfl, rfl⟩ := H
          have hcz16_0 : wc.cell? ⟨gb54001, 0, none⟩ = some (.slice A0_0 l0_0.length c0_0) := (blk_cell BK54001.out 0).trans rfl
          have hcz16_1 : wc.cell? ⟨gb54001, 1, none⟩ = some (.slice A0_1 l0_1.length c0_1) := (blk_cell BK54001.out 1).trans rfl
          have hcz16_2 : wc.cell? ⟨gb54001, 2, none⟩ = some (.int .i64 a0_2) := (blk_cell BK54001.out 2).trans rfl
          have hfz16_0 := blk_frozen BK54001.out 0
          have hfz16_1 := blk_frozen BK54001.out 1
          have hfz16_2 := blk_frozen BK54001.out 2
          go_wp2_with (first | ((with_reducible refine gate_callee (f := 107) rfl ?_); refine goesL_ (some 26) rfl rfl Try.func107 (by kernel_rfl) rfl #[.agg #[.slice A0_0 l0_0.length c0_0, .slice A0_1 l0_1.length c0_1, .int .i64 a0_2], .int .i64 a1] rfl (by (try simp only [List.map_toArray, List.map_cons, List.map_nil]); first | done | rfl | (simp only [List.length_drop, List.length_take]; rfl)) ?_; (with_reducible refine (spec_l12Base.calls kj2 _ _ l0_0 _ _ l0_1 a0_2 a1 t54004 t54005 t54006 true _ ?side1 ?side2 ?side3 ?side4 A14.out).mono ?_); (case side1 => repeat (first | exact (Kd.C_below HR0_0.out HB.out) | (with_reducible refine Kd.C_alloc ?_ _) | (with_reducible refine Kd.C_drewN ?_ _) | (with_reducible refine Kd.C_drew ?_))); (case side2 => exact HC0_0.out); (case side3 => repeat (first | exact (Kd.C_below HR0_1.out HB.out) | (with_reducible refine Kd.C_alloc ?_ _) | (with_reducible refine Kd.C_drewN ?_ _) | (with_reducible refine Kd.C_drew ?_))); (case side4 => exact HC0_1.out); rintro e w17 ⟨rfl, hb⟩; refine ⟨_, rfl, ?_⟩; have n0_ := Aside0.mk (blk_below (g := gb54001) (o := .cells #[.slice A0_0 l0_0.length c0_0, .slice A0_1 l0_1.length c0_1, .int .i64 a0_2] 66 (0, 0)) (by (with_reducible repeat (first | refine blk_drewN ?_ _ | refine blk_drew ?_ | refine blk_alloc ?_ _)); exact BK54001.out) hb); have n1_ := Aside0.mk (below_step (by repeat (first | (with_reducible first | exact HB.out | apply below_alloc | apply pw_below_drewN | apply below_drew1 | refine below_set ?_ GE54001.out) | exact HB.out)) hb); clear BK54001; clear HB; have BK54001 := n0_; have HB := n1_; clear n0_ n1_; (try clear hb); (try clear hb2); (try clear hk); (try clear hi)))
          go_ret3
          exact ⟨by first | rfl | (simp [errW_none, errW_some] <;> rfl) | (simp [*, errW_none, errW_some] <;> rfl), by repeat (first | (with_reducible first | exact HB.out | apply below_alloc | apply pw_below_drewN | apply below_drew1 | refine below_set ?_ GE54001.out) | exact HB.out)⟩
        · replace c15 := Bool.eq_false_iff.mpr c15
          subst c15
          have H1 : (some ((-1), 0, 0)) = some (r1, r2, r3) := by rw [if_neg (show ¬ (false = true) by decide)] at H; exact H
          clear H
          have H := H1
          clear H1
          simp only [Option.some.injEq, Prod.mk.injEq] at H
          obtain ⟨rfl, rfl, rfl⟩ := H
          have hcz18_0 : wc.cell? ⟨gb54001, 0, none⟩ = some (.slice A0_0 l0_0.length c0_0) := (blk_cell BK54001.out 0).trans rfl
          have hcz18_1 : wc.cell? ⟨gb54001, 1, none⟩ = some (.slice A0_1 l0_1.length c0_1) := (blk_cell BK54001.out 1).trans rfl
          have hcz18_2 : wc.cell? ⟨gb54001, 2, none⟩ = some (.int .i64 a0_2) := (blk_cell BK54001.out 2).trans rfl
          have hfz18_0 := blk_frozen BK54001.out 0
          have hfz18_1 := blk_frozen BK54001.out 1
          have hfz18_2 := blk_frozen BK54001.out 2
          go_wp2_with (first | ((with_reducible refine gate_callee (f := 107) rfl ?_); refine goesL_ (some 26) rfl rfl Try.func107 (by kernel_rfl) rfl #[.agg #[.slice A0_0 l0_0.length c0_0, .slice A0_1 l0_1.length c0_1, .int .i64 a0_2], .int .i64 a1] rfl (by (try simp only [List.map_toArray, List.map_cons, List.map_nil]); first | done | rfl | (simp only [List.length_drop, List.length_take]; rfl)) ?_; (with_reducible refine (spec_l12Base.calls kj2 _ _ l0_0 _ _ l0_1 a0_2 a1 t54004 t54005 t54006 false _ ?side1 ?side2 ?side3 ?side4 A14.out).mono ?_); (case side1 => repeat (first | exact (Kd.C_below HR0_0.out HB.out) | (with_reducible refine Kd.C_alloc ?_ _) | (with_reducible refine Kd.C_drewN ?_ _) | (with_reducible refine Kd.C_drew ?_))); (case side2 => exact HC0_0.out); (case side3 => repeat (first | exact (Kd.C_below HR0_1.out HB.out) | (with_reducible refine Kd.C_alloc ?_ _) | (with_reducible refine Kd.C_drewN ?_ _) | (with_reducible refine Kd.C_drew ?_))); (case side4 => exact HC0_1.out); rintro e w19 ⟨rfl, hb⟩; refine ⟨_, rfl, ?_⟩; have n0_ := Aside0.mk (blk_below (g := gb54001) (o := .cells #[.slice A0_0 l0_0.length c0_0, .slice A0_1 l0_1.length c0_1, .int .i64 a0_2] 66 (0, 0)) (by (with_reducible repeat (first | refine blk_drewN ?_ _ | refine blk_drew ?_ | refine blk_alloc ?_ _)); exact BK54001.out) hb); have n1_ := Aside0.mk (below_step (by repeat (first | (with_reducible first | exact HB.out | apply below_alloc | apply pw_below_drewN | apply below_drew1 | refine below_set ?_ GE54001.out) | exact HB.out)) hb); clear BK54001; clear HB; have BK54001 := n0_; have HB := n1_; clear n0_ n1_; (try clear hb); (try clear hb2); (try clear hk); (try clear hi)))
          go_ret3
          exact ⟨by first | rfl | (simp [errW_none, errW_some] <;> rfl) | (simp [*, errW_none, errW_some] <;> rfl), by repeat (first | (with_reducible first | exact HB.out | apply below_alloc | apply pw_below_drewN | apply below_drew1 | refine below_set ?_ GE54001.out) | exact HB.out)⟩

end Go.Proofs.Ytpoffpdaadhkgaa.Pr

namespace Go.Proofs.Ytpoffpdaadhkgaa.Pr
open Go.RowKit Go.Proofs.YtpoffpdaadhkgaaW.PrintWords Go.Proofs.YtpoffpdaadhkgaaW.PrintLast Go.Proofs.YtpoffpdaadhkgaaW.PrintMore
attribute [local go_sem] max2_int min2_int max_two min_two max_three min_three max_four min_four
set_option linter.unusedVariables false
set_option linter.unusedSimpArgs false

/-! ### impl_freeTie: function 104 (by hand) -/
open Go.Proofs.Ytpoffpdaadhkgaa.Ni
-- IMPORT Derived.Test.YtpoffpdaadhkgaaQNice
def pfreeI (ts : List S126) (node : Int) : Int := idxOf (fun t => t.f4 && decide (t.f1 = node)) ts
def impl_freeTie.f (l0_0 : List (S120)) (l0_1 : List (S126)) (a0_2 : Int) (a1 : Int) : Option Int := some (pfreeI l0_1 a1)
theorem impl_freeTie_1.clo (B : Nat) (p : Int) (W : World) (hB : W.cell? ⟨B, 0, none⟩ = some (.int .i64 p)) (x : S126) :
    Calls Try.prog 158 #[.agg #[.int .i64 x.f0, .int .i64 x.f1, .int .i64 x.f2, .int .i64 x.f3, .bool x.f4], .pointer (some ⟨B, 0, none⟩)] W fun e w' => e = .returned (.bool (x.f4 && decide (x.f1 = p))) ∧ Below W.heap.size W w' := by
  have hlt : B < W.heap.size := World.block_lt_of_cell? W _ hB
  have HE := Aside0.mk (show (x.f1 == p) = decide (x.f1 = p) by rw [Bool.eq_iff_iff]; simp)
  obtain ⟨f0, f1, f2, f3, f4⟩ := x
  cases f4 with
  | false =>
    go_enter Try.func158, Try.ntmps158
    go_wp2
    go_ret
    exact ⟨rfl, (Below.refl _ _).alloc (Nat.le_refl _) _⟩
  | true =>
    go_enter Try.func158, Try.ntmps158
    go_wp2
    go_ret
    exact ⟨by rw [← HE.out]; rfl, (Below.refl _ _).alloc (Nat.le_refl _) _⟩
set_option maxHeartbeats 4000000 in
theorem impl_freeTie.calls (A0_0 : Option Addr) (c0_0 : Nat) (l0_0 : List (S120)) (A0_1 : Option Addr) (c0_1 : Nat) (l0_1 : List (S126)) (a0_2 : Int) (a1 : Int) (r : Int) (w : World) (hr0_0 : Kd.C k120 w A0_0 l0_0.length l0_0) (hc0_0 : l0_0.length ≤ c0_0) (hr0_1 : Kd.C k126 w A0_1 l0_1.length l0_1) (hc0_1 : l0_1.length ≤ c0_1) (h : impl_freeTie.f l0_0 l0_1 a0_2 a1 = some r) :
    Calls Try.prog 104 #[.agg #[.slice A0_0 l0_0.length c0_0, .slice A0_1 l0_1.length c0_1, .int .i64 a0_2], .int .i64 a1] w fun e w' => e = .returned (.int .i64 r) ∧ Below w.heap.size w w' := by
  obtain rfl := Option.some.inj h
  have HC' := Aside0.mk fun (W : World) (B : Nat) (hb : Below w.heap.size w W) (hcell : W.cell? ⟨B, 0, none⟩ = some (.int .i64 a1)) => impl_Tie_157.any (fun t => t.f4 && decide (t.f1 = a1)) 158 #[.pointer (some ⟨B, 0, none⟩)] (enters_of Try.func158 (by kernel_rfl) rfl) A0_1 c0_1 l0_1 W (Kd.C_below hr0_1 hb)
        (fun W' x _ hb' => impl_freeTie_1.clo B a1 W' ((hb'.cell (World.block_lt_of_cell? W _ hcell)).trans hcell) x)
  clear hr0_0 hr0_1 h
  have HB2 := Aside0.mk (((Below.refl w.heap.size w).alloc (Nat.le_refl _) (.cells #[.slice A0_0 l0_0.length c0_0, .slice A0_1 l0_1.length c0_1, .int .i64 a0_2] 66)).alloc (by simp) (.cells #[.int .i64 a1] 3))
  have hu := Try.underlying66
  go_enter Try.func104, Try.ntmps104
  go_wp2_with fail
  refine (HC'.out _ _ HB2.out (by go_simp)).mono ?_
  rintro e w' ⟨rfl, hb⟩
  go_wp2
  go_ret
  exact ⟨rfl, HB2.out.trans (hb.mono HB2.out.size)⟩

end Go.Proofs.Ytpoffpdaadhkgaa.Pr

namespace Go.Proofs.Ytpoffpdaadhkgaa.Pr
open Go.RowKit Go.Proofs.YtpoffpdaadhkgaaW.PrintWords Go.Proofs.YtpoffpdaadhkgaaW.PrintLast Go.Proofs.YtpoffpdaadhkgaaW.PrintMore
attribute [local go_sem] max2_int min2_int max_two min_two max_three min_three max_four min_four
set_option linter.unusedVariables false
set_option linter.unusedSimpArgs false

/-! ### impl_chainOf: function 108 -/
def impl_chainOf.l0 : Nat → Int → List Int → List (S120) → List (S126) → Int → Option (Int × List Int)
  | 0, _, _, _, _, _ => none
  | k + 1, x1, x6, x108002000, x108002001, x108002002 => (impl_freeTie.f x108002000 x108002001 x108002002 x1).bind fun t108002 => (if t108002 < 0 then (some (x1, x6)) else ((slices_Contains_int_int.f x6 t108002).bind fun t108003 => (if t108003 = true then (some ((-1), ([] : List Int))) else (if x6.length < 17592186044416 then (if 0 ≤ t108002 then (if t108002 < (x108002001.length : Int) then (impl_chainOf.l0 k ((rd_T126 x108002001 t108002).f0) (x6 ++ [t108002]) x108002000 x108002001 x108002002) else (none)) else (none)) else (none)))))
def impl_chainOf.f (k : Nat) (l0_0 : List (S120)) (l0_1 : List (S126)) (a0_2 : Int) (a1 : Int) : Option (Int × List Int) := impl_chainOf.l0 k a1 ([] : List Int) l0_0 l0_1 a0_2
def impl_chainOf.T7 : Bool × List (List Nat × List Nat) := (true, [([], []), ([], []), ([1], [1]), ([0, 2], [0, 2]), ([], []), ([4], [4]), ([], []), ([5, 6], [5, 6]), ([7], [7]), ([8], [8]), ([3, 3, 0, 1, 2, 3], [0, 3]), ([9, 10, 0, 1, 2, 3, 4, 5, 6, 7, 8, 9, 10], [9])])
def impl_chainOf.B7 : List Nat := [0, 0, 2, 7, 0, 16, 0, 112, 240, 496, 15, 2047]
theorem impl_chainOf.tab7 : rtab .any (opsOf Try.f108 7) = impl_chainOf.T7 := by kernel_rfl
theorem impl_chainOf.bits7 : waitsOk impl_chainOf.T7.2 impl_chainOf.B7 = true := by kernel_rfl
set_option maxHeartbeats 8000000 in
set_option maxRecDepth 100000 in
theorem impl_chainOf.calls (k : Nat) (A0_0 : Option Addr) (c0_0 : Nat) (l0_0 : List (S120)) (A0_1 : Option Addr) (c0_1 : Nat) (l0_1 : List (S126)) (a0_2 : Int) (a1 : Int) (r1 : Int) (r2 : List Int) (w : World) (hr0_0 : Kd.C k120 w A0_0 l0_0.length l0_0) (hc0_0 : l0_0.length ≤ c0_0) (hr0_1 : Kd.C k126 w A0_1 l0_1.length l0_1) (hc0_1 : l0_1.length ≤ c0_1) (h : impl_chainOf.f k l0_0 l0_1 a0_2 a1 = some (r1, r2)) :
    Calls Try.prog 108 #[.agg #[.slice A0_0 l0_0.length c0_0, .slice A0_1 l0_1.length c0_1, .int .i64 a0_2], .int .i64 a1] w fun e w' => ∃ v1_ : Value, e = .returned (.tuple #[.int .i64 r1, v1_]) ∧ Kd.R (Kd.int .i64) 3 w' w.heap.size (fun _ => True) v1_ r2 ∧ Below w.heap.size w w' := by
  have hu66 := Try.underlying66
  have HR0_0 := Aside0.mk hr0_0
  have HC0_0 := Aside0.mk hc0_0
  clear hr0_0 hc0_0
  have HR0_1 := Aside0.mk hr0_1
  have HC0_1 := Aside0.mk hc0_1
  clear hr0_1 hc0_1
  have HB := Aside0.mk (Below.refl w.heap.size w)
  have H : (impl_chainOf.l0 k a1 ([] : List Int) l0_0 l0_1 a0_2) = some (r1, r2) := h
  clear h
  have H' := Aside0.mk H
  clear H
  go_enter Try.func108, Try.ntmps108
  go_wp2_with (first | ((with_reducible refine gate_dst (N := 2) rfl ?_); refine box_event ?hg (N := 2) ?hd (cs := #[.slice A0_0 l0_0.length c0_0, .slice A0_1 l0_1.length c0_1, .int .i64 a0_2]) (t := 66) ?hr ?_; (case hd => rfl); (case hg => rfl); (case hr => first | (go_simp; done) | (go_simp; rfl)); intro gb108001 hg w3 hbox hb; have n0_ := Aside0.mk (below_step (by repeat (first | (with_reducible first | exact HB.out | apply below_alloc | apply pw_below_drewN | apply below_drew1) | exact HB.out)) hb); have n1_ := Aside0.mk (hbox); have n2_ := Aside0.mk ((by rw [hg]; exact (below_size (by repeat (first | (with_reducible first | exact HB.out | apply below_alloc | apply pw_below_drewN | apply below_drew1) | exact HB.out))) : w.heap.size ≤ gb108001)); have n3_ := Aside0.mk ((by rw [hg]; exact (below_size (by repeat (first | (with_reducible first | exact HB.out | apply below_alloc | apply pw_below_drewN | apply below_drew1) | exact HB.out))) : w.heap.size ≤ gb108001)); clear HB; have HB := n0_; have BK108001 := n1_; have GW108001 := n2_; have GE108001 := n3_; clear n0_ n1_ n2_ n3_; clear hb hbox hg))
  go_loopg [1, 6] k (fun kq v1 v6 w' => ∃ (x1_1 : Int) (x6_1 : List Int), v1 = .int .i64 x1_1 ∧ Aside0 (impl_chainOf.l0 kq x1_1 x6_1 l0_0 l0_1 a0_2 = some (r1, r2)) ∧ Aside0 (kq ≤ k) ∧ Aside0 (Kd.R (Kd.int .i64) 3 w' w.heap.size (fun _ => True) v6 x6_1) ∧ Aside0 (w'.heap[gb108001]? = some (.cells #[(.slice A0_0 l0_0.length c0_0), (.slice A0_1 l0_1.length c0_1), .int .i64 a0_2] 66 (0, 0))) ∧ Aside0 (Below w.heap.size w w'))
  case atStart => exact ⟨(a1), (([] : List Int)), (by first | rfl | (simp; done) | (simp [*]; done)), H', ⟨Nat.le_refl _⟩, ⟨by first | exact Kd.R_nil _ _ _ _ _ | exact Kd.N_nil _ _ _ _ _ | exact Kd.V_nil _ _ _ _ _ | exact Kd.Q_nil _ _ _ _ _ | exact Kd.S_nil _ _ _ _ _⟩, ⟨by (with_reducible repeat (first | refine blk_drewN ?_ _ | refine blk_drew ?_ | refine blk_alloc ?_ _)); exact BK108001.out⟩, ⟨by repeat (first | (with_reducible first | exact HB.out | apply below_alloc | apply pw_below_drewN | apply below_drew1 | refine below_set ?_ GE108001.out) | exact HB.out)⟩⟩
  case round =>
    clear H'
    try clear c1
    try clear p2
    obtain ⟨x1_1, x6_1, rfl, HA, HK1, HO_6, BK108001, HB⟩ := hrel
    cases gk with
    | zero => exact absurd HA.out (by simp [impl_chainOf.l0])
    | succ k1 =>
      have H := HA.out
      clear HA
      simp only [impl_chainOf.l0] at H
      replace H := Option.bind_eq_some_iff.mp H
      obtain ⟨t108002, A40, H⟩ := H
      replace H : (if t108002 < 0 then (some (x1_1, x6_1)) else ((slices_Contains_int_int.f x6_1 t108002).bind fun t108003 => (if t108003 = true then (some ((-1), ([] : List Int))) else (if x6_1.length < 17592186044416 then (if 0 ≤ t108002 then (if t108002 < (l0_1.length : Int) then (impl_chainOf.l0 k1 ((rd_T126 l0_1 t108002).f0) (x6_1 ++ [t108002]) l0_0 l0_1 a0_2) else (none)) else (none)) else (none))))) = some (r1, r2) := H
      have A4 := Aside0.mk A40
      clear A40
      by_cases c5 : t108002 < 0
      · rw [if_pos c5] at H
        have c5b0 : decide (t108002 < 0) = true := decide_eq_true c5
        clear c5
        simp only [Option.some.injEq, Prod.mk.injEq] at H
        obtain ⟨rfl, rfl⟩ := H
        have hcz6_0 : wr.cell? ⟨gb108001, 0, none⟩ = some (.slice A0_0 l0_0.length c0_0) := (blk_cell BK108001.out 0).trans rfl
        have hcz6_1 : wr.cell? ⟨gb108001, 1, none⟩ = some (.slice A0_1 l0_1.length c0_1) := (blk_cell BK108001.out 1).trans rfl
        have hcz6_2 : wr.cell? ⟨gb108001, 2, none⟩ = some (.int .i64 a0_2) := (blk_cell BK108001.out 2).trans rfl
        have hfz6_0 := blk_frozen BK108001.out 0
        have hfz6_1 := blk_frozen BK108001.out 1
        have hfz6_2 := blk_frozen BK108001.out 2
        go_wp2_with (first | ((with_reducible refine gate_callee (f := 104) rfl ?_); refine goesL_ (some 10) rfl rfl Try.func104 (by kernel_rfl) rfl #[.agg #[.slice A0_0 l0_0.length c0_0, .slice A0_1 l0_1.length c0_1, .int .i64 a0_2], .int .i64 x1_1] rfl (by (try simp only [List.map_toArray, List.map_cons, List.map_nil]); first | done | rfl | (simp only [List.length_drop, List.length_take]; rfl)) ?_; (with_reducible refine (impl_freeTie.calls _ _ l0_0 _ _ l0_1 a0_2 x1_1 t108002 _ ?side1 ?side2 ?side3 ?side4 A4.out).mono ?_); (case side1 => repeat (first | exact (Kd.C_below HR0_0.out HB.out) | (with_reducible refine Kd.C_alloc ?_ _) | (with_reducible refine Kd.C_drewN ?_ _) | (with_reducible refine Kd.C_drew ?_))); (case side2 => exact HC0_0.out); (case side3 => repeat (first | exact (Kd.C_below HR0_1.out HB.out) | (with_reducible refine Kd.C_alloc ?_ _) | (with_reducible refine Kd.C_drewN ?_ _) | (with_reducible refine Kd.C_drew ?_))); (case side4 => exact HC0_1.out); rintro e w7 ⟨rfl, hb⟩; refine ⟨_, rfl, ?_⟩; have n0_ := Aside0.mk (Kd.R_below (by (with_reducible repeat (first | apply Kd.R_alloc | apply Kd.R_drewN | apply Kd.R_drew)); exact HO_6.out) hb); have n1_ := Aside0.mk (blk_below (g := gb108001) (o := .cells #[.slice A0_0 l0_0.length c0_0, .slice A0_1 l0_1.length c0_1, .int .i64 a0_2] 66 (0, 0)) (by (with_reducible repeat (first | refine blk_drewN ?_ _ | refine blk_drew ?_ | refine blk_alloc ?_ _)); exact BK108001.out) hb); have n2_ := Aside0.mk (below_step (by repeat (first | (with_reducible first | exact HB.out | apply below_alloc | apply pw_below_drewN | apply below_drew1 | refine below_set ?_ GE108001.out) | exact HB.out)) hb); clear HO_6; clear BK108001; clear HB; have HO_6 := n0_; have BK108001 := n1_; have HB := n2_; clear n0_ n1_ n2_; (try clear hb); (try clear hb2); (try clear hk); (try clear hi)))
        go_ret2
        exact ⟨_, by first | rfl | (simp [errW_none, errW_some] <;> rfl) | (simp [*, errW_none, errW_some] <;> rfl), by (with_reducible repeat (first | apply Kd.R_alloc | apply Kd.R_drewN | apply Kd.R_drew)); exact HO_6.out, by repeat (first | (with_reducible first | exact HB.out | apply below_alloc | apply pw_below_drewN | apply below_drew1 | refine below_set ?_ GE108001.out) | exact HB.out)⟩
      · rw [if_neg c5] at H
        have c5b0 : decide (t108002 < 0) = false := decide_eq_false c5
        clear c5
        replace H := Option.bind_eq_some_iff.mp H
        obtain ⟨t108003, A80, H⟩ := H
        replace H : (if t108003 = true then (some ((-1), ([] : List Int))) else (if x6_1.length < 17592186044416 then (if 0 ≤ t108002 then (if t108002 < (l0_1.length : Int) then (impl_chainOf.l0 k1 ((rd_T126 l0_1 t108002).f0) (x6_1 ++ [t108002]) l0_0 l0_1 a0_2) else (none)) else (none)) else (none))) = some (r1, r2) := H
        have A8 := Aside0.mk A80
        clear A80
        by_cases c9 : t108003 = true
        · subst c9
          have H1 : (some ((-1), ([] : List Int))) = some (r1, r2) := by rw [if_pos rfl] at H; exact H
          clear H
          have H := H1
          clear H1
          simp only [Option.some.injEq, Prod.mk.injEq] at H
          obtain ⟨rfl, rfl⟩ := H
          have hcz10_0 : wr.cell? ⟨gb108001, 0, none⟩ = some (.slice A0_0 l0_0.length c0_0) := (blk_cell BK108001.out 0).trans rfl
          have hcz10_1 : wr.cell? ⟨gb108001, 1, none⟩ = some (.slice A0_1 l0_1.length c0_1) := (blk_cell BK108001.out 1).trans rfl
          have hcz10_2 : wr.cell? ⟨gb108001, 2, none⟩ = some (.int .i64 a0_2) := (blk_cell BK108001.out 2).trans rfl
          have hfz10_0 := blk_frozen BK108001.out 0
          have hfz10_1 := blk_frozen BK108001.out 1
          have hfz10_2 := blk_frozen BK108001.out 2
          go_wp2_with (first | ((with_reducible refine gate_callee (f := 104) rfl ?_); refine goesL_ (some 10) rfl rfl Try.func104 (by kernel_rfl) rfl #[.agg #[.slice A0_0 l0_0.length c0_0, .slice A0_1 l0_1.length c0_1, .int .i64 a0_2], .int .i64 x1_1] rfl (by (try simp only [List.map_toArray, List.map_cons, List.map_nil]); first | done | rfl | (simp only [List.length_drop, List.length_take]; rfl)) ?_; (with_reducible refine (impl_freeTie.calls _ _ l0_0 _ _ l0_1 a0_2 x1_1 t108002 _ ?side1 ?side2 ?side3 ?side4 A4.out).mono ?_); (case side1 => repeat (first | exact (Kd.C_below HR0_0.out HB.out) | (with_reducible refine Kd.C_alloc ?_ _) | (with_reducible refine Kd.C_drewN ?_ _) | (with_reducible refine Kd.C_drew ?_))); (case side2 => exact HC0_0.out); (case side3 => repeat (first | exact (Kd.C_below HR0_1.out HB.out) | (with_reducible refine Kd.C_alloc ?_ _) | (with_reducible refine Kd.C_drewN ?_ _) | (with_reducible refine Kd.C_drew ?_))); (case side4 => exact HC0_1.out); rintro e w11 ⟨rfl, hb⟩; refine ⟨_, rfl, ?_⟩; have n0_ := Aside0.mk (Kd.R_below (by (with_reducible repeat (first | apply Kd.R_alloc | apply Kd.R_drewN | apply Kd.R_drew)); exact HO_6.out) hb); have n1_ := Aside0.mk (blk_below (g := gb108001) (o := .cells #[.slice A0_0 l0_0.length c0_0, .slice A0_1 l0_1.length c0_1, .int .i64 a0_2] 66 (0, 0)) (by (with_reducible repeat (first | refine blk_drewN ?_ _ | refine blk_drew ?_ | refine blk_alloc ?_ _)); exact BK108001.out) hb); have n2_ := Aside0.mk (below_step (by repeat (first | (with_reducible first | exact HB.out | apply below_alloc | apply pw_below_drewN | apply below_drew1 | refine below_set ?_ GE108001.out) | exact HB.out)) hb); clear HO_6; clear BK108001; clear HB; have HO_6 := n0_; have BK108001 := n1_; have HB := n2_; clear n0_ n1_ n2_; (try clear hb); (try clear hb2); (try clear hk); (try clear hi); obtain ⟨Ao12, co12, eo12⟩ := Kd.R_slice HO_6.out; subst eo12) | ((with_reducible refine gate_callee (f := 151) rfl ?_); refine goesL_ (some 17) rfl rfl Try.func151 (by kernel_rfl) rfl #[.slice Ao12 x6_1.length co12, .int .i64 t108002] rfl (by (try simp only [List.map_toArray, List.map_cons, List.map_nil]); first | done | rfl | (simp only [List.length_drop, List.length_take]; rfl)) ?_; (with_reducible refine (slices_Contains_int_int.calls _ _ x6_1 t108002 true _ ?side1 ?side2 A8.out).mono ?_); (case side1 => repeat (first | exact (Kd.R_reads' HO_6.out).2.2 | (with_reducible refine Kd.C_alloc ?_ _) | (with_reducible refine Kd.C_drewN ?_ _) | (with_reducible refine Kd.C_drew ?_))); (case side2 => exact (Kd.R_reads' HO_6.out).2.1); rintro e w13 ⟨rfl, hb⟩; refine ⟨_, rfl, ?_⟩; have n0_ := Aside0.mk (Kd.R_below (by (with_reducible repeat (first | apply Kd.R_alloc | apply Kd.R_drewN | apply Kd.R_drew)); exact HO_6.out) hb); have n1_ := Aside0.mk (blk_below (g := gb108001) (o := .cells #[.slice A0_0 l0_0.length c0_0, .slice A0_1 l0_1.length c0_1, .int .i64 a0_2] 66 (0, 0)) (by (with_reducible repeat (first | refine blk_drewN ?_ _ | refine blk_drew ?_ | refine blk_alloc ?_ _)); exact BK108001.out) hb); have n2_ := Aside0.mk (below_step (by repeat (first | (with_reducible first | exact HB.out | apply below_alloc | apply pw_below_drewN | apply below_drew1 | refine below_set ?_ GE108001.out) | exact HB.out)) hb); clear HO_6; clear BK108001; clear HB; have HO_6 := n0_; have BK108001 := n1_; have HB := n2_; clear n0_ n1_ n2_; (try clear hb); (try clear hb2); (try clear hk); (try clear hi)))
          go_ret2
          exact ⟨_, by first | rfl | (simp [errW_none, errW_some] <;> rfl) | (simp [*, errW_none, errW_some] <;> rfl), by first | exact Kd.R_nil _ _ _ _ _ | exact Kd.N_nil _ _ _ _ _ | exact Kd.V_nil _ _ _ _ _ | exact Kd.Q_nil _ _ _ _ _ | exact Kd.S_nil _ _ _ _ _, by repeat (first | (with_reducible first | exact HB.out | apply below_alloc | apply pw_below_drewN | apply below_drew1 | refine below_set ?_ GE108001.out) | exact HB.out)⟩
        · replace c9 := Bool.eq_false_iff.mpr c9
          subst c9
          have H1 : (if x6_1.length < 17592186044416 then (if 0 ≤ t108002 then (if t108002 < (l0_1.length : Int) then (impl_chainOf.l0 k1 ((rd_T126 l0_1 t108002).f0) (x6_1 ++ [t108002]) l0_0 l0_1 a0_2) else (none)) else (none)) else (none)) = some (r1, r2) := by rw [if_neg (show ¬ (false = true) by decide)] at H; exact H
          clear H
          have H := H1
          clear H1
          by_cases c14 : x6_1.length < 17592186044416
          · rw [if_pos c14] at H
            have LMc14 := Aside0.mk c14
            clear c14
            obtain ⟨y108004, hy108004⟩ : ∃ y_ : List Int, y_ = (x6_1 ++ [t108002]) := ⟨_, rfl⟩
            replace H : (if 0 ≤ t108002 then (if t108002 < (l0_1.length : Int) then (impl_chainOf.l0 k1 ((rd_T126 l0_1 t108002).f0) y108004 l0_0 l0_1 a0_2) else (none)) else (none)) = some (r1, r2) := by first | (rw [hy108004]; with_reducible exact H) | (have H2_ := (Option.bind_some _ _).symm.trans H; rw [hy108004]; with_reducible exact H2_) | (have H2_ := (Option.bind_some _ _).symm.trans H; with_reducible exact H2_) | with_reducible exact H | (rw [hy108004]; exact H) | exact H
            have Ny108004 := Aside0.mk hy108004
            clear hy108004
            by_cases c15 : 0 ≤ t108002
            · rw [if_pos c15] at H
              have c15b0 : decide (0 ≤ t108002) = true := decide_eq_true c15
              clear c15
              by_cases c16 : t108002 < (l0_1.length : Int)
              · rw [if_pos c16] at H
                have c16b0 : decide (t108002 < (l0_1.length : Int)) = true := decide_eq_true c16
                clear c16
                have H' := Aside0.mk H
                clear H
                have hcz17_0 : wr.cell? ⟨gb108001, 0, none⟩ = some (.slice A0_0 l0_0.length c0_0) := (blk_cell BK108001.out 0).trans rfl
                have hcz17_1 : wr.cell? ⟨gb108001, 1, none⟩ = some (.slice A0_1 l0_1.length c0_1) := (blk_cell BK108001.out 1).trans rfl
                have hcz17_2 : wr.cell? ⟨gb108001, 2, none⟩ = some (.int .i64 a0_2) := (blk_cell BK108001.out 2).trans rfl
                have hfz17_0 := blk_frozen BK108001.out 0
                have hfz17_1 := blk_frozen BK108001.out 1
                have hfz17_2 := blk_frozen BK108001.out 2
                try go_wp2_with (first | ((with_reducible refine gate_callee (f := 104) rfl ?_); refine goesL_ (some 10) rfl rfl Try.func104 (by kernel_rfl) rfl #[.agg #[.slice A0_0 l0_0.length c0_0, .slice A0_1 l0_1.length c0_1, .int .i64 a0_2], .int .i64 x1_1] rfl (by (try simp only [List.map_toArray, List.map_cons, List.map_nil]); first | done | rfl | (simp only [List.length_drop, List.length_take]; rfl)) ?_; (with_reducible refine (impl_freeTie.calls _ _ l0_0 _ _ l0_1 a0_2 x1_1 t108002 _ ?side1 ?side2 ?side3 ?side4 A4.out).mono ?_); (case side1 => repeat (first | exact (Kd.C_below HR0_0.out HB.out) | (with_reducible refine Kd.C_alloc ?_ _) | (with_reducible refine Kd.C_drewN ?_ _) | (with_reducible refine Kd.C_drew ?_))); (case side2 => exact HC0_0.out); (case side3 => repeat (first | exact (Kd.C_below HR0_1.out HB.out) | (with_reducible refine Kd.C_alloc ?_ _) | (with_reducible refine Kd.C_drewN ?_ _) | (with_reducible refine Kd.C_drew ?_))); (case side4 => exact HC0_1.out); rintro e w18 ⟨rfl, hb⟩; refine ⟨_, rfl, ?_⟩; have n0_ := Aside0.mk (Kd.R_below (by (with_reducible repeat (first | apply Kd.R_alloc | apply Kd.R_drewN | apply Kd.R_drew)); exact HO_6.out) hb); have n1_ := Aside0.mk (blk_below (g := gb108001) (o := .cells #[.slice A0_0 l0_0.length c0_0, .slice A0_1 l0_1.length c0_1, .int .i64 a0_2] 66 (0, 0)) (by (with_reducible repeat (first | refine blk_drewN ?_ _ | refine blk_drew ?_ | refine blk_alloc ?_ _)); exact BK108001.out) hb); have n2_ := Aside0.mk (below_step (by repeat (first | (with_reducible first | exact HB.out | apply below_alloc | apply pw_below_drewN | apply below_drew1 | refine below_set ?_ GE108001.out) | exact HB.out)) hb); clear HO_6; clear BK108001; clear HB; have HO_6 := n0_; have BK108001 := n1_; have HB := n2_; clear n0_ n1_ n2_; (try clear hb); (try clear hb2); (try clear hk); (try clear hi); obtain ⟨Ao19, co19, eo19⟩ := Kd.R_slice HO_6.out; subst eo19) | ((with_reducible refine gate_callee (f := 151) rfl ?_); refine goesL_ (some 17) rfl rfl Try.func151 (by kernel_rfl) rfl #[.slice Ao19 x6_1.length co19, .int .i64 t108002] rfl (by (try simp only [List.map_toArray, List.map_cons, List.map_nil]); first | done | rfl | (simp only [List.length_drop, List.length_take]; rfl)) ?_; (with_reducible refine (slices_Contains_int_int.calls _ _ x6_1 t108002 false _ ?side1 ?side2 A8.out).mono ?_); (case side1 => repeat (first | exact (Kd.R_reads' HO_6.out).2.2 | (with_reducible refine Kd.C_alloc ?_ _) | (with_reducible refine Kd.C_drewN ?_ _) | (with_reducible refine Kd.C_drew ?_))); (case side2 => exact (Kd.R_reads' HO_6.out).2.1); rintro e w20 ⟨rfl, hb⟩; refine ⟨_, rfl, ?_⟩; have n0_ := Aside0.mk (Kd.R_below (by (with_reducible repeat (first | apply Kd.R_alloc | apply Kd.R_drewN | apply Kd.R_drew)); exact HO_6.out) hb); have n1_ := Aside0.mk (blk_below (g := gb108001) (o := .cells #[.slice A0_0 l0_0.length c0_0, .slice A0_1 l0_1.length c0_1, .int .i64 a0_2] 66 (0, 0)) (by (with_reducible repeat (first | refine blk_drewN ?_ _ | refine blk_drew ?_ | refine blk_alloc ?_ _)); exact BK108001.out) hb); have n2_ := Aside0.mk (below_step (by repeat (first | (with_reducible first | exact HB.out | apply below_alloc | apply pw_below_drewN | apply below_drew1 | refine below_set ?_ GE108001.out) | exact HB.out)) hb); clear HO_6; clear BK108001; clear HB; have HO_6 := n0_; have BK108001 := n1_; have HB := n2_; clear n0_ n1_ n2_; (try clear hb); (try clear hb2); (try clear hk); (try clear hi)))
                have n0_ := Aside0.mk (Kd.R_drew HO_6.out)
                have n1_ := Aside0.mk (blk_drew BK108001.out)
                have n2_ := Aside0.mk (below_drew1 HB.out)
                clear HO_6
                clear BK108001
                clear HB
                have HO_6 := n0_
                have BK108001 := n1_
                have HB := n2_
                clear n0_ n1_ n2_
                have p108007 : 0 ≤ (t108002 : Int) := of_decide_eq_true (by first | (with_reducible assumption) | assumption)
                have q108007 : t108002 < (l0_1.length : Int) := of_decide_eq_true (by first | (with_reducible assumption) | assumption)
                obtain ⟨ad108007, e108007, hx108007_0, hx108007_1, hx108007_2, hx108007_3, hx108007_4⟩ := at_T126 HR0_1.out t108002 p108007 q108007
                have hw108007_4 := hx108007_4
                have hw108007_3 := hx108007_3
                have hw108007_2 := hx108007_2
                have hw108007_1 := hx108007_1
                have hw108007_0 := hx108007_0
                cases e108007
                replace hx108007_0 := (HB.out.cell (World.block_lt_of_cell? w _ hx108007_0)).trans hx108007_0
                replace hx108007_1 := (HB.out.cell (World.block_lt_of_cell? w _ hx108007_1)).trans hx108007_1
                replace hx108007_2 := (HB.out.cell (World.block_lt_of_cell? w _ hx108007_2)).trans hx108007_2
                replace hx108007_3 := (HB.out.cell (World.block_lt_of_cell? w _ hx108007_3)).trans hx108007_3
                replace hx108007_4 := (HB.out.cell (World.block_lt_of_cell? w _ hx108007_4)).trans hx108007_4
                replace p108007 := eq_true p108007
                replace q108007 := eq_true q108007
                refine start_ (n := 12) (S := fun w' => w'.cell? ⟨gb108001, 0, none⟩ = some (.slice A0_0 l0_0.length c0_0) ∧ w'.cell? ⟨gb108001, 1, none⟩ = some (.slice (some ad108007) l0_1.length c0_1) ∧ w'.cell? ⟨gb108001, 2, none⟩ = some (.int .i64 a0_2) ∧ w'.cell? (ad108007.add ((t108002).toNat * 5)) = some (.int .i64 ((rd_T126 l0_1 t108002).f0)) ∧ w'.cell? ⟨(ad108007.add ((t108002).toNat * 5)).block, (ad108007.add ((t108002).toNat * 5)).off + 1, none⟩ = some (.int .i64 ((rd_T126 l0_1 t108002).f1)) ∧ w'.cell? ⟨(ad108007.add ((t108002).toNat * 5)).block, (ad108007.add ((t108002).toNat * 5)).off + 2, none⟩ = some (.int .i64 ((rd_T126 l0_1 t108002).f2)) ∧ w'.cell? ⟨(ad108007.add ((t108002).toNat * 5)).block, (ad108007.add ((t108002).toNat * 5)).off + 3, none⟩ = some (.int .i64 ((rd_T126 l0_1 t108002).f3)) ∧ w'.cell? ⟨(ad108007.add ((t108002).toNat * 5)).block, (ad108007.add ((t108002).toNat * 5)).off + 4, none⟩ = some (.bool ((rd_T126 l0_1 t108002).f4))) (ds := []) #[false, false, false, false, false, false, false, false, false, false, false, false] (by kernel_rfl) rfl rfl ⟨(blk_cell BK108001.out 0).trans rfl, (blk_cell BK108001.out 1).trans rfl, (blk_cell BK108001.out 2).trans rfl, ((HB.out.cell (World.block_lt_of_cell? w _ hw108007_0)).trans hw108007_0), ((HB.out.cell (World.block_lt_of_cell? w _ hw108007_1)).trans hw108007_1), ((HB.out.cell (World.block_lt_of_cell? w _ hw108007_2)).trans hw108007_2), ((HB.out.cell (World.block_lt_of_cell? w _ hw108007_3)).trans hw108007_3), ((HB.out.cell (World.block_lt_of_cell? w _ hw108007_4)).trans hw108007_4)⟩ (fun hHeld => ?_); refine with_tabW impl_chainOf.tab7 impl_chainOf.bits7 (fun HT_ HW_ => ?_)
                generalize w20.drew = w21 at HO_6 BK108001 HB hx108007_0 hx108007_1 hx108007_2 hx108007_3 hx108007_4 hHeld ⊢
                refine pure_ (i := 0) (N := some 18) (v := ?_) (a' := ?_) #[true, false, false, false, false, false, false, false, false, false, false, false] rfl rfl (any_of HT_.out (by kernel_rfl)) (fun _ _ _ h => h) (Or.inl ⟨by rfl, ?_⟩) ?_ ?_
                rotate_left
                · intro w'
                  go_simp
                  with_reducible rfl
                rotate_left
                · simp only [Act.put, List.setIfInBounds_toArray, List.set_cons_zero, List.set_cons_succ, i64_w, i32_w]
                  rfl
                refine pure_ (i := 1) (N := some 19) (v := ?_) (a' := ?_) #[true, true, false, false, false, false, false, false, false, false, false, false] rfl rfl (any_of HT_.out (by kernel_rfl)) (fun _ _ _ h => h) (Or.inl ⟨by rfl, ?_⟩) ?_ ?_
                rotate_left
                · intro w'
                  go_simp
                  with_reducible rfl
                rotate_left
                · simp only [Act.put, List.setIfInBounds_toArray, List.set_cons_zero, List.set_cons_succ, i64_w, i32_w]
                  rfl
                refine pure_ (i := 4) (N := some 22) (v := ?_) (a' := ?_) #[true, true, false, false, true, false, false, false, false, false, false, false] rfl rfl (any_of HT_.out (by kernel_rfl)) (fun _ _ _ h => h) (Or.inl ⟨by rfl, ?_⟩) ?_ ?_
                rotate_left
                · intro w'
                  go_simp
                  with_reducible rfl
                rotate_left
                · simp only [Act.put, List.setIfInBounds_toArray, List.set_cons_zero, List.set_cons_succ, i64_w, i32_w]
                  rfl
                refine pure_ (i := 6) (N := some 24) (v := ?_) (a' := ?_) #[true, true, false, false, true, false, true, false, false, false, false, false] rfl rfl (any_of HT_.out (by kernel_rfl)) (fun _ _ _ h => h) (Or.inl ⟨by rfl, ?_⟩) ?_ ?_
                rotate_left
                · intro w'
                  go_simp
                  with_reducible rfl
                rotate_left
                · simp only [Act.put, List.setIfInBounds_toArray, List.set_cons_zero, List.set_cons_succ, i64_w, i32_w]
                  rfl
                refine take_ (i := 5) (N := some 23) (v := ?_) (a' := ?_) #[true, true, false, false, true, true, true, false, false, false, false, false] rfl rfl (take_ofW HT_.out HW_.out (by kernel_rfl)) (fun _ _ _ h => h) (Or.inl ⟨by rfl, ?_⟩) hHeld ?_ ?_
                rotate_left
                · rintro w' ⟨s0, s1, s2, s3, s4, s5, s6, s7⟩
                  go_simp
                  with_reducible rfl
                rotate_left
                · simp only [Act.put, List.setIfInBounds_toArray, List.set_cons_zero, List.set_cons_succ, i64_w, i32_w]
                  rfl
                refine pure_ (i := 7) (N := some 25) (v := ?_) (a' := ?_) #[true, true, false, false, true, true, true, true, false, false, false, false] rfl rfl (any_of HT_.out (by kernel_rfl)) (fun _ _ _ h => h) (Or.inl ⟨by rfl, ?_⟩) ?_ ?_
                rotate_left
                · intro w'
                  go_simp
                  with_reducible rfl
                rotate_left
                · simp only [Act.put, List.setIfInBounds_toArray, List.set_cons_zero, List.set_cons_succ, i64_w, i32_w]
                  rfl
                refine pure_ (i := 8) (N := some 26) (v := ?_) (a' := ?_) #[true, true, false, false, true, true, true, true, true, false, false, false] rfl rfl (any_of HT_.out (by kernel_rfl)) (fun _ _ _ h => h) (Or.inl ⟨by rfl, ?_⟩) ?_ ?_
                rotate_left
                · intro w'
                  go_simp
                  with_reducible rfl
                rotate_left
                · simp only [Act.put, List.setIfInBounds_toArray, List.set_cons_zero, List.set_cons_succ, i64_w, i32_w]
                  rfl
                refine take_ (i := 9) (N := some 27) (v := ?_) (a' := ?_) #[true, true, false, false, true, true, true, true, true, true, false, false] rfl rfl (take_ofW HT_.out HW_.out (by kernel_rfl)) (fun _ _ _ h => h) (Or.inl ⟨by rfl, ?_⟩) hHeld ?_ ?_
                rotate_left
                · rintro w' ⟨s0, s1, s2, s3, s4, s5, s6, s7⟩
                  go_simp
                  with_reducible rfl
                rotate_left
                · simp only [Act.put, List.setIfInBounds_toArray, List.set_cons_zero, List.set_cons_succ, i64_w, i32_w]
                  rfl
                refine one_ (i := 2) (N := some 20) #[true, true, true, false, true, true, true, true, true, true, false, false] rfl rfl (one_of HT_.out (by kernel_rfl)) (by decide) (fun K hK => ?_)
                refine value_ (w1 := ?_) (v := ?_) (by rfl) rfl ?_ ?_
                rotate_left 2
                · go_simp
                  constructor
                  · rfl
                  · rfl
                refine hK.out _ _ ⟨(blk_cell (blk_alloc BK108001.out _) 0).trans rfl, (blk_cell (blk_alloc BK108001.out _) 1).trans rfl, (blk_cell (blk_alloc BK108001.out _) 2).trans rfl, (World.cell?_alloc_lt _ _ _ (World.block_lt_of_cell? _ _ (((HB.out.cell (World.block_lt_of_cell? w _ hw108007_0)).trans hw108007_0)))).trans (((HB.out.cell (World.block_lt_of_cell? w _ hw108007_0)).trans hw108007_0)), (World.cell?_alloc_lt _ _ _ (World.block_lt_of_cell? _ _ (((HB.out.cell (World.block_lt_of_cell? w _ hw108007_1)).trans hw108007_1)))).trans (((HB.out.cell (World.block_lt_of_cell? w _ hw108007_1)).trans hw108007_1)), (World.cell?_alloc_lt _ _ _ (World.block_lt_of_cell? _ _ (((HB.out.cell (World.block_lt_of_cell? w _ hw108007_2)).trans hw108007_2)))).trans (((HB.out.cell (World.block_lt_of_cell? w _ hw108007_2)).trans hw108007_2)), (World.cell?_alloc_lt _ _ _ (World.block_lt_of_cell? _ _ (((HB.out.cell (World.block_lt_of_cell? w _ hw108007_3)).trans hw108007_3)))).trans (((HB.out.cell (World.block_lt_of_cell? w _ hw108007_3)).trans hw108007_3)), (World.cell?_alloc_lt _ _ _ (World.block_lt_of_cell? _ _ (((HB.out.cell (World.block_lt_of_cell? w _ hw108007_4)).trans hw108007_4)))).trans (((HB.out.cell (World.block_lt_of_cell? w _ hw108007_4)).trans hw108007_4))⟩ (fun hHeld => ?_)
                clear hK K
                refine norm_ (a' := ?_) ?_ ?_
                rotate_left
                · show Act.put _ (some 20) _ = _
                  simp only [Act.put, List.setIfInBounds_toArray, List.set_cons_zero, List.set_cons_succ, i64_w, i32_w]
                  rfl
                refine one_ (i := 3) (N := some 21) #[true, true, true, true, true, true, true, true, true, true, false, false] rfl rfl (one_of HT_.out (by kernel_rfl)) (by decide) (fun K hK => ?_)
                refine Kd.R_append_step (Kd.int .i64) (w0 := w) w.heap.size (by rfl) (.tmp 18) (.tmp 20) 33 3 (.int .i64 0) 8 rfl Try.underlying33 info3 rfl (by decide) (by omega) (.slice Ao19 x6_1.length co19) x6_1 t108002 [.int .i64 t108002] (fun _ => True) (fun _ => False) rfl rfl ?aP (fun _ hk => hk.elim) ?aF ?aO ?aB ?aS ?aL ?_
                (case aP => exact rfl)
                (case aB => exact (by repeat (first | (with_reducible first | exact HB.out | apply below_alloc | apply pw_below_drewN | apply below_drew1 | refine below_set ?_ GE108001.out) | exact HB.out)))
                (case aF => exact (fun _ _ => trivial))
                (case aO => exact (by (with_reducible repeat (first | apply Kd.R_alloc | apply Kd.R_drewN | apply Kd.R_drew)); exact HO_6.out))
                (case aS => exact (below_size (by repeat (first | (with_reducible first | exact HB.out | apply below_alloc | apply pw_below_drewN | apply below_drew1 | refine below_set ?_ GE108001.out) | exact HB.out))))
                (case aL => have := LMc14.out; omega)
                intro v108005 w22 ho hb hg hat
                rw [← Ny108004.out] at ho
                have n0_ := Aside0.mk (blk_grown (g := gb108001) (o := .cells #[.slice A0_0 l0_0.length c0_0, .slice (some ad108007) l0_1.length c0_1, .int .i64 a0_2] 66 (0, 0)) (by (with_reducible repeat (first | refine blk_drewN ?_ _ | refine blk_drew ?_ | refine blk_alloc ?_ _)); exact BK108001.out) hg (Kd.R_ne HO_6.out BK108001.out (by decide)))
                have n1_ := Aside0.mk (hb)
                have n2_ := Aside0.mk (ho)
                clear BK108001
                clear HB
                clear HO_6
                have BK108001 := n0_
                have HB := n1_
                have HO108006 := n2_
                clear n0_ n1_ n2_
                clear ho hb hg hat
                refine hK.out _ _ ⟨(blk_cell BK108001.out 0).trans rfl, (blk_cell BK108001.out 1).trans rfl, (blk_cell BK108001.out 2).trans rfl, ((HB.out.cell (World.block_lt_of_cell? w _ hw108007_0)).trans hw108007_0), ((HB.out.cell (World.block_lt_of_cell? w _ hw108007_1)).trans hw108007_1), ((HB.out.cell (World.block_lt_of_cell? w _ hw108007_2)).trans hw108007_2), ((HB.out.cell (World.block_lt_of_cell? w _ hw108007_3)).trans hw108007_3), ((HB.out.cell (World.block_lt_of_cell? w _ hw108007_4)).trans hw108007_4)⟩ (fun hHeld => ?_)
                clear hK K
                refine norm_ (a' := ?_) ?_ ?_
                rotate_left
                · show Act.put _ (some 21) _ = _
                  simp only [Act.put, List.setIfInBounds_toArray, List.set_cons_zero, List.set_cons_succ, i64_w, i32_w]
                  rfl
                refine pure_ (i := 10) (N := some 6) (v := ?_) (a' := ?_) #[true, true, true, true, true, true, true, true, true, true, true, false] rfl rfl (any_of HT_.out (by kernel_rfl)) (fun _ _ _ h => h) (Or.inl ⟨by rfl, ?_⟩) ?_ ?_
                rotate_left
                · intro w'
                  go_simp
                  with_reducible rfl
                rotate_left
                · simp only [Act.put, List.setIfInBounds_toArray, List.set_cons_zero, List.set_cons_succ, i64_w, i32_w]
                  rfl
                refine pure_ (i := 11) (N := some 1) (v := ?_) (a' := ?_) #[true, true, true, true, true, true, true, true, true, true, true, true] rfl rfl (any_of HT_.out (by kernel_rfl)) (fun _ _ _ h => h) (Or.inl ⟨by rfl, ?_⟩) ?_ ?_
                rotate_left
                · intro w'
                  go_simp
                  with_reducible rfl
                rotate_left
                · simp only [Act.put, List.setIfInBounds_toArray, List.set_cons_zero, List.set_cons_succ, i64_w, i32_w]
                  rfl
                refine done_ (done_of HT_.out (by kernel_rfl)) ?_
                try go_wp2
                go_roundg k1
                case measure => have := HK1.out; omega
                case rel => exact ⟨((rd_T126 l0_1 t108002).f0), (y108004), (by first | rfl | (simp; done) | (simp [*]; done)), H', ⟨by have := HK1.out; omega⟩, ⟨by (with_reducible repeat (first | apply Kd.R_alloc | apply Kd.R_drewN | apply Kd.R_drew)); exact HO108006.out⟩, ⟨by (with_reducible repeat (first | refine blk_drewN ?_ _ | refine blk_drew ?_ | refine blk_alloc ?_ _)); exact BK108001.out⟩, ⟨by repeat (first | (with_reducible first | exact HB.out | apply below_alloc | apply pw_below_drewN | apply below_drew1 | refine below_set ?_ GE108001.out) | exact HB.out)⟩⟩
              · rw [if_neg c16] at H
                exact absurd H (by simp)
            · rw [if_neg c15] at H
              exact absurd H (by simp)
          · rw [if_neg c14] at H
            exact absurd H (by simp)

end Go.Proofs.Ytpoffpdaadhkgaa.Pr

namespace Go.Proofs.Ytpoffpdaadhkgaa.Pr
open Go.RowKit Go.Proofs.YtpoffpdaadhkgaaW.PrintWords Go.Proofs.YtpoffpdaadhkgaaW.PrintLast Go.Proofs.YtpoffpdaadhkgaaW.PrintMore
attribute [local go_sem] max2_int min2_int max_two min_two max_three min_three max_four min_four
set_option linter.unusedVariables false
set_option linter.unusedSimpArgs false

/-! ### impl_offsets: function 109 -/
def impl_offsets.l0 : Nat → List Int → Int → Int → List Int → Int → Int → List (S120) → List (S126) → Int → Option (Int × Int)
  | 0, _, _, _, _, _, _, _, _, _ => none
  | k + 1, x2, x8, x9, x12, x13, x14, x109002000, x109002001, x109002002 => if x14 < x13 then (if 0 ≤ x14 then (if x14 < (x12.length : Int) then ((slices_Contains_int_int.f x2 (rd x12 x14)).bind fun t109003 => (if t109003 = true then (impl_offsets.l0 k x2 x8 x9 x12 x13 (wrap64 (x14 + 1)) x109002000 x109002001 x109002002) else (if 0 ≤ (rd x12 x14) then (if (rd x12 x14) < (x109002001.length : Int) then (impl_offsets.l0 k x2 (wrap64 (x8 + ((rd_T126 x109002001 (rd x12 x14)).f2))) (wrap64 (x9 + ((rd_T126 x109002001 (rd x12 x14)).f3))) x12 x13 (wrap64 (x14 + 1)) x109002000 x109002001 x109002002) else (none)) else (none)))) else (none)) else (none)) else (some (x8, x9))
def impl_offsets.f (k : Nat) (l0_0 : List (S120)) (l0_1 : List (S126)) (a0_2 : Int) (l1 : List Int) (l2 : List Int) : Option (Int × Int) := impl_offsets.l0 k l2 0 0 l1 (l1.length : Int) 0 l0_0 l0_1 a0_2
set_option maxHeartbeats 8000000 in
set_option maxRecDepth 100000 in
theorem impl_offsets.calls (k : Nat) (A0_0 : Option Addr) (c0_0 : Nat) (l0_0 : List (S120)) (A0_1 : Option Addr) (c0_1 : Nat) (l0_1 : List (S126)) (a0_2 : Int) (A1 : Option Addr) (c1 : Nat) (l1 : List Int) (A2 : Option Addr) (c2 : Nat) (l2 : List Int) (r1 : Int) (r2 : Int) (w : World) (hr0_0 : Kd.C k120 w A0_0 l0_0.length l0_0) (hc0_0 : l0_0.length ≤ c0_0) (hr0_1 : Kd.C k126 w A0_1 l0_1.length l0_1) (hc0_1 : l0_1.length ≤ c0_1) (hr1 : Kd.C (Kd.int .i64) w A1 l1.length l1) (hc1 : l1.length ≤ c1) (hr2 : Kd.C (Kd.int .i64) w A2 l2.length l2) (hc2 : l2.length ≤ c2) (h : impl_offsets.f k l0_0 l0_1 a0_2 l1 l2 = some (r1, r2)) :
    Calls Try.prog 109 #[.agg #[.slice A0_0 l0_0.length c0_0, .slice A0_1 l0_1.length c0_1, .int .i64 a0_2], .slice A1 l1.length c1, .slice A2 l2.length c2] w fun e w' => e = .returned (.tuple #[.int .i64 r1, .int .i64 r2]) ∧ Below w.heap.size w w' := by
  have hu66 := Try.underlying66
  have HR0_0 := Aside0.mk hr0_0
  have HC0_0 := Aside0.mk hc0_0
  clear hr0_0 hc0_0
  have HR0_1 := Aside0.mk hr0_1
  have HC0_1 := Aside0.mk hc0_1
  clear hr0_1 hc0_1
  have HR1 := Aside0.mk hr1
  have HC1 := Aside0.mk hc1
  clear hr1 hc1
  have HR2 := Aside0.mk hr2
  have HC2 := Aside0.mk hc2
  clear hr2 hc2
  have HB := Aside0.mk (Below.refl w.heap.size w)
  have H : (impl_offsets.l0 k l2 0 0 l1 (l1.length : Int) 0 l0_0 l0_1 a0_2) = some (r1, r2) := h
  clear h
  have H' := Aside0.mk H
  clear H
  go_enter Try.func109, Try.ntmps109
  go_wp2_with (first | ((with_reducible refine gate_dst (N := 3) rfl ?_); refine box_event ?hg (N := 3) ?hd (cs := #[.slice A0_0 l0_0.length c0_0, .slice A0_1 l0_1.length c0_1, .int .i64 a0_2]) (t := 66) ?hr ?_; (case hd => rfl); (case hg => rfl); (case hr => first | (go_simp; done) | (go_simp; rfl)); intro gb109001 hg w4 hbox hb; have n0_ := Aside0.mk (below_step (by repeat (first | (with_reducible first | exact HB.out | apply below_alloc | apply pw_below_drewN | apply below_drew1) | exact HB.out)) hb); have n1_ := Aside0.mk (hbox); have n2_ := Aside0.mk ((by rw [hg]; exact (below_size (by repeat (first | (with_reducible first | exact HB.out | apply below_alloc | apply pw_below_drewN | apply below_drew1) | exact HB.out))) : w.heap.size ≤ gb109001)); have n3_ := Aside0.mk ((by rw [hg]; exact (below_size (by repeat (first | (with_reducible first | exact HB.out | apply below_alloc | apply pw_below_drewN | apply below_drew1) | exact HB.out))) : w.heap.size ≤ gb109001)); clear HB; have HB := n0_; have BK109001 := n1_; have GW109001 := n2_; have GE109001 := n3_; clear n0_ n1_ n2_ n3_; clear hb hbox hg))
  repeat (go_quiet (first | ((with_reducible refine gate_dst (N := 3) rfl ?_); refine box_event ?hg (N := 3) ?hd (cs := #[.slice A0_0 l0_0.length c0_0, .slice A0_1 l0_1.length c0_1, .int .i64 a0_2]) (t := 66) ?hr ?_; (case hd => rfl); (case hg => rfl); (case hr => first | (go_simp; done) | (go_simp; rfl)); intro gb109001 hg w4 hbox hb; have n0_ := Aside0.mk (below_step (by repeat (first | (with_reducible first | exact HB.out | apply below_alloc | apply pw_below_drewN | apply below_drew1) | exact HB.out)) hb); have n1_ := Aside0.mk (hbox); have n2_ := Aside0.mk ((by rw [hg]; exact (below_size (by repeat (first | (with_reducible first | exact HB.out | apply below_alloc | apply pw_below_drewN | apply below_drew1) | exact HB.out))) : w.heap.size ≤ gb109001)); have n3_ := Aside0.mk ((by rw [hg]; exact (below_size (by repeat (first | (with_reducible first | exact HB.out | apply below_alloc | apply pw_below_drewN | apply below_drew1) | exact HB.out))) : w.heap.size ≤ gb109001)); clear HB; have HB := n0_; have BK109001 := n1_; have GW109001 := n2_; have GE109001 := n3_; clear n0_ n1_ n2_ n3_; clear hb hbox hg)); try go_wp2_with (first | ((with_reducible refine gate_dst (N := 3) rfl ?_); refine box_event ?hg (N := 3) ?hd (cs := #[.slice A0_0 l0_0.length c0_0, .slice A0_1 l0_1.length c0_1, .int .i64 a0_2]) (t := 66) ?hr ?_; (case hd => rfl); (case hg => rfl); (case hr => first | (go_simp; done) | (go_simp; rfl)); intro gb109001 hg w4 hbox hb; have n0_ := Aside0.mk (below_step (by repeat (first | (with_reducible first | exact HB.out | apply below_alloc | apply pw_below_drewN | apply below_drew1) | exact HB.out)) hb); have n1_ := Aside0.mk (hbox); have n2_ := Aside0.mk ((by rw [hg]; exact (below_size (by repeat (first | (with_reducible first | exact HB.out | apply below_alloc | apply pw_below_drewN | apply below_drew1) | exact HB.out))) : w.heap.size ≤ gb109001)); have n3_ := Aside0.mk ((by rw [hg]; exact (below_size (by repeat (first | (with_reducible first | exact HB.out | apply below_alloc | apply pw_below_drewN | apply below_drew1) | exact HB.out))) : w.heap.size ≤ gb109001)); clear HB; have HB := n0_; have BK109001 := n1_; have GW109001 := n2_; have GE109001 := n3_; clear n0_ n1_ n2_ n3_; clear hb hbox hg)))
  go_loopg [8, 9, 14] k (fun kq v8 v9 v14 w' => ∃ (x8_1 : Int) (x9_1 : Int) (x14_1 : Int), v8 = .int .i64 x8_1 ∧ v9 = .int .i64 x9_1 ∧ v14 = .int .i64 x14_1 ∧ Aside0 (impl_offsets.l0 kq l2 x8_1 x9_1 l1 (l1.length : Int) x14_1 l0_0 l0_1 a0_2 = some (r1, r2)) ∧ Aside0 (kq ≤ k) ∧ Aside0 (w'.heap[gb109001]? = some (.cells #[(.slice A0_0 l0_0.length c0_0), (.slice A0_1 l0_1.length c0_1), .int .i64 a0_2] 66 (0, 0))) ∧ Aside0 (Below w.heap.size w w'))
  case atStart => exact ⟨(0), (0), (0), (by first | rfl | (simp; done) | (simp [*]; done)), (by first | rfl | (simp; done) | (simp [*]; done)), (by first | rfl | (simp; done) | (simp [*]; done)), H', ⟨Nat.le_refl _⟩, ⟨by (with_reducible repeat (first | refine blk_drewN ?_ _ | refine blk_drew ?_ | refine blk_alloc ?_ _)); exact BK109001.out⟩, ⟨by repeat (first | (with_reducible first | exact HB.out | apply below_alloc | apply pw_below_drewN | apply below_drew1 | refine below_set ?_ GE109001.out) | exact HB.out)⟩⟩
  case round =>
    clear H'
    try clear c1
    try clear c2
    try clear p2
    obtain ⟨x8_1, x9_1, x14_1, rfl, rfl, rfl, HA, HK1, BK109001, HB⟩ := hrel
    cases gk with
    | zero => exact absurd HA.out (by simp [impl_offsets.l0])
    | succ k1 =>
      have H := HA.out
      clear HA
      simp only [impl_offsets.l0] at H
      by_cases c5 : x14_1 < (l1.length : Int)
      · rw [if_pos c5] at H
        have c5b0 : decide (x14_1 < (l1.length : Int)) = true := decide_eq_true c5
        clear c5
        by_cases c6 : 0 ≤ x14_1
        · rw [if_pos c6] at H
          have c6b0 : decide (0 ≤ x14_1) = true := decide_eq_true c6
          clear c6
          by_cases c7 : x14_1 < (l1.length : Int)
          · rw [if_pos c7] at H
            have c7b0 : decide (x14_1 < (l1.length : Int)) = true := decide_eq_true c7
            clear c7
            replace H := Option.bind_eq_some_iff.mp H
            obtain ⟨t109003, A80, H⟩ := H
            replace H : (if t109003 = true then (impl_offsets.l0 k1 l2 x8_1 x9_1 l1 (l1.length : Int) (wrap64 (x14_1 + 1)) l0_0 l0_1 a0_2) else (if 0 ≤ (rd l1 x14_1) then (if (rd l1 x14_1) < (l0_1.length : Int) then (impl_offsets.l0 k1 l2 (wrap64 (x8_1 + ((rd_T126 l0_1 (rd l1 x14_1)).f2))) (wrap64 (x9_1 + ((rd_T126 l0_1 (rd l1 x14_1)).f3))) l1 (l1.length : Int) (wrap64 (x14_1 + 1)) l0_0 l0_1 a0_2) else (none)) else (none))) = some (r1, r2) := H
            have A8 := Aside0.mk A80
            clear A80
            by_cases c9 : t109003 = true
            · subst c9
              have H1 : (impl_offsets.l0 k1 l2 x8_1 x9_1 l1 (l1.length : Int) (wrap64 (x14_1 + 1)) l0_0 l0_1 a0_2) = some (r1, r2) := by rw [if_pos rfl] at H; exact H
              clear H
              have H := H1
              clear H1
              have H' := Aside0.mk H
              clear H
              have p109002 : 0 ≤ (x14_1 : Int) := of_decide_eq_true (by first | (with_reducible assumption) | assumption)
              have q109002 : x14_1 < (l1.length : Int) := of_decide_eq_true (by first | (with_reducible assumption) | assumption)
              obtain ⟨ad109002, e109002, hx109002_0⟩ := Kd.at_int HR1.out x14_1 p109002 q109002
              cases e109002
              replace hx109002_0 := (HB.out.cell (World.block_lt_of_cell? w _ hx109002_0)).trans hx109002_0
              replace p109002 := eq_true p109002
              replace q109002 := eq_true q109002
              go_wp2_with (first | (go_at_call 151; (with_reducible refine (slices_Contains_int_int.calls _ _ l2 (rd l1 x14_1) true _ ?side1 ?side2 A8.out).mono ?_); (case side1 => repeat (first | exact (Kd.C_below HR2.out HB.out) | (with_reducible refine Kd.C_alloc ?_ _) | (with_reducible refine Kd.C_drewN ?_ _) | (with_reducible refine Kd.C_drew ?_))); (case side2 => exact HC2.out); rintro e w10 ⟨rfl, hb⟩; have n0_ := Aside0.mk (blk_below (g := gb109001) (o := .cells #[.slice A0_0 l0_0.length c0_0, .slice A0_1 l0_1.length c0_1, .int .i64 a0_2] 66 (0, 0)) (by (with_reducible repeat (first | refine blk_drewN ?_ _ | refine blk_drew ?_ | refine blk_alloc ?_ _)); exact BK109001.out) hb); have n1_ := Aside0.mk (below_step (by repeat (first | (with_reducible first | exact HB.out | apply below_alloc | apply pw_below_drewN | apply below_drew1 | refine below_set ?_ GE109001.out) | exact HB.out)) hb); clear BK109001; clear HB; have BK109001 := n0_; have HB := n1_; clear n0_ n1_; (try clear hb); (try clear hb2); (try clear hk); (try clear hi)))
              repeat (go_quiet (first | (go_at_call 151; (with_reducible refine (slices_Contains_int_int.calls _ _ l2 (rd l1 x14_1) true _ ?side1 ?side2 A8.out).mono ?_); (case side1 => repeat (first | exact (Kd.C_below HR2.out HB.out) | (with_reducible refine Kd.C_alloc ?_ _) | (with_reducible refine Kd.C_drewN ?_ _) | (with_reducible refine Kd.C_drew ?_))); (case side2 => exact HC2.out); rintro e w10 ⟨rfl, hb⟩; have n0_ := Aside0.mk (blk_below (g := gb109001) (o := .cells #[.slice A0_0 l0_0.length c0_0, .slice A0_1 l0_1.length c0_1, .int .i64 a0_2] 66 (0, 0)) (by (with_reducible repeat (first | refine blk_drewN ?_ _ | refine blk_drew ?_ | refine blk_alloc ?_ _)); exact BK109001.out) hb); have n1_ := Aside0.mk (below_step (by repeat (first | (with_reducible first | exact HB.out | apply below_alloc | apply pw_below_drewN | apply below_drew1 | refine below_set ?_ GE109001.out) | exact HB.out)) hb); clear BK109001; clear HB; have BK109001 := n0_; have HB := n1_; clear n0_ n1_; (try clear hb); (try clear hb2); (try clear hk); (try clear hi))); try go_wp2_with (first | (go_at_call 151; (with_reducible refine (slices_Contains_int_int.calls _ _ l2 (rd l1 x14_1) true _ ?side1 ?side2 A8.out).mono ?_); (case side1 => repeat (first | exact (Kd.C_below HR2.out HB.out) | (with_reducible refine Kd.C_alloc ?_ _) | (with_reducible refine Kd.C_drewN ?_ _) | (with_reducible refine Kd.C_drew ?_))); (case side2 => exact HC2.out); rintro e w10 ⟨rfl, hb⟩; have n0_ := Aside0.mk (blk_below (g := gb109001) (o := .cells #[.slice A0_0 l0_0.length c0_0, .slice A0_1 l0_1.length c0_1, .int .i64 a0_2] 66 (0, 0)) (by (with_reducible repeat (first | refine blk_drewN ?_ _ | refine blk_drew ?_ | refine blk_alloc ?_ _)); exact BK109001.out) hb); have n1_ := Aside0.mk (below_step (by repeat (first | (with_reducible first | exact HB.out | apply below_alloc | apply pw_below_drewN | apply below_drew1 | refine below_set ?_ GE109001.out) | exact HB.out)) hb); clear BK109001; clear HB; have BK109001 := n0_; have HB := n1_; clear n0_ n1_; (try clear hb); (try clear hb2); (try clear hk); (try clear hi))))
              go_roundg k1
              case measure => have := HK1.out; omega
              case rel => exact ⟨(x8_1), (x9_1), (wrap64 (x14_1 + 1)), (by first | rfl | (simp; done) | (simp [*]; done)), (by first | rfl | (simp; done) | (simp [*]; done)), (by first | rfl | (simp; done) | (simp [*]; done)), H', ⟨by have := HK1.out; omega⟩, ⟨by (with_reducible repeat (first | refine blk_drewN ?_ _ | refine blk_drew ?_ | refine blk_alloc ?_ _)); exact BK109001.out⟩, ⟨by repeat (first | (with_reducible first | exact HB.out | apply below_alloc | apply pw_below_drewN | apply below_drew1 | refine below_set ?_ GE109001.out) | exact HB.out)⟩⟩
            · replace c9 := Bool.eq_false_iff.mpr c9
              subst c9
              have H1 : (if 0 ≤ (rd l1 x14_1) then (if (rd l1 x14_1) < (l0_1.length : Int) then (impl_offsets.l0 k1 l2 (wrap64 (x8_1 + ((rd_T126 l0_1 (rd l1 x14_1)).f2))) (wrap64 (x9_1 + ((rd_T126 l0_1 (rd l1 x14_1)).f3))) l1 (l1.length : Int) (wrap64 (x14_1 + 1)) l0_0 l0_1 a0_2) else (none)) else (none)) = some (r1, r2) := by rw [if_neg (show ¬ (false = true) by decide)] at H; exact H
              clear H
              have H := H1
              clear H1
              by_cases c11 : 0 ≤ (rd l1 x14_1)
              · rw [if_pos c11] at H
                have c11b0 : decide (0 ≤ (rd l1 x14_1)) = true := decide_eq_true c11
                clear c11
                by_cases c12 : (rd l1 x14_1) < (l0_1.length : Int)
                · rw [if_pos c12] at H
                  have c12b0 : decide ((rd l1 x14_1) < (l0_1.length : Int)) = true := decide_eq_true c12
                  clear c12
                  have H' := Aside0.mk H
                  clear H
                  have p109002 : 0 ≤ (x14_1 : Int) := of_decide_eq_true (by first | (with_reducible assumption) | assumption)
                  have q109002 : x14_1 < (l1.length : Int) := of_decide_eq_true (by first | (with_reducible assumption) | assumption)
                  obtain ⟨ad109002, e109002, hx109002_0⟩ := Kd.at_int HR1.out x14_1 p109002 q109002
                  cases e109002
                  replace hx109002_0 := (HB.out.cell (World.block_lt_of_cell? w _ hx109002_0)).trans hx109002_0
                  replace p109002 := eq_true p109002
                  replace q109002 := eq_true q109002
                  go_wp2_with (first | (go_at_call 151; (with_reducible refine (slices_Contains_int_int.calls _ _ l2 (rd l1 x14_1) false _ ?side1 ?side2 A8.out).mono ?_); (case side1 => repeat (first | exact (Kd.C_below HR2.out HB.out) | (with_reducible refine Kd.C_alloc ?_ _) | (with_reducible refine Kd.C_drewN ?_ _) | (with_reducible refine Kd.C_drew ?_))); (case side2 => exact HC2.out); rintro e w13 ⟨rfl, hb⟩; have n0_ := Aside0.mk (blk_below (g := gb109001) (o := .cells #[.slice A0_0 l0_0.length c0_0, .slice A0_1 l0_1.length c0_1, .int .i64 a0_2] 66 (0, 0)) (by (with_reducible repeat (first | refine blk_drewN ?_ _ | refine blk_drew ?_ | refine blk_alloc ?_ _)); exact BK109001.out) hb); have n1_ := Aside0.mk (below_step (by repeat (first | (with_reducible first | exact HB.out | apply below_alloc | apply pw_below_drewN | apply below_drew1 | refine below_set ?_ GE109001.out) | exact HB.out)) hb); clear BK109001; clear HB; have BK109001 := n0_; have HB := n1_; clear n0_ n1_; (try clear hb); (try clear hb2); (try clear hk); (try clear hi); have hcz14_0 : w13.cell? ⟨gb109001, 0, none⟩ = some (.slice A0_0 l0_0.length c0_0) := (blk_cell BK109001.out 0).trans rfl; have hcz14_1 : w13.cell? ⟨gb109001, 1, none⟩ = some (.slice A0_1 l0_1.length c0_1) := (blk_cell BK109001.out 1).trans rfl; have hcz14_2 : w13.cell? ⟨gb109001, 2, none⟩ = some (.int .i64 a0_2) := (blk_cell BK109001.out 2).trans rfl; have hfz14_0 := blk_frozen BK109001.out 0; have hfz14_1 := blk_frozen BK109001.out 1; have hfz14_2 := blk_frozen BK109001.out 2; have p109004 : 0 ≤ ((rd l1 x14_1) : Int) := of_decide_eq_true (by first | (with_reducible assumption) | assumption); have q109004 : (rd l1 x14_1) < (l0_1.length : Int) := of_decide_eq_true (by first | (with_reducible assumption) | assumption); obtain ⟨ad109004, e109004, hx109004_0, hx109004_1, hx109004_2, hx109004_3, hx109004_4⟩ := at_T126 HR0_1.out (rd l1 x14_1) p109004 q109004; cases e109004; replace hx109004_0 := (HB.out.cell (World.block_lt_of_cell? w _ hx109004_0)).trans hx109004_0; replace hx109004_1 := (HB.out.cell (World.block_lt_of_cell? w _ hx109004_1)).trans hx109004_1; replace hx109004_2 := (HB.out.cell (World.block_lt_of_cell? w _ hx109004_2)).trans hx109004_2; replace hx109004_3 := (HB.out.cell (World.block_lt_of_cell? w _ hx109004_3)).trans hx109004_3; replace hx109004_4 := (HB.out.cell (World.block_lt_of_cell? w _ hx109004_4)).trans hx109004_4; replace p109004 := eq_true p109004; replace q109004 := eq_true q109004; have p109005 : 0 ≤ ((rd l1 x14_1) : Int) := of_decide_eq_true (by first | (with_reducible assumption) | assumption); have q109005 : (rd l1 x14_1) < (l0_1.length : Int) := of_decide_eq_true (by first | (with_reducible assumption) | assumption); obtain ⟨ad109005, e109005, hx109005_0, hx109005_1, hx109005_2, hx109005_3, hx109005_4⟩ := at_T126 HR0_1.out (rd l1 x14_1) p109005 q109005; obtain rfl : ad109004 = ad109005 := (by injection e109005); replace hx109005_0 := (HB.out.cell (World.block_lt_of_cell? w _ hx109005_0)).trans hx109005_0; replace hx109005_1 := (HB.out.cell (World.block_lt_of_cell? w _ hx109005_1)).trans hx109005_1; replace hx109005_2 := (HB.out.cell (World.block_lt_of_cell? w _ hx109005_2)).trans hx109005_2; replace hx109005_3 := (HB.out.cell (World.block_lt_of_cell? w _ hx109005_3)).trans hx109005_3; replace hx109005_4 := (HB.out.cell (World.block_lt_of_cell? w _ hx109005_4)).trans hx109005_4; replace p109005 := eq_true p109005; replace q109005 := eq_true q109005))
                  repeat (go_quiet (first | (go_at_call 151; (with_reducible refine (slices_Contains_int_int.calls _ _ l2 (rd l1 x14_1) false _ ?side1 ?side2 A8.out).mono ?_); (case side1 => repeat (first | exact (Kd.C_below HR2.out HB.out) | (with_reducible refine Kd.C_alloc ?_ _) | (with_reducible refine Kd.C_drewN ?_ _) | (with_reducible refine Kd.C_drew ?_))); (case side2 => exact HC2.out); rintro e w13 ⟨rfl, hb⟩; have n0_ := Aside0.mk (blk_below (g := gb109001) (o := .cells #[.slice A0_0 l0_0.length c0_0, .slice A0_1 l0_1.length c0_1, .int .i64 a0_2] 66 (0, 0)) (by (with_reducible repeat (first | refine blk_drewN ?_ _ | refine blk_drew ?_ | refine blk_alloc ?_ _)); exact BK109001.out) hb); have n1_ := Aside0.mk (below_step (by repeat (first | (with_reducible first | exact HB.out | apply below_alloc | apply pw_below_drewN | apply below_drew1 | refine below_set ?_ GE109001.out) | exact HB.out)) hb); clear BK109001; clear HB; have BK109001 := n0_; have HB := n1_; clear n0_ n1_; (try clear hb); (try clear hb2); (try clear hk); (try clear hi); have hcz14_0 : w13.cell? ⟨gb109001, 0, none⟩ = some (.slice A0_0 l0_0.length c0_0) := (blk_cell BK109001.out 0).trans rfl; have hcz14_1 : w13.cell? ⟨gb109001, 1, none⟩ = some (.slice A0_1 l0_1.length c0_1) := (blk_cell BK109001.out 1).trans rfl; have hcz14_2 : w13.cell? ⟨gb109001, 2, none⟩ = some (.int .i64 a0_2) := (blk_cell BK109001.out 2).trans rfl; have hfz14_0 := blk_frozen BK109001.out 0; have hfz14_1 := blk_frozen BK109001.out 1; have hfz14_2 := blk_frozen BK109001.out 2; have p109004 : 0 ≤ ((rd l1 x14_1) : Int) := of_decide_eq_true (by first | (with_reducible assumption) | assumption); have q109004 : (rd l1 x14_1) < (l0_1.length : Int) := of_decide_eq_true (by first | (with_reducible assumption) | assumption); obtain ⟨ad109004, e109004, hx109004_0, hx109004_1, hx109004_2, hx109004_3, hx109004_4⟩ := at_T126 HR0_1.out (rd l1 x14_1) p109004 q109004; cases e109004; replace hx109004_0 := (HB.out.cell (World.block_lt_of_cell? w _ hx109004_0)).trans hx109004_0; replace hx109004_1 := (HB.out.cell (World.block_lt_of_cell? w _ hx109004_1)).trans hx109004_1; replace hx109004_2 := (HB.out.cell (World.block_lt_of_cell? w _ hx109004_2)).trans hx109004_2; replace hx109004_3 := (HB.out.cell (World.block_lt_of_cell? w _ hx109004_3)).trans hx109004_3; replace hx109004_4 := (HB.out.cell (World.block_lt_of_cell? w _ hx109004_4)).trans hx109004_4; replace p109004 := eq_true p109004; replace q109004 := eq_true q109004; have p109005 : 0 ≤ ((rd l1 x14_1) : Int) := of_decide_eq_true (by first | (with_reducible assumption) | assumption); have q109005 : (rd l1 x14_1) < (l0_1.length : Int) := of_decide_eq_true (by first | (with_reducible assumption) | assumption); obtain ⟨ad109005, e109005, hx109005_0, hx109005_1, hx109005_2, hx109005_3, hx109005_4⟩ := at_T126 HR0_1.out (rd l1 x14_1) p109005 q109005; obtain rfl : ad109004 = ad109005 := (by injection e109005); replace hx109005_0 := (HB.out.cell (World.block_lt_of_cell? w _ hx109005_0)).trans hx109005_0; replace hx109005_1 := (HB.out.cell (World.block_lt_of_cell? w _ hx109005_1)).trans hx109005_1; replace hx109005_2 := (HB.out.cell (World.block_lt_of_cell? w _ hx109005_2)).trans hx109005_2; replace hx109005_3 := (HB.out.cell (World.block_lt_of_cell? w _ hx109005_3)).trans hx109005_3; replace hx109005_4 := (HB.out.cell (World.block_lt_of_cell? w _ hx109005_4)).trans hx109005_4; replace p109005 := eq_true p109005; replace q109005 := eq_true q109005)); try go_wp2_with (first | (go_at_call 151; (with_reducible refine (slices_Contains_int_int.calls _ _ l2 (rd l1 x14_1) false _ ?side1 ?side2 A8.out).mono ?_); (case side1 => repeat (first | exact (Kd.C_below HR2.out HB.out) | (with_reducible refine Kd.C_alloc ?_ _) | (with_reducible refine Kd.C_drewN ?_ _) | (with_reducible refine Kd.C_drew ?_))); (case side2 => exact HC2.out); rintro e w13 ⟨rfl, hb⟩; have n0_ := Aside0.mk (blk_below (g := gb109001) (o := .cells #[.slice A0_0 l0_0.length c0_0, .slice A0_1 l0_1.length c0_1, .int .i64 a0_2] 66 (0, 0)) (by (with_reducible repeat (first | refine blk_drewN ?_ _ | refine blk_drew ?_ | refine blk_alloc ?_ _)); exact BK109001.out) hb); have n1_ := Aside0.mk (below_step (by repeat (first | (with_reducible first | exact HB.out | apply below_alloc | apply pw_below_drewN | apply below_drew1 | refine below_set ?_ GE109001.out) | exact HB.out)) hb); clear BK109001; clear HB; have BK109001 := n0_; have HB := n1_; clear n0_ n1_; (try clear hb); (try clear hb2); (try clear hk); (try clear hi); have hcz14_0 : w13.cell? ⟨gb109001, 0, none⟩ = some (.slice A0_0 l0_0.length c0_0) := (blk_cell BK109001.out 0).trans rfl; have hcz14_1 : w13.cell? ⟨gb109001, 1, none⟩ = some (.slice A0_1 l0_1.length c0_1) := (blk_cell BK109001.out 1).trans rfl; have hcz14_2 : w13.cell? ⟨gb109001, 2, none⟩ = some (.int .i64 a0_2) := (blk_cell BK109001.out 2).trans rfl; have hfz14_0 := blk_frozen BK109001.out 0; have hfz14_1 := blk_frozen BK109001.out 1; have hfz14_2 := blk_frozen BK109001.out 2; have p109004 : 0 ≤ ((rd l1 x14_1) : Int) := of_decide_eq_true (by first | (with_reducible assumption) | assumption); have q109004 : (rd l1 x14_1) < (l0_1.length : Int) := of_decide_eq_true (by first | (with_reducible assumption) | assumption); obtain ⟨ad109004, e109004, hx109004_0, hx109004_1, hx109004_2, hx109004_3, hx109004_4⟩ := at_T126 HR0_1.out (rd l1 x14_1) p109004 q109004; cases e109004; replace hx109004_0 := (HB.out.cell (World.block_lt_of_cell? w _ hx109004_0)).trans hx109004_0; replace hx109004_1 := (HB.out.cell (World.block_lt_of_cell? w _ hx109004_1)).trans hx109004_1; replace hx109004_2 := (HB.out.cell (World.block_lt_of_cell? w _ hx109004_2)).trans hx109004_2; replace hx109004_3 := (HB.out.cell (World.block_lt_of_cell? w _ hx109004_3)).trans hx109004_3; replace hx109004_4 := (HB.out.cell (World.block_lt_of_cell? w _ hx109004_4)).trans hx109004_4; replace p109004 := eq_true p109004; replace q109004 := eq_true q109004; have p109005 : 0 ≤ ((rd l1 x14_1) : Int) := of_decide_eq_true (by first | (with_reducible assumption) | assumption); have q109005 : (rd l1 x14_1) < (l0_1.length : Int) := of_decide_eq_true (by first | (with_reducible assumption) | assumption); obtain ⟨ad109005, e109005, hx109005_0, hx109005_1, hx109005_2, hx109005_3, hx109005_4⟩ := at_T126 HR0_1.out (rd l1 x14_1) p109005 q109005; obtain rfl : ad109004 = ad109005 := (by injection e109005); replace hx109005_0 := (HB.out.cell (World.block_lt_of_cell? w _ hx109005_0)).trans hx109005_0; replace hx109005_1 := (HB.out.cell (World.block_lt_of_cell? w _ hx109005_1)).trans hx109005_1; replace hx109005_2 := (HB.out.cell (World.block_lt_of_cell? w _ hx109005_2)).trans hx109005_2; replace hx109005_3 := (HB.out.cell (World.block_lt_of_cell? w _ hx109005_3)).trans hx109005_3; replace hx109005_4 := (HB.out.cell (World.block_lt_of_cell? w _ hx109005_4)).trans hx109005_4; replace p109005 := eq_true p109005; replace q109005 := eq_true q109005)))
                  go_roundg k1
                  case measure => have := HK1.out; omega
                  case rel => exact ⟨(wrap64 (x8_1 + ((rd_T126 l0_1 (rd l1 x14_1)).f2))), (wrap64 (x9_1 + ((rd_T126 l0_1 (rd l1 x14_1)).f3))), (wrap64 (x14_1 + 1)), (by first | rfl | (simp; done) | (simp [*]; done)), (by first | rfl | (simp; done) | (simp [*]; done)), (by first | rfl | (simp; done) | (simp [*]; done)), H', ⟨by have := HK1.out; omega⟩, ⟨by (with_reducible repeat (first | refine blk_drewN ?_ _ | refine blk_drew ?_ | refine blk_alloc ?_ _)); exact BK109001.out⟩, ⟨by repeat (first | (with_reducible first | exact HB.out | apply below_alloc | apply pw_below_drewN | apply below_drew1 | refine below_set ?_ GE109001.out) | exact HB.out)⟩⟩
                · rw [if_neg c12] at H
                  exact absurd H (by simp)
              · rw [if_neg c11] at H
                exact absurd H (by simp)
          · rw [if_neg c7] at H
            exact absurd H (by simp)
        · rw [if_neg c6] at H
          exact absurd H (by simp)
      · rw [if_neg c5] at H
        have c5b0 : decide (x14_1 < (l1.length : Int)) = false := decide_eq_false c5
        clear c5
        simp only [Option.some.injEq, Prod.mk.injEq] at H
        obtain ⟨rfl, rfl⟩ := H
        go_wp2
        repeat (go_quiet (fail); try go_wp2)
        go_ret2
        exact ⟨by first | rfl | (simp [errW_none, errW_some] <;> rfl) | (simp [*, errW_none, errW_some] <;> rfl), by repeat (first | (with_reducible first | exact HB.out | apply below_alloc | apply pw_below_drewN | apply below_drew1 | refine below_set ?_ GE109001.out) | exact HB.out)⟩

end Go.Proofs.Ytpoffpdaadhkgaa.Pr

namespace Go.Proofs.Ytpoffpdaadhkgaa.Pr
open Go.RowKit Go.Proofs.YtpoffpdaadhkgaaW.PrintWords Go.Proofs.YtpoffpdaadhkgaaW.PrintLast Go.Proofs.YtpoffpdaadhkgaaW.PrintMore
attribute [local go_sem] max2_int min2_int max_two min_two max_three min_three max_four min_four
set_option linter.unusedVariables false
set_option linter.unusedSimpArgs false

/-! ### impl_BaseOf: function 55 -/
def impl_BaseOf.j0 : Nat → Int → Bool → List (S120) → List (S126) → Int → Option (Int × Int × Int)
  | 0, _, _, _, _, _ => none
  | k + 1, x1, x21, x55002000, x55002001, x55002002 => if x21 = true then (some ((-1), 0, 0)) else ((impl_chainOf.f k x55002000 x55002001 x55002002 x1).bind fun bt55004 => ((impl_offsets.f k x55002000 x55002001 x55002002 bt55004.2 ([] : List Int)).bind fun bt55008 => (some (bt55004.1, bt55008.1, bt55008.2))))
def impl_BaseOf.f (k : Nat) (l0_0 : List (S120)) (l0_1 : List (S126)) (a0_2 : Int) (a1 : Int) : Option (Int × Int × Int) := (impl_ShowOk.f l0_0 l0_1 a0_2).bind fun t55002 => (if t55002 = true then ((impl_isNode.f (l0_0.length : Int) a1).bind fun t55003 => (impl_BaseOf.j0 k a1 (!t55003) l0_0 l0_1 a0_2)) else (impl_BaseOf.j0 k a1 true l0_0 l0_1 a0_2))
set_option maxHeartbeats 8000000 in
set_option maxRecDepth 100000 in
theorem impl_BaseOf.calls (k : Nat) (A0_0 : Option Addr) (c0_0 : Nat) (l0_0 : List (S120)) (A0_1 : Option Addr) (c0_1 : Nat) (l0_1 : List (S126)) (a0_2 : Int) (a1 : Int) (r1 : Int) (r2 : Int) (r3 : Int) (w : World) (hr0_0 : Kd.C k120 w A0_0 l0_0.length l0_0) (hc0_0 : l0_0.length ≤ c0_0) (hr0_1 : Kd.C k126 w A0_1 l0_1.length l0_1) (hc0_1 : l0_1.length ≤ c0_1) (h : impl_BaseOf.f k l0_0 l0_1 a0_2 a1 = some (r1, r2, r3)) :
    Calls Try.prog 55 #[.agg #[.slice A0_0 l0_0.length c0_0, .slice A0_1 l0_1.length c0_1, .int .i64 a0_2], .int .i64 a1] w fun e w' => e = .returned (.tuple #[.int .i64 r1, .int .i64 r2, .int .i64 r3]) ∧ Below w.heap.size w w' := by
  have hu66 := Try.underlying66
  have HR0_0 := Aside0.mk hr0_0
  have HC0_0 := Aside0.mk hc0_0
  clear hr0_0 hc0_0
  have HR0_1 := Aside0.mk hr0_1
  have HC0_1 := Aside0.mk hc0_1
  clear hr0_1 hc0_1
  have HB := Aside0.mk (Below.refl w.heap.size w)
  have H : ((impl_ShowOk.f l0_0 l0_1 a0_2).bind fun t55002 => (if t55002 = true then ((impl_isNode.f (l0_0.length : Int) a1).bind fun t55003 => (impl_BaseOf.j0 k a1 (!t55003) l0_0 l0_1 a0_2)) else (impl_BaseOf.j0 k a1 true l0_0 l0_1 a0_2))) = some (r1, r2, r3) := h
  clear h
  have HC3 := Aside0.mk H
  clear H
  go_enter Try.func55, Try.ntmps55
  go_upto_region 1 with (first | ((with_reducible refine gate_dst (N := 2) rfl ?_); (try (refine gate_guard (by rfl) ?_; dsimp only)); refine box_event ?hg (N := 2) ?hd (cs := #[.slice A0_0 l0_0.length c0_0, .slice A0_1 l0_1.length c0_1, .int .i64 a0_2]) (t := 66) ?hr ?_; (case hd => rfl); (case hg => rfl); (case hr => first | (go_simp; done) | (go_simp; rfl)); intro gb55001 hg w4 hbox hb; have n0_ := Aside0.mk (below_step (by repeat (first | (with_reducible first | exact HB.out | apply below_alloc | apply pw_below_drewN | apply below_drew1) | exact HB.out)) hb); have n1_ := Aside0.mk (hbox); have n2_ := Aside0.mk ((by rw [hg]; exact (below_size (by repeat (first | (with_reducible first | exact HB.out | apply below_alloc | apply pw_below_drewN | apply below_drew1) | exact HB.out))) : w.heap.size ≤ gb55001)); have n3_ := Aside0.mk ((by rw [hg]; exact (below_size (by repeat (first | (with_reducible first | exact HB.out | apply below_alloc | apply pw_below_drewN | apply below_drew1) | exact HB.out))) : w.heap.size ≤ gb55001)); clear HB; have HB := n0_; have BK55001 := n1_; have GW55001 := n2_; have GE55001 := n3_; clear n0_ n1_ n2_ n3_; clear hb hbox hg))
  (try simp only [Act.put, List.setIfInBounds_toArray, List.set_cons_zero, List.set_cons_succ])
  go_cut [21] (fun v21 wc => ∃ (kq : Nat) (x21_2 : Bool), v21 = .bool x21_2 ∧ Aside0 (impl_BaseOf.j0 kq a1 x21_2 l0_0 l0_1 a0_2 = some (r1, r2, r3)) ∧ Aside0 (kq ≤ k) ∧ Aside0 (wc.heap[gb55001]? = some (.cells #[(.slice A0_0 l0_0.length c0_0), (.slice A0_1 l0_1.length c0_1), .int .i64 a0_2] 66 (0, 0))) ∧ Aside0 (Below w.heap.size w wc))
  case first =>
    have H := HC3.out
    clear HC3
    replace H := Option.bind_eq_some_iff.mp H
    obtain ⟨t55002, A50, H⟩ := H
    replace H : (if t55002 = true then ((impl_isNode.f (l0_0.length : Int) a1).bind fun t55003 => (impl_BaseOf.j0 k a1 (!t55003) l0_0 l0_1 a0_2)) else (impl_BaseOf.j0 k a1 true l0_0 l0_1 a0_2)) = some (r1, r2, r3) := H
    have A5 := Aside0.mk A50
    clear A50
    by_cases c6 : t55002 = true
    · subst c6
      have H1 : ((impl_isNode.f (l0_0.length : Int) a1).bind fun t55003 => (impl_BaseOf.j0 k a1 (!t55003) l0_0 l0_1 a0_2)) = some (r1, r2, r3) := by rw [if_pos rfl] at H; exact H
      clear H
      have H := H1
      clear H1
      replace H := Option.bind_eq_some_iff.mp H
      obtain ⟨t55003, A70, H⟩ := H
      replace H : (impl_BaseOf.j0 k a1 (!t55003) l0_0 l0_1 a0_2) = some (r1, r2, r3) := H
      have A7 := Aside0.mk A70
      clear A70
      have H' := Aside0.mk H
      clear H
      have hcz8_0 : w4.cell? ⟨gb55001, 0, none⟩ = some (.slice A0_0 l0_0.length c0_0) := (blk_cell BK55001.out 0).trans rfl
      have hcz8_1 : w4.cell? ⟨gb55001, 1, none⟩ = some (.slice A0_1 l0_1.length c0_1) := (blk_cell BK55001.out 1).trans rfl
      have hcz8_2 : w4.cell? ⟨gb55001, 2, none⟩ = some (.int .i64 a0_2) := (blk_cell BK55001.out 2).trans rfl
      have hfz8_0 := blk_frozen BK55001.out 0
      have hfz8_1 := blk_frozen BK55001.out 1
      have hfz8_2 := blk_frozen BK55001.out 2
      go_wp2_with (first | ((with_reducible refine gate_callee (f := 44) rfl ?_); refine goesL_ (some 12) rfl rfl Try.func44 (by kernel_rfl) rfl #[.agg #[.slice A0_0 l0_0.length c0_0, .slice A0_1 l0_1.length c0_1, .int .i64 a0_2]] rfl (by (try simp only [List.map_toArray, List.map_cons, List.map_nil]); first | done | rfl | (simp only [List.length_drop, List.length_take]; rfl)) ?_; (with_reducible refine (impl_ShowOk.calls _ _ l0_0 _ _ l0_1 a0_2 true _ ?side1 ?side2 ?side3 ?side4 A5.out).mono ?_); (case side1 => repeat (first | exact (Kd.C_below HR0_0.out HB.out) | (with_reducible refine Kd.C_alloc ?_ _) | (with_reducible refine Kd.C_drewN ?_ _) | (with_reducible refine Kd.C_drew ?_))); (case side2 => exact HC0_0.out); (case side3 => repeat (first | exact (Kd.C_below HR0_1.out HB.out) | (with_reducible refine Kd.C_alloc ?_ _) | (with_reducible refine Kd.C_drewN ?_ _) | (with_reducible refine Kd.C_drew ?_))); (case side4 => exact HC0_1.out); rintro e w9 ⟨rfl, hb⟩; refine ⟨_, rfl, ?_⟩; have n0_ := Aside0.mk (blk_below (g := gb55001) (o := .cells #[.slice A0_0 l0_0.length c0_0, .slice A0_1 l0_1.length c0_1, .int .i64 a0_2] 66 (0, 0)) (by (with_reducible repeat (first | refine blk_drewN ?_ _ | refine blk_drew ?_ | refine blk_alloc ?_ _)); exact BK55001.out) hb); have n1_ := Aside0.mk (below_step (by repeat (first | (with_reducible first | exact HB.out | apply below_alloc | apply pw_below_drewN | apply below_drew1 | refine below_set ?_ GE55001.out) | exact HB.out)) hb); clear BK55001; clear HB; have BK55001 := n0_; have HB := n1_; clear n0_ n1_; (try clear hb); (try clear hb2); (try clear hk); (try clear hi); have hcz10_0 : w9.cell? ⟨gb55001, 0, none⟩ = some (.slice A0_0 l0_0.length c0_0) := (blk_cell BK55001.out 0).trans rfl; have hcz10_1 : w9.cell? ⟨gb55001, 1, none⟩ = some (.slice A0_1 l0_1.length c0_1) := (blk_cell BK55001.out 1).trans rfl; have hcz10_2 : w9.cell? ⟨gb55001, 2, none⟩ = some (.int .i64 a0_2) := (blk_cell BK55001.out 2).trans rfl; have hfz10_0 := blk_frozen BK55001.out 0; have hfz10_1 := blk_frozen BK55001.out 1; have hfz10_2 := blk_frozen BK55001.out 2) | (go_at_call 71; (with_reducible refine (impl_isNode.calls (l0_0.length : Int) a1 t55003 _ A7.out).mono ?_); rintro e w' ⟨rfl, ⟨nd, rfl⟩⟩))
      go_meet
      case rel => exact ⟨_, (!t55003), (by first | rfl | (simp; done) | (simp [*]; done)), H', ⟨by first | omega | exact Nat.le_refl _⟩, ⟨by (with_reducible repeat (first | refine blk_drewN ?_ _ | refine blk_drew ?_ | refine blk_alloc ?_ _)); exact BK55001.out⟩, ⟨by repeat (first | (with_reducible first | exact HB.out | apply below_alloc | apply pw_below_drewN | apply below_drew1 | refine below_set ?_ GE55001.out) | exact HB.out)⟩⟩
    · replace c6 := Bool.eq_false_iff.mpr c6
      subst c6
      have H1 : (impl_BaseOf.j0 k a1 true l0_0 l0_1 a0_2) = some (r1, r2, r3) := by rw [if_neg (show ¬ (false = true) by decide)] at H; exact H
      clear H
      have H := H1
      clear H1
      have H' := Aside0.mk H
      clear H
      have hcz11_0 : w4.cell? ⟨gb55001, 0, none⟩ = some (.slice A0_0 l0_0.length c0_0) := (blk_cell BK55001.out 0).trans rfl
      have hcz11_1 : w4.cell? ⟨gb55001, 1, none⟩ = some (.slice A0_1 l0_1.length c0_1) := (blk_cell BK55001.out 1).trans rfl
      have hcz11_2 : w4.cell? ⟨gb55001, 2, none⟩ = some (.int .i64 a0_2) := (blk_cell BK55001.out 2).trans rfl
      have hfz11_0 := blk_frozen BK55001.out 0
      have hfz11_1 := blk_frozen BK55001.out 1
      have hfz11_2 := blk_frozen BK55001.out 2
      go_wp2_with (first | ((with_reducible refine gate_callee (f := 44) rfl ?_); refine goesL_ (some 12) rfl rfl Try.func44 (by kernel_rfl) rfl #[.agg #[.slice A0_0 l0_0.length c0_0, .slice A0_1 l0_1.length c0_1, .int .i64 a0_2]] rfl (by (try simp only [List.map_toArray, List.map_cons, List.map_nil]); first | done | rfl | (simp only [List.length_drop, List.length_take]; rfl)) ?_; (with_reducible refine (impl_ShowOk.calls _ _ l0_0 _ _ l0_1 a0_2 false _ ?side1 ?side2 ?side3 ?side4 A5.out).mono ?_); (case side1 => repeat (first | exact (Kd.C_below HR0_0.out HB.out) | (with_reducible refine Kd.C_alloc ?_ _) | (with_reducible refine Kd.C_drewN ?_ _) | (with_reducible refine Kd.C_drew ?_))); (case side2 => exact HC0_0.out); (case side3 => repeat (first | exact (Kd.C_below HR0_1.out HB.out) | (with_reducible refine Kd.C_alloc ?_ _) | (with_reducible refine Kd.C_drewN ?_ _) | (with_reducible refine Kd.C_drew ?_))); (case side4 => exact HC0_1.out); rintro e w12 ⟨rfl, hb⟩; refine ⟨_, rfl, ?_⟩; have n0_ := Aside0.mk (blk_below (g := gb55001) (o := .cells #[.slice A0_0 l0_0.length c0_0, .slice A0_1 l0_1.length c0_1, .int .i64 a0_2] 66 (0, 0)) (by (with_reducible repeat (first | refine blk_drewN ?_ _ | refine blk_drew ?_ | refine blk_alloc ?_ _)); exact BK55001.out) hb); have n1_ := Aside0.mk (below_step (by repeat (first | (with_reducible first | exact HB.out | apply below_alloc | apply pw_below_drewN | apply below_drew1 | refine below_set ?_ GE55001.out) | exact HB.out)) hb); clear BK55001; clear HB; have BK55001 := n0_; have HB := n1_; clear n0_ n1_; (try clear hb); (try clear hb2); (try clear hk); (try clear hi)))
      go_meet
      case rel => exact ⟨_, (true), (by first | rfl | (simp; done) | (simp [*]; done)), H', ⟨by first | omega | exact Nat.le_refl _⟩, ⟨by (with_reducible repeat (first | refine blk_drewN ?_ _ | refine blk_drew ?_ | refine blk_alloc ?_ _)); exact BK55001.out⟩, ⟨by repeat (first | (with_reducible first | exact HB.out | apply below_alloc | apply pw_below_drewN | apply below_drew1 | refine below_set ?_ GE55001.out) | exact HB.out)⟩⟩
  case rest =>
    clear HC3
    try clear p2
    try clear c4
    try clear c5
    try clear c6
    try clear hcz10_0
    try clear hcz10_1
    try clear hcz10_2
    try clear hcz11_0
    try clear hcz11_1
    try clear hcz11_2
    try clear hcz8_0
    try clear hcz8_1
    try clear hcz8_2
    try clear hfz10_0
    try clear hfz10_1
    try clear hfz10_2
    try clear hfz11_0
    try clear hfz11_1
    try clear hfz11_2
    try clear hfz8_0
    try clear hfz8_1
    try clear hfz8_2
    obtain ⟨kq, x21_2, rfl, HA, HJ2, BK55001, HB⟩ := hcut
    cases kq with
    | zero => exact absurd HA.out (by simp [impl_BaseOf.j0])
    | succ kj2 =>
      have H := HA.out
      clear HA
      simp only [impl_BaseOf.j0] at H
      by_cases c13 : x21_2 = true
      · subst c13
        have H1 : (some ((-1), 0, 0)) = some (r1, r2, r3) := by rw [if_pos rfl] at H; exact H
        clear H
        have H := H1
        clear H1
        simp only [Option.some.injEq, Prod.mk.injEq] at H
        obtain ⟨rfl, rfl, rfl⟩ := H
        go_wp2
        go_ret3
        exact ⟨by first | rfl | (simp [errW_none, errW_some] <;> rfl) | (simp [*, errW_none, errW_some] <;> rfl), by repeat (first | (with_reducible first | exact HB.out | apply below_alloc | apply pw_below_drewN | apply below_drew1 | refine below_set ?_ GE55001.out) | exact HB.out)⟩
      · replace c13 := Bool.eq_false_iff.mpr c13
        subst c13
        have H1 : ((impl_chainOf.f kj2 l0_0 l0_1 a0_2 a1).bind fun bt55004 => ((impl_offsets.f kj2 l0_0 l0_1 a0_2 bt55004.2 ([] : List Int)).bind fun bt55008 => (some (bt55004.1, bt55008.1, bt55008.2)))) = some (r1, r2, r3) := by rw [if_neg (show ¬ (false = true) by decide)] at H; exact H
        clear H
        have H := H1
        clear H1
        replace H := Option.bind_eq_some_iff.mp H
        obtain ⟨⟨t55004, t55005⟩, A140, H⟩ := H
        replace H : ((impl_offsets.f kj2 l0_0 l0_1 a0_2 t55005 ([] : List Int)).bind fun bt55008 => (some (t55004, bt55008.1, bt55008.2))) = some (r1, r2, r3) := H
        have A14 := Aside0.mk A140
        clear A140
        replace H := Option.bind_eq_some_iff.mp H
        obtain ⟨⟨t55008, t55009⟩, A150, H⟩ := H
        replace H : (some (t55004, t55008, t55009)) = some (r1, r2, r3) := H
        have A15 := Aside0.mk A150
        clear A150
        simp only [Option.some.injEq, Prod.mk.injEq] at H
        obtain ⟨rfl, rfl, rfl⟩ := H
        have hcz16_0 : wc.cell? ⟨gb55001, 0, none⟩ = some (.slice A0_0 l0_0.length c0_0) := (blk_cell BK55001.out 0).trans rfl
        have hcz16_1 : wc.cell? ⟨gb55001, 1, none⟩ = some (.slice A0_1 l0_1.length c0_1) := (blk_cell BK55001.out 1).trans rfl
        have hcz16_2 : wc.cell? ⟨gb55001, 2, none⟩ = some (.int .i64 a0_2) := (blk_cell BK55001.out 2).trans rfl
        have hfz16_0 := blk_frozen BK55001.out 0
        have hfz16_1 := blk_frozen BK55001.out 1
        have hfz16_2 := blk_frozen BK55001.out 2
        go_wp2_with (first | ((with_reducible refine gate_callee (f := 108) rfl ?_); refine goesL_ (some 25) rfl rfl Try.func108 (by kernel_rfl) rfl #[.agg #[.slice A0_0 l0_0.length c0_0, .slice A0_1 l0_1.length c0_1, .int .i64 a0_2], .int .i64 a1] rfl (by (try simp only [List.map_toArray, List.map_cons, List.map_nil]); first | done | rfl | (simp only [List.length_drop, List.length_take]; rfl)) ?_; (with_reducible refine (impl_chainOf.calls kj2 _ _ l0_0 _ _ l0_1 a0_2 a1 t55004 t55005 _ ?side1 ?side2 ?side3 ?side4 A14.out).mono ?_); (case side1 => repeat (first | exact (Kd.C_below HR0_0.out HB.out) | (with_reducible refine Kd.C_alloc ?_ _) | (with_reducible refine Kd.C_drewN ?_ _) | (with_reducible refine Kd.C_drew ?_))); (case side2 => exact HC0_0.out); (case side3 => repeat (first | exact (Kd.C_below HR0_1.out HB.out) | (with_reducible refine Kd.C_alloc ?_ _) | (with_reducible refine Kd.C_drewN ?_ _) | (with_reducible refine Kd.C_drew ?_))); (case side4 => exact HC0_1.out); rintro e w17 ⟨v55006, rfl, ho0, hb⟩; refine ⟨_, rfl, ?_⟩; have n0_ := Aside0.mk (Kd.R_lower ho0 (below_size (by repeat (first | (with_reducible first | exact HB.out | apply below_alloc | apply pw_below_drewN | apply below_drew1 | refine below_set ?_ GE55001.out) | exact HB.out)))); have n1_ := Aside0.mk (blk_below (g := gb55001) (o := .cells #[.slice A0_0 l0_0.length c0_0, .slice A0_1 l0_1.length c0_1, .int .i64 a0_2] 66 (0, 0)) (by (with_reducible repeat (first | refine blk_drewN ?_ _ | refine blk_drew ?_ | refine blk_alloc ?_ _)); exact BK55001.out) hb); have n2_ := Aside0.mk (below_step (by repeat (first | (with_reducible first | exact HB.out | apply below_alloc | apply pw_below_drewN | apply below_drew1 | refine below_set ?_ GE55001.out) | exact HB.out)) hb); clear BK55001; clear HB; have HO55007 := n0_; have BK55001 := n1_; have HB := n2_; clear n0_ n1_ n2_; (try clear hb); (try clear hb2); (try clear hk); (try clear hi); (try clear ho0); have hcz18_0 : w17.cell? ⟨gb55001, 0, none⟩ = some (.slice A0_0 l0_0.length c0_0) := (blk_cell BK55001.out 0).trans rfl; have hcz18_1 : w17.cell? ⟨gb55001, 1, none⟩ = some (.slice A0_1 l0_1.length c0_1) := (blk_cell BK55001.out 1).trans rfl; have hcz18_2 : w17.cell? ⟨gb55001, 2, none⟩ = some (.int .i64 a0_2) := (blk_cell BK55001.out 2).trans rfl; have hfz18_0 := blk_frozen BK55001.out 0; have hfz18_1 := blk_frozen BK55001.out 1; have hfz18_2 := blk_frozen BK55001.out 2; obtain ⟨Ao19, co19, eo19⟩ := Kd.R_slice HO55007.out; subst eo19) | ((with_reducible refine gate_callee (f := 109) rfl ?_); refine goesL_ (some 31) rfl rfl Try.func109 (by kernel_rfl) rfl #[.agg #[.slice A0_0 l0_0.length c0_0, .slice A0_1 l0_1.length c0_1, .int .i64 a0_2], .slice Ao19 t55005.length co19, .slice none 0 0] rfl (by (try simp only [List.map_toArray, List.map_cons, List.map_nil]); first | done | rfl | (simp only [List.length_drop, List.length_take]; rfl)) ?_; (refine (impl_offsets.calls kj2 _ _ l0_0 _ _ l0_1 a0_2 _ _ t55005 _ _ ([] : List Int) t55008 t55009 _ ?side1 ?side2 ?side3 ?side4 ?side5 ?side6 ?side7 ?side8 A15.out).mono ?_); (case side1 => repeat (first | exact (Kd.C_below HR0_0.out HB.out) | (with_reducible refine Kd.C_alloc ?_ _) | (with_reducible refine Kd.C_drewN ?_ _) | (with_reducible refine Kd.C_drew ?_))); (case side2 => exact HC0_0.out); (case side3 => repeat (first | exact (Kd.C_below HR0_1.out HB.out) | (with_reducible refine Kd.C_alloc ?_ _) | (with_reducible refine Kd.C_drewN ?_ _) | (with_reducible refine Kd.C_drew ?_))); (case side4 => exact HC0_1.out); (case side5 => repeat (first | exact (Kd.R_reads' HO55007.out).2.2 | (with_reducible refine Kd.C_alloc ?_ _) | (with_reducible refine Kd.C_drewN ?_ _) | (with_reducible refine Kd.C_drew ?_))); (case side6 => exact (Kd.R_reads' HO55007.out).2.1); (case side7 => exact Kd.C_nil _ _); (case side8 => exact Nat.le_refl _); rintro e w20 ⟨rfl, hb⟩; refine ⟨_, rfl, ?_⟩; have n0_ := Aside0.mk (Kd.R_below (by (with_reducible repeat (first | apply Kd.R_alloc | apply Kd.R_drewN | apply Kd.R_drew)); exact HO55007.out) hb); have n1_ := Aside0.mk (blk_below (g := gb55001) (o := .cells #[.slice A0_0 l0_0.length c0_0, .slice A0_1 l0_1.length c0_1, .int .i64 a0_2] 66 (0, 0)) (by (with_reducible repeat (first | refine blk_drewN ?_ _ | refine blk_drew ?_ | refine blk_alloc ?_ _)); exact BK55001.out) hb); have n2_ := Aside0.mk (below_step (by repeat (first | (with_reducible first | exact HB.out | apply below_alloc | apply pw_below_drewN | apply below_drew1 | refine below_set ?_ GE55001.out) | exact HB.out)) hb); clear HO55007; clear BK55001; clear HB; have HO55007 := n0_; have BK55001 := n1_; have HB := n2_; clear n0_ n1_ n2_; (try clear hb); (try clear hb2); (try clear hk); (try clear hi)))
        go_ret3
        exact ⟨by first | rfl | (simp [errW_none, errW_some] <;> rfl) | (simp [*, errW_none, errW_some] <;> rfl), by repeat (first | (with_reducible first | exact HB.out | apply below_alloc | apply pw_below_drewN | apply below_drew1 | refine below_set ?_ GE55001.out) | exact HB.out)⟩

end Go.Proofs.Ytpoffpdaadhkgaa.Pr

namespace Go.Proofs.Ytpoffpdaadhkgaa.Pr
open Go.RowKit Go.Proofs.YtpoffpdaadhkgaaW.PrintWords Go.Proofs.Ytpoffpdaadhkgaa.Ni
theorem pig : ∀ (n : Nat) (l : List Int), l.Nodup → (∀ x ∈ l, 0 ≤ x ∧ x < n) → l.length ≤ n
  | 0, l, _, h => by
    cases l with
    | nil => exact Nat.le_refl _
    | cons x l => have := h x (by simp); omega
  | n + 1, l, hn, h => by
    have h1 := pig n (l.erase (n : Int)) (hn.sublist (List.erase_sublist ..)) (fun x hx => by
      have := (hn.mem_erase_iff).1 hx
      have h2 := h x this.2
      omega)
    rw [List.length_erase] at h1
    split at h1 <;> omega
theorem idxOf_in {α : Type} (p : α → Bool) (l : List α) (d : α) (h : 0 ≤ idxOf p l) : idxOf p l < l.length ∧ p (l.getD (idxOf p l).toNat d) = true := by
  unfold idxOf at h ⊢
  cases hf : l.findIdx? p with
  | none => rw [hf] at h; simp only at h; omega
  | some m =>
    obtain ⟨h1, h2, _⟩ := List.findIdx?_eq_some_iff_getElem.1 hf
    simp only [Int.toNat_natCast]
    refine ⟨by omega, ?_⟩
    rw [List.getD_eq_getElem?_getD, List.getElem?_eq_getElem h1]; exact h2
theorem pfree_in {ts : List PTie} {n : Int} (h : 0 ≤ pfreeI ts n) : pfreeI ts n < ts.length ∧ (rd_T126 ts (pfreeI ts n)).f4 = true ∧ (rd_T126 ts (pfreeI ts n)).f1 = n := by
  have := idxOf_in (fun t : PTie => t.f4 && decide (t.f1 = n)) ts z126 h
  refine ⟨this.1, ?_⟩
  have h2 := this.2
  simp only [Bool.and_eq_true, decide_eq_true_eq] at h2
  exact h2
theorem tiesFrom_at {ns : List PNode} {ts : List PTie} : ∀ (d i : Nat), tiesFrom ns ts i d = true → ∀ j, i ≤ j → j < i + d → ptieB ns ts j = true
  | 0, i, _, j, h1, h2 => by omega
  | d + 1, i, h, j, h1, h2 => by
    rw [tiesFrom, Bool.and_eq_true] at h
    by_cases e : j = i
    · rw [e]; exact h.1
    · exact tiesFrom_at d (i + 1) h.2 j (by omega) (by omega)
theorem areTiesB_at {ns : List PNode} {ts : List PTie} (h : areTiesB ns ts = true) : ∀ j, j < ts.length → ptieB ns ts j = true := by
  unfold areTiesB at h
  rw [Bool.and_eq_true] at h
  exact fun j hj => tiesFrom_at _ _ h.1 j (Nat.zero_le _) (by omega)
/-- A free tie of a valid show ends at a node of the show that is not the first. -/
theorem free_to {ns : List PNode} {ts : List PTie} (h : areTiesB ns ts = true) {j : Int} (h0 : 0 ≤ j) (h1 : j < ts.length) (hf : (rd_T126 ts j).f4 = true) : 1 ≤ (rd_T126 ts j).f1 ∧ (rd_T126 ts j).f1 < ns.length := by
  obtain ⟨m, rfl⟩ := Int.eq_ofNat_of_zero_le h0
  have := areTiesB_at h m (by omega)
  unfold ptieB ptieC at this
  rw [hf] at this
  simp only [nodeIn, Bool.and_eq_true, Bool.not_true, Bool.false_or, decide_eq_true_eq, Bool.not_eq_true', beq_eq_false_iff_ne] at this
  obtain ⟨⟨⟨⟨⟨⟨_, a⟩, _⟩, _⟩, _⟩, _⟩, ⟨⟨⟨⟨_, b⟩, _⟩, _⟩, _⟩⟩ := this
  omega
structure Chn (ts : List PTie) (node : Int) (c : List Int) : Prop where
  nodup : c.Nodup
  ok : ∀ j ∈ c, 0 ≤ j ∧ j < ts.length ∧ (rd_T126 ts j).f4 = true ∧ pfreeI ts (rd_T126 ts j).f1 = j
  cl : ∀ j ∈ c, (rd_T126 ts j).f0 = node ∨ ∃ i ∈ c, (rd_T126 ts j).f0 = (rd_T126 ts i).f1
theorem Chn.len {ns : List PNode} {ts : List PTie} {node : Int} {c : List Int} (ht : areTiesB ns ts = true) (h1 : 1 ≤ ns.length) (h : Chn ts node c) : c.length + 1 ≤ ns.length := by
  have := pig ns.length (0 :: c.map fun j => (rd_T126 ts j).f1) (by
    rw [List.nodup_cons]
    refine ⟨fun hm => ?_, ?_⟩
    · obtain ⟨j, hj, e⟩ := List.mem_map.1 hm
      have h2 := h.ok j hj
      have := free_to ht h2.1 h2.2.1 h2.2.2.1
      omega
    · unfold List.Nodup
      rw [List.pairwise_map]
      refine h.nodup.imp_of_mem ?_
      intro a b ha hb hab e
      apply hab
      rw [← (h.ok a ha).2.2.2, ← (h.ok b hb).2.2.2, e]) (by
    intro x hx
    rcases List.mem_cons.1 hx with rfl | hx
    · omega
    · obtain ⟨j, hj, rfl⟩ := List.mem_map.1 hx
      have h2 := h.ok j hj
      have := free_to ht h2.1 h2.2.1 h2.2.2.1
      omega)
  simpa using this
def sLo (ts : List PTie) (c : List Int) : Int := c.foldl (fun a j => wrap64 (a + (rd_T126 ts j).f2)) 0
def sHi (ts : List PTie) (c : List Int) : Int := c.foldl (fun a j => wrap64 (a + (rd_T126 ts j).f3)) 0
theorem sLo_snoc (ts : List PTie) (c : List Int) (j : Int) : sLo ts (c ++ [j]) = wrap64 (sLo ts c + (rd_T126 ts j).f2) := by unfold sLo; rw [List.foldl_append]; rfl
theorem sHi_snoc (ts : List PTie) (c : List Int) (j : Int) : sHi ts (c ++ [j]) = wrap64 (sHi ts c + (rd_T126 ts j).f3) := by unfold sHi; rw [List.foldl_append]; rfl
/-- In a closed set of nodes the reference runs out. -/
theorem base_out {ns : List PNode} {ts : List PTie} {z : Int} (hn : ns.length ≤ 1048576) (hl : ts.length ≤ 9223372036854775807) {c : List Int} (hok : ∀ j ∈ c, 0 ≤ j ∧ j < ts.length ∧ (rd_T126 ts j).f4 = true ∧ pfreeI ts (rd_T126 ts j).f1 = j)
    (hcl : ∀ j ∈ c, ∃ i ∈ c, (rd_T126 ts j).f0 = (rd_T126 ts i).f1) : ∀ (e n : Nat) (lo hi : Int) (k : Nat), (∀ j ∈ c, n + e = ns.length + 1 → 2 ^ 64 + e < k → spec_l12Base.l0 k (rd_T126 ts j).f1 lo hi (n : Int) ns ts z = some (-1, 0, 0, false)) := by
  intro e
  induction e with
  | zero =>
    intro n lo hi k j _ hne hk
    obtain ⟨m, rfl⟩ : ∃ m, k = m + 1 := ⟨k - 1, by omega⟩
    simp only [spec_l12Base.l0]
    rw [if_neg (by omega)]
  | succ e ih =>
    intro n lo hi k j hj hne hk
    obtain ⟨m, rfl⟩ : ∃ m, k = m + 1 := ⟨k - 1, by omega⟩
    simp only [spec_l12Base.l0]
    obtain ⟨h0, h1, _, h3⟩ := hok j hj
    obtain ⟨i, hi', e1⟩ := hcl j hj
    rw [if_pos (by omega), l08Free_f ns ts z _ hl m (by omega), Option.bind_some, show freeI ts (rd_T126 ts j).f1 = j from h3, if_neg (by omega), if_pos h0, if_pos h1, e1, wrap_nat (n := ns.length + 1) (by omega) (by omega)]
    exact ih (n + 1) _ _ m i hi' (by omega) (by omega)
theorem chain_run {ns : List PNode} {ts : List PTie} {z : Int} (ht : areTiesB ns ts = true) (h1 : 1 ≤ ns.length) (hn : ns.length ≤ 1048576) (hl : ts.length ≤ 1048576) : ∀ (d : Nat) (node : Int) (c : List Int) (k : Nat), Chn ts node c → ns.length ≤ c.length + d → 2 ^ 65 + d < k →
    ∃ b c', impl_chainOf.l0 k node c ns ts z = some (b, c') ∧ (∀ j ∈ c', 0 ≤ j ∧ j < ts.length) ∧ c'.length ≤ ns.length ∧
      (spec_l12Base.l0 k node (sLo ts c) (sHi ts c) c.length ns ts z = some (b, sLo ts c', sHi ts c', true) ∨ (b = -1 ∧ c' = [] ∧ spec_l12Base.l0 k node (sLo ts c) (sHi ts c) c.length ns ts z = some (-1, 0, 0, false))) := by
  intro d
  induction d with
  | zero =>
    intro node c k hc hd _
    have := hc.len ht h1
    omega
  | succ d ih =>
    intro node c k hc hd hk
    have hcl := hc.len ht h1
    obtain ⟨m, rfl⟩ : ∃ m, k = m + 1 := ⟨k - 1, by omega⟩
    simp only [impl_chainOf.l0, spec_l12Base.l0]
    rw [if_pos (by omega), l08Free_f ns ts z node (by omega) m (by omega)]
    unfold impl_freeTie.f
    rw [Option.bind_some, Option.bind_some, show freeI ts node = pfreeI ts node from rfl]
    have hin := @pfree_in ts node
    generalize hfk : pfreeI ts node = fk at hin
    by_cases h0 : fk < 0
    · rw [if_pos h0, if_pos h0]
      exact ⟨node, c, rfl, fun j hj => ⟨(hc.ok j hj).1, (hc.ok j hj).2.1⟩, by omega, .inl rfl⟩
    · obtain ⟨h2, h3, h4⟩ := hin (by omega)
      rw [if_neg h0, if_neg h0]
      unfold slices_Contains_int_int.f
      rw [Option.bind_some, if_pos (show 0 ≤ fk by omega), if_pos h2]
      by_cases hm : fk ∈ c
      · rw [if_pos (by rw [List.any_eq_true]; exact ⟨fk, hm, by simp⟩)]
        refine ⟨-1, [], rfl, fun j hj => by simp at hj, by simp, .inr ⟨rfl, rfl, ?_⟩⟩
        have hcc : ∀ j ∈ c, ∃ i ∈ c, (rd_T126 ts j).f0 = (rd_T126 ts i).f1 := fun j hj => by
          rcases hc.cl j hj with e | e
          · exact ⟨fk, hm, by rw [e, h4]⟩
          · exact e
        obtain ⟨i, hi, e1⟩ := hcc fk hm
        rw [if_pos (show 0 ≤ fk by omega), if_pos h2, e1, wrap_nat (n := ns.length) (by omega) (by omega)]
        exact base_out hn (by omega) hc.ok hcc (ns.length - c.length) (c.length + 1) _ _ m i hi (by omega) (by omega)
      · rw [if_neg (by rw [List.any_eq_true]; rintro ⟨x, hx, e⟩; exact hm (by have := of_decide_eq_true e; rw [this]; exact hx)), if_pos (by omega), if_pos (show 0 ≤ fk by omega), if_pos h2]
        have hc2 : Chn ts (rd_T126 ts fk).f0 (c ++ [fk]) := by
          refine ⟨?_, ?_, ?_⟩
          · rw [List.nodup_append]
            exact ⟨hc.nodup, by simp, fun a ha b hb => by rw [List.mem_singleton] at hb; subst hb; exact fun e => hm (e ▸ ha)⟩
          · intro j hj
            rcases List.mem_append.1 hj with hj | hj
            · exact hc.ok j hj
            · rw [List.mem_singleton] at hj
              subst hj
              exact ⟨by omega, h2, h3, by rw [h4, hfk]⟩
          · intro j hj
            rcases List.mem_append.1 hj with hj | hj
            · rcases hc.cl j hj with e | ⟨i, hi, e⟩
              · exact .inr ⟨fk, by simp, by rw [e, h4]⟩
              · exact .inr ⟨i, by simp [hi], e⟩
            · rw [List.mem_singleton] at hj
              subst hj
              exact .inl rfl
        have := ih (rd_T126 ts fk).f0 (c ++ [fk]) m hc2 (by simp; omega) (by omega)
        rw [sLo_snoc, sHi_snoc, show ((c ++ [fk]).length : Int) = wrap64 ((c.length : Int) + 1) by rw [wrap_nat (n := ns.length) (by omega) (by omega)]; simp] at this
        exact this
theorem offsets_f (ns : List PNode) (ts : List PTie) (z : Int) (c : List Int) (hc : ∀ j ∈ c, 0 ≤ j ∧ j < ts.length) (hn : c.length ≤ 1048576) (k : Nat) (hk : 2 ^ 64 ≤ k) : impl_offsets.f k ns ts z c [] = some (sLo ts c, sHi ts c) := by
  have key := loop_up c.length (fun k i => ∀ lo hi, impl_offsets.l0 k [] lo hi c c.length (i : Int) ns ts z = some ((c.drop i).foldl (fun a j => wrap64 (a + (rd_T126 ts j).f2)) lo, (c.drop i).foldl (fun a j => wrap64 (a + (rd_T126 ts j).f3)) hi)) 0
    (fun k _ lo hi => by
      simp only [impl_offsets.l0]
      rw [if_neg (by omega), List.drop_length]; rfl)
    (fun k i _ hi ih lo hg => by
      simp only [impl_offsets.l0, slices_Contains_int_int.f]
      have hm := hc _ (getD_mem hi 0)
      rw [if_pos (by omega), if_pos (by omega), if_pos (by omega), List.any_nil, Option.bind_some, if_neg (by decide), rd_nat, if_pos hm.1, if_pos hm.2, wrap_nat hi (by omega), ih, drop_cons hi 0]; rfl) 0 k (Nat.zero_le _) (by omega)
  unfold impl_offsets.f sLo sHi
  simpa using key 0 0
end Go.Proofs.Ytpoffpdaadhkgaa.Pr

namespace Go.Proofs.Ytpoffpdaadhkgaa.Pr
open Go.RowKit Go.Proofs.YtpoffpdaadhkgaaW.PrintWords Go.Proofs.Ytpoffpdaadhkgaa.Ni
theorem isNode_f (n x : Int) : impl_isNode.f n x = some (nodeIn n x) := by
  unfold impl_isNode.f nodeIn
  by_cases h : x ≥ 0
  · rw [if_pos h, decide_eq_true (show (0 : Int) ≤ x from h), Bool.true_and]
  · rw [if_neg h, decide_eq_false (show ¬ (0 : Int) ≤ x from h), Bool.false_and]
theorem areNodesB_one {ns : List PNode} (h : areNodesB ns = true) : 1 ≤ ns.length := by
  unfold areNodesB at h
  simp only [Bool.and_eq_true, decide_eq_true_eq] at h
  exact h.1.1.1.1
end Go.Proofs.Ytpoffpdaadhkgaa.Pr

namespace Go.Proofs.Ytpoffpdaadhkgaa.Pr
open Go.RowKit Go.Proofs.YtpoffpdaadhkgaaW.PrintWords Go.Proofs.Ytpoffpdaadhkgaa.Ni
theorem BaseOf_same {ns : List PNode} {ts : List PTie} {z : Int} (hc : SmallP ns ts) (n : Int) (k : Nat) (hk : 2 ^ 66 ≤ k) : ∃ r : Int × Int × Int, impl_BaseOf.f k ns ts z n = some r ∧ spec_BaseOf.f k ns ts z n = some r := by
  have hf := fitN_of hc
  have hn := hc.1
  have hl := hc.2.1
  obtain ⟨m, rfl⟩ : ∃ m, k = m + 1 := ⟨k - 1, by omega⟩
  unfold impl_BaseOf.f spec_BaseOf.f
  rw [impl_ShowOk_f hf, spec_ShowOk_f ns ts z hf _ (by omega), Option.bind_some, Option.bind_some, isNode_f, l01In_f]
  cases hs : pshowB ns ts z with
  | false => exact ⟨(-1, 0, 0), by simp [impl_BaseOf.j0], by simp [spec_BaseOf.j0]⟩
  | true =>
    have h1 := areNodesB_one (pshowB_nodes hs)
    rw [if_pos rfl, if_pos rfl, Option.bind_some, Option.bind_some, wrap_id (i := (ns.length : Int) - 1) (by omega) (by omega), in_same]
    simp only [impl_BaseOf.j0, spec_BaseOf.j0]
    cases nodeIn ns.length n with
    | false => exact ⟨(-1, 0, 0), rfl, rfl⟩
    | true =>
      simp only [Bool.not_true, Bool.false_eq_true, if_false]
      obtain ⟨b, c, hi, hin, hlen, h⟩ := chain_run (z := z) (pshowB_ties hs) h1 hn hl ns.length n [] m ⟨by simp, by simp, by simp⟩ (by simp) (by omega)
      unfold impl_chainOf.f spec_l12Base.f
      rw [hi, Option.bind_some]
      simp only []
      rw [offsets_f ns ts z c hin (by omega) m (by omega), Option.bind_some]
      rw [show sLo ts [] = 0 from rfl, show sHi ts [] = 0 from rfl, show ((([] : List Int).length : Nat) : Int) = 0 from rfl] at h
      refine ⟨(b, sLo ts c, sHi ts c), rfl, ?_⟩
      rcases h with h | ⟨rfl, rfl, h⟩
      · rw [h, Option.bind_some]; rfl
      · rw [h, Option.bind_some]; rfl
end Go.Proofs.Ytpoffpdaadhkgaa.Pr

