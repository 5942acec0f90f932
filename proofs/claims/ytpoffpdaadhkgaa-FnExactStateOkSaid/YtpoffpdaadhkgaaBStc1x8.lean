/- The texts of one claim, put together by a program of this session. -/
import Derived.Deep.LoopGhost
import Derived.Shelf.Abstract
import Derived.Test.YtpoffpdaadhkgaaBStc1x1
import Derived.Test.YtpoffpdaadhkgaaBStc1x3
import Derived.Test.YtpoffpdaadhkgaaBStc1x4
import Derived.Test.YtpoffpdaadhkgaaBStc1x5
import Derived.Test.YtpoffpdaadhkgaaBStc1x7
namespace Go.Proofs.Ytpoffpdaadhkgaa.Pr
open Go.RowKit Go.Proofs.YtpoffpdaadhkgaaW.PrintWords Go.Proofs.YtpoffpdaadhkgaaW.PrintLast Go.Proofs.YtpoffpdaadhkgaaW.PrintMore
attribute [local go_sem] max2_int min2_int max_two min_two max_three min_three max_four min_four
set_option linter.unusedVariables false
set_option linter.unusedSimpArgs false

/-! ### spec_ShowOk: function 42 -/
mutual
def spec_ShowOk.j0 : Nat → Bool → List (S120) → List (S126) → Int → Option (Bool)
  | 0, _, _, _, _ => none
  | k + 1, x18, x42002000, x42002001, x42002002 => if x18 = true then (some false) else (spec_ShowOk.l0 k (x42002001.length : Int) 0 x42002000 x42002001 x42002002)
def spec_ShowOk.l0 : Nat → Int → Int → List (S120) → List (S126) → Int → Option (Bool)
  | 0, _, _, _, _, _ => none
  | k + 1, x21, x22, x42002000, x42002001, x42002002 => if x22 < x21 then ((spec_l08Tie.f x42002000 x42002001 x42002002 x22).bind fun t42004 => (if t42004 = true then (spec_ShowOk.l0 k x21 (wrap64 (x22 + 1)) x42002000 x42002001 x42002002) else (some false))) else (some true)
end
def spec_ShowOk.f (k : Nat) (l0_0 : List (S120)) (l0_1 : List (S126)) (a0_2 : Int) : Option (Bool) := (spec_l08Nodes.f l0_0 l0_1 a0_2).bind fun t42002 => (if t42002 = true then (if (l0_1.length : Int) > 14 then (spec_ShowOk.j0 k true l0_0 l0_1 a0_2) else ((spec_l01In.f a0_2 1 10).bind fun t42003 => (spec_ShowOk.j0 k (!t42003) l0_0 l0_1 a0_2))) else (spec_ShowOk.j0 k true l0_0 l0_1 a0_2))
set_option maxHeartbeats 8000000 in
set_option maxRecDepth 100000 in
theorem spec_ShowOk.calls (k : Nat) (A0_0 : Option Addr) (c0_0 : Nat) (l0_0 : List (S120)) (A0_1 : Option Addr) (c0_1 : Nat) (l0_1 : List (S126)) (a0_2 : Int) (r : Bool) (w : World) (hr0_0 : Kd.C k120 w A0_0 l0_0.length l0_0) (hc0_0 : l0_0.length ≤ c0_0) (hr0_1 : Kd.C k126 w A0_1 l0_1.length l0_1) (hc0_1 : l0_1.length ≤ c0_1) (h : spec_ShowOk.f k l0_0 l0_1 a0_2 = some r) :
    Calls Try.prog 42 #[.agg #[.slice A0_0 l0_0.length c0_0, .slice A0_1 l0_1.length c0_1, .int .i64 a0_2]] w fun e w' => e = .returned (.bool r) ∧ Below w.heap.size w w' := by
  have hu66 := Try.underlying66
  have HR0_0 := Aside0.mk hr0_0
  have HC0_0 := Aside0.mk hc0_0
  clear hr0_0 hc0_0
  have HR0_1 := Aside0.mk hr0_1
  have HC0_1 := Aside0.mk hc0_1
  clear hr0_1 hc0_1
  have HB := Aside0.mk (Below.refl w.heap.size w)
  have H : ((spec_l08Nodes.f l0_0 l0_1 a0_2).bind fun t42002 => (if t42002 = true then (if (l0_1.length : Int) > 14 then (spec_ShowOk.j0 k true l0_0 l0_1 a0_2) else ((spec_l01In.f a0_2 1 10).bind fun t42003 => (spec_ShowOk.j0 k (!t42003) l0_0 l0_1 a0_2))) else (spec_ShowOk.j0 k true l0_0 l0_1 a0_2))) = some r := h
  clear h
  have HC2 := Aside0.mk H
  clear H
  go_enter Try.func42, Try.ntmps42
  go_upto_region 1 with (first | ((with_reducible refine gate_dst (N := 1) rfl ?_); (try (refine gate_guard (by rfl) ?_; dsimp only)); refine box_event ?hg (N := 1) ?hd (cs := #[.slice A0_0 l0_0.length c0_0, .slice A0_1 l0_1.length c0_1, .int .i64 a0_2]) (t := 66) ?hr ?_; (case hd => rfl); (case hg => rfl); (case hr => first | (go_simp; done) | (go_simp; rfl)); intro gb42001 hg w3 hbox hb; have n0_ := Aside0.mk (below_step (by repeat (first | (with_reducible first | exact HB.out | apply below_alloc | apply pw_below_drewN | apply below_drew1) | exact HB.out)) hb); have n1_ := Aside0.mk (hbox); have n2_ := Aside0.mk ((by rw [hg]; exact (below_size (by repeat (first | (with_reducible first | exact HB.out | apply below_alloc | apply pw_below_drewN | apply below_drew1) | exact HB.out))) : w.heap.size ≤ gb42001)); have n3_ := Aside0.mk ((by rw [hg]; exact (below_size (by repeat (first | (with_reducible first | exact HB.out | apply below_alloc | apply pw_below_drewN | apply below_drew1) | exact HB.out))) : w.heap.size ≤ gb42001)); clear HB; have HB := n0_; have BK42001 := n1_; have GW42001 := n2_; have GE42001 := n3_; clear n0_ n1_ n2_ n3_; clear hb hbox hg))
  (try simp only [Act.put, List.setIfInBounds_toArray, List.set_cons_zero, List.set_cons_succ])
  go_cut [18] (fun v18 wc => ∃ (kq : Nat) (x18_1 : Bool), v18 = .bool x18_1 ∧ Aside0 (spec_ShowOk.j0 kq x18_1 l0_0 l0_1 a0_2 = some r) ∧ Aside0 (kq ≤ k) ∧ Aside0 (wc.heap[gb42001]? = some (.cells #[(.slice A0_0 l0_0.length c0_0), (.slice A0_1 l0_1.length c0_1), .int .i64 a0_2] 66 (0, 0))) ∧ Aside0 (Below w.heap.size w wc))
  case first =>
    have H := HC2.out
    clear HC2
    replace H := Option.bind_eq_some_iff.mp H
    obtain ⟨t42002, A40, H⟩ := H
    replace H : (if t42002 = true then (if (l0_1.length : Int) > 14 then (spec_ShowOk.j0 k true l0_0 l0_1 a0_2) else ((spec_l01In.f a0_2 1 10).bind fun t42003 => (spec_ShowOk.j0 k (!t42003) l0_0 l0_1 a0_2))) else (spec_ShowOk.j0 k true l0_0 l0_1 a0_2)) = some r := H
    have A4 := Aside0.mk A40
    clear A40
    by_cases c5 : t42002 = true
    · subst c5
      have H1 : (if (l0_1.length : Int) > 14 then (spec_ShowOk.j0 k true l0_0 l0_1 a0_2) else ((spec_l01In.f a0_2 1 10).bind fun t42003 => (spec_ShowOk.j0 k (!t42003) l0_0 l0_1 a0_2))) = some r := by rw [if_pos rfl] at H; exact H
      clear H
      have H := H1
      clear H1
      by_cases c6 : (l0_1.length : Int) > 14
      · rw [if_pos c6] at H
        have c6b0 : decide (14 < (l0_1.length : Int)) = true := decide_eq_true c6
        have c6b1 : decide (14 < l0_1.length) = true := decide_eq_true (by omega)
        clear c6
        (first | rw [c6b0] | (simp only [i64_w, i32_w]; rw [c6b0]) | skip)
        have H' := Aside0.mk H
        clear H
        have hcz7_0 : w3.cell? ⟨gb42001, 0, none⟩ = some (.slice A0_0 l0_0.length c0_0) := (blk_cell BK42001.out 0).trans rfl
        have hcz7_1 : w3.cell? ⟨gb42001, 1, none⟩ = some (.slice A0_1 l0_1.length c0_1) := (blk_cell BK42001.out 1).trans rfl
        have hcz7_2 : w3.cell? ⟨gb42001, 2, none⟩ = some (.int .i64 a0_2) := (blk_cell BK42001.out 2).trans rfl
        have hfz7_0 := blk_frozen BK42001.out 0
        have hfz7_1 := blk_frozen BK42001.out 1
        have hfz7_2 := blk_frozen BK42001.out 2
        go_wp2_with (first | ((with_reducible refine gate_callee (f := 91) rfl ?_); refine goesL_ (some 5) rfl rfl Try.func91 (by kernel_rfl) rfl #[.agg #[.slice A0_0 l0_0.length c0_0, .slice A0_1 l0_1.length c0_1, .int .i64 a0_2]] rfl (by (try simp only [List.map_toArray, List.map_cons, List.map_nil]); first | done | rfl | (simp only [List.length_drop, List.length_take]; rfl)) ?_; (with_reducible refine (spec_l08Nodes.calls _ _ l0_0 _ _ l0_1 a0_2 true _ ?side1 ?side2 ?side3 ?side4 A4.out).mono ?_); (case side1 => repeat (first | exact (Kd.C_below HR0_0.out HB.out) | (with_reducible refine Kd.C_alloc ?_ _) | (with_reducible refine Kd.C_drewN ?_ _) | (with_reducible refine Kd.C_drew ?_))); (case side2 => exact HC0_0.out); (case side3 => repeat (first | exact (Kd.C_below HR0_1.out HB.out) | (with_reducible refine Kd.C_alloc ?_ _) | (with_reducible refine Kd.C_drewN ?_ _) | (with_reducible refine Kd.C_drew ?_))); (case side4 => exact HC0_1.out); rintro e w8 ⟨rfl, hb⟩; refine ⟨_, rfl, ?_⟩; have n0_ := Aside0.mk (blk_below (g := gb42001) (o := .cells #[.slice A0_0 l0_0.length c0_0, .slice A0_1 l0_1.length c0_1, .int .i64 a0_2] 66 (0, 0)) (by (with_reducible repeat (first | refine blk_drewN ?_ _ | refine blk_drew ?_ | refine blk_alloc ?_ _)); exact BK42001.out) hb); have n1_ := Aside0.mk (below_step (by repeat (first | (with_reducible first | exact HB.out | apply below_alloc | apply pw_below_drewN | apply below_drew1 | refine below_set ?_ GE42001.out) | exact HB.out)) hb); clear BK42001; clear HB; have BK42001 := n0_; have HB := n1_; clear n0_ n1_; (try clear hb); (try clear hb2); (try clear hk); (try clear hi); have hcz9_0 : w8.cell? ⟨gb42001, 0, none⟩ = some (.slice A0_0 l0_0.length c0_0) := (blk_cell BK42001.out 0).trans rfl; have hcz9_1 : w8.cell? ⟨gb42001, 1, none⟩ = some (.slice A0_1 l0_1.length c0_1) := (blk_cell BK42001.out 1).trans rfl; have hcz9_2 : w8.cell? ⟨gb42001, 2, none⟩ = some (.int .i64 a0_2) := (blk_cell BK42001.out 2).trans rfl; have hfz9_0 := blk_frozen BK42001.out 0; have hfz9_1 := blk_frozen BK42001.out 1; have hfz9_2 := blk_frozen BK42001.out 2))
        go_meet
        case rel => exact ⟨_, (true), (by first | rfl | (simp; done) | (simp [*]; done)), H', ⟨by first | omega | exact Nat.le_refl _⟩, ⟨by (with_reducible repeat (first | refine blk_drewN ?_ _ | refine blk_drew ?_ | refine blk_alloc ?_ _)); exact BK42001.out⟩, ⟨by repeat (first | (with_reducible first | exact HB.out | apply below_alloc | apply pw_below_drewN | apply below_drew1 | refine below_set ?_ GE42001.out) | exact HB.out)⟩⟩
      · rw [if_neg c6] at H
        have c6b0 : decide (14 < (l0_1.length : Int)) = false := decide_eq_false c6
        have c6b1 : decide (14 < l0_1.length) = false := decide_eq_false (by omega)
        clear c6
        (first | rw [c6b0] | (simp only [i64_w, i32_w]; rw [c6b0]) | skip)
        replace H := Option.bind_eq_some_iff.mp H
        obtain ⟨t42003, A100, H⟩ := H
        replace H : (spec_ShowOk.j0 k (!t42003) l0_0 l0_1 a0_2) = some r := H
        have A10 := Aside0.mk A100
        clear A100
        have H' := Aside0.mk H
        clear H
        have hcz11_0 : w3.cell? ⟨gb42001, 0, none⟩ = some (.slice A0_0 l0_0.length c0_0) := (blk_cell BK42001.out 0).trans rfl
        have hcz11_1 : w3.cell? ⟨gb42001, 1, none⟩ = some (.slice A0_1 l0_1.length c0_1) := (blk_cell BK42001.out 1).trans rfl
        have hcz11_2 : w3.cell? ⟨gb42001, 2, none⟩ = some (.int .i64 a0_2) := (blk_cell BK42001.out 2).trans rfl
        have hfz11_0 := blk_frozen BK42001.out 0
        have hfz11_1 := blk_frozen BK42001.out 1
        have hfz11_2 := blk_frozen BK42001.out 2
        go_wp2_with (first | ((with_reducible refine gate_callee (f := 91) rfl ?_); refine goesL_ (some 5) rfl rfl Try.func91 (by kernel_rfl) rfl #[.agg #[.slice A0_0 l0_0.length c0_0, .slice A0_1 l0_1.length c0_1, .int .i64 a0_2]] rfl (by (try simp only [List.map_toArray, List.map_cons, List.map_nil]); first | done | rfl | (simp only [List.length_drop, List.length_take]; rfl)) ?_; (with_reducible refine (spec_l08Nodes.calls _ _ l0_0 _ _ l0_1 a0_2 true _ ?side1 ?side2 ?side3 ?side4 A4.out).mono ?_); (case side1 => repeat (first | exact (Kd.C_below HR0_0.out HB.out) | (with_reducible refine Kd.C_alloc ?_ _) | (with_reducible refine Kd.C_drewN ?_ _) | (with_reducible refine Kd.C_drew ?_))); (case side2 => exact HC0_0.out); (case side3 => repeat (first | exact (Kd.C_below HR0_1.out HB.out) | (with_reducible refine Kd.C_alloc ?_ _) | (with_reducible refine Kd.C_drewN ?_ _) | (with_reducible refine Kd.C_drew ?_))); (case side4 => exact HC0_1.out); rintro e w12 ⟨rfl, hb⟩; refine ⟨_, rfl, ?_⟩; have n0_ := Aside0.mk (blk_below (g := gb42001) (o := .cells #[.slice A0_0 l0_0.length c0_0, .slice A0_1 l0_1.length c0_1, .int .i64 a0_2] 66 (0, 0)) (by (with_reducible repeat (first | refine blk_drewN ?_ _ | refine blk_drew ?_ | refine blk_alloc ?_ _)); exact BK42001.out) hb); have n1_ := Aside0.mk (below_step (by repeat (first | (with_reducible first | exact HB.out | apply below_alloc | apply pw_below_drewN | apply below_drew1 | refine below_set ?_ GE42001.out) | exact HB.out)) hb); clear BK42001; clear HB; have BK42001 := n0_; have HB := n1_; clear n0_ n1_; (try clear hb); (try clear hb2); (try clear hk); (try clear hi); have hcz13_0 : w12.cell? ⟨gb42001, 0, none⟩ = some (.slice A0_0 l0_0.length c0_0) := (blk_cell BK42001.out 0).trans rfl; have hcz13_1 : w12.cell? ⟨gb42001, 1, none⟩ = some (.slice A0_1 l0_1.length c0_1) := (blk_cell BK42001.out 1).trans rfl; have hcz13_2 : w12.cell? ⟨gb42001, 2, none⟩ = some (.int .i64 a0_2) := (blk_cell BK42001.out 2).trans rfl; have hfz13_0 := blk_frozen BK42001.out 0; have hfz13_1 := blk_frozen BK42001.out 1; have hfz13_2 := blk_frozen BK42001.out 2) | (go_at_call 87; (with_reducible refine (spec_l01In.calls a0_2 1 10 t42003 _ A10.out).mono ?_); rintro e w' ⟨rfl, ⟨nd, rfl⟩⟩))
        go_meet
        case rel => exact ⟨_, (!t42003), (by first | rfl | (simp; done) | (simp [*]; done)), H', ⟨by first | omega | exact Nat.le_refl _⟩, ⟨by (with_reducible repeat (first | refine blk_drewN ?_ _ | refine blk_drew ?_ | refine blk_alloc ?_ _)); exact BK42001.out⟩, ⟨by repeat (first | (with_reducible first | exact HB.out | apply below_alloc | apply pw_below_drewN | apply below_drew1 | refine below_set ?_ GE42001.out) | exact HB.out)⟩⟩
    · replace c5 := Bool.eq_false_iff.mpr c5
      subst c5
      have H1 : (spec_ShowOk.j0 k true l0_0 l0_1 a0_2) = some r := by rw [if_neg (show ¬ (false = true) by decide)] at H; exact H
      clear H
      have H := H1
      clear H1
      have H' := Aside0.mk H
      clear H
      have hcz14_0 : w3.cell? ⟨gb42001, 0, none⟩ = some (.slice A0_0 l0_0.length c0_0) := (blk_cell BK42001.out 0).trans rfl
      have hcz14_1 : w3.cell? ⟨gb42001, 1, none⟩ = some (.slice A0_1 l0_1.length c0_1) := (blk_cell BK42001.out 1).trans rfl
      have hcz14_2 : w3.cell? ⟨gb42001, 2, none⟩ = some (.int .i64 a0_2) := (blk_cell BK42001.out 2).trans rfl
      have hfz14_0 := blk_frozen BK42001.out 0
      have hfz14_1 := blk_frozen BK42001.out 1
      have hfz14_2 := blk_frozen BK42001.out 2
      go_wp2_with (first | ((with_reducible refine gate_callee (f := 91) rfl ?_); refine goesL_ (some 5) rfl rfl Try.func91 (by kernel_rfl) rfl #[.agg #[.slice A0_0 l0_0.length c0_0, .slice A0_1 l0_1.length c0_1, .int .i64 a0_2]] rfl (by (try simp only [List.map_toArray, List.map_cons, List.map_nil]); first | done | rfl | (simp only [List.length_drop, List.length_take]; rfl)) ?_; (with_reducible refine (spec_l08Nodes.calls _ _ l0_0 _ _ l0_1 a0_2 false _ ?side1 ?side2 ?side3 ?side4 A4.out).mono ?_); (case side1 => repeat (first | exact (Kd.C_below HR0_0.out HB.out) | (with_reducible refine Kd.C_alloc ?_ _) | (with_reducible refine Kd.C_drewN ?_ _) | (with_reducible refine Kd.C_drew ?_))); (case side2 => exact HC0_0.out); (case side3 => repeat (first | exact (Kd.C_below HR0_1.out HB.out) | (with_reducible refine Kd.C_alloc ?_ _) | (with_reducible refine Kd.C_drewN ?_ _) | (with_reducible refine Kd.C_drew ?_))); (case side4 => exact HC0_1.out); rintro e w15 ⟨rfl, hb⟩; refine ⟨_, rfl, ?_⟩; have n0_ := Aside0.mk (blk_below (g := gb42001) (o := .cells #[.slice A0_0 l0_0.length c0_0, .slice A0_1 l0_1.length c0_1, .int .i64 a0_2] 66 (0, 0)) (by (with_reducible repeat (first | refine blk_drewN ?_ _ | refine blk_drew ?_ | refine blk_alloc ?_ _)); exact BK42001.out) hb); have n1_ := Aside0.mk (below_step (by repeat (first | (with_reducible first | exact HB.out | apply below_alloc | apply pw_below_drewN | apply below_drew1 | refine below_set ?_ GE42001.out) | exact HB.out)) hb); clear BK42001; clear HB; have BK42001 := n0_; have HB := n1_; clear n0_ n1_; (try clear hb); (try clear hb2); (try clear hk); (try clear hi)))
      go_meet
      case rel => exact ⟨_, (true), (by first | rfl | (simp; done) | (simp [*]; done)), H', ⟨by first | omega | exact Nat.le_refl _⟩, ⟨by (with_reducible repeat (first | refine blk_drewN ?_ _ | refine blk_drew ?_ | refine blk_alloc ?_ _)); exact BK42001.out⟩, ⟨by repeat (first | (with_reducible first | exact HB.out | apply below_alloc | apply pw_below_drewN | apply below_drew1 | refine below_set ?_ GE42001.out) | exact HB.out)⟩⟩
  case rest =>
    clear HC2
    try clear p2
    try clear c4
    try clear c5
    try clear c6
    try clear c6b0
    try clear c6b1
    try clear c9
    try clear hcz11_0
    try clear hcz11_1
    try clear hcz11_2
    try clear hcz13_0
    try clear hcz13_1
    try clear hcz13_2
    try clear hcz14_0
    try clear hcz14_1
    try clear hcz14_2
    try clear hcz7_0
    try clear hcz7_1
    try clear hcz7_2
    try clear hcz9_0
    try clear hcz9_1
    try clear hcz9_2
    try clear hfz11_0
    try clear hfz11_1
    try clear hfz11_2
    try clear hfz13_0
    try clear hfz13_1
    try clear hfz13_2
    try clear hfz14_0
    try clear hfz14_1
    try clear hfz14_2
    try clear hfz7_0
    try clear hfz7_1
    try clear hfz7_2
    try clear hfz9_0
    try clear hfz9_1
    try clear hfz9_2
    obtain ⟨kq, x18_1, rfl, HA, HJ1, BK42001, HB⟩ := hcut
    cases kq with
    | zero => exact absurd HA.out (by simp [spec_ShowOk.j0])
    | succ kj1 =>
      have H := HA.out
      clear HA
      simp only [spec_ShowOk.j0] at H
      by_cases c16 : x18_1 = true
      · subst c16
        have H1 : (some false) = some r := by rw [if_pos rfl] at H; exact H
        clear H
        have H := H1
        clear H1
        obtain rfl := Option.some.inj H
        go_wp2
        go_ret
        exact ⟨by first | rfl | (simp [errW_none, errW_some] <;> rfl) | (simp [*, errW_none, errW_some] <;> rfl), by repeat (first | (with_reducible first | exact HB.out | apply below_alloc | apply pw_below_drewN | apply below_drew1 | refine below_set ?_ GE42001.out) | exact HB.out)⟩
      · replace c16 := Bool.eq_false_iff.mpr c16
        subst c16
        have H1 : (spec_ShowOk.l0 kj1 (l0_1.length : Int) 0 l0_0 l0_1 a0_2) = some r := by rw [if_neg (show ¬ (false = true) by decide)] at H; exact H
        clear H
        have H := H1
        clear H1
        have H' := Aside0.mk H
        clear H
        have hcz17_0 : wc.cell? ⟨gb42001, 0, none⟩ = some (.slice A0_0 l0_0.length c0_0) := (blk_cell BK42001.out 0).trans rfl
        have hcz17_1 : wc.cell? ⟨gb42001, 1, none⟩ = some (.slice A0_1 l0_1.length c0_1) := (blk_cell BK42001.out 1).trans rfl
        have hcz17_2 : wc.cell? ⟨gb42001, 2, none⟩ = some (.int .i64 a0_2) := (blk_cell BK42001.out 2).trans rfl
        have hfz17_0 := blk_frozen BK42001.out 0
        have hfz17_1 := blk_frozen BK42001.out 1
        have hfz17_2 := blk_frozen BK42001.out 2
        go_wp2
        go_loopg [22] kj1 (fun kq v22 w' => ∃ (x22_2 : Int), v22 = .int .i64 x22_2 ∧ Aside0 (spec_ShowOk.l0 kq (l0_1.length : Int) x22_2 l0_0 l0_1 a0_2 = some r) ∧ Aside0 (kq ≤ kj1) ∧ Aside0 (w'.heap[gb42001]? = some (.cells #[(.slice A0_0 l0_0.length c0_0), (.slice A0_1 l0_1.length c0_1), .int .i64 a0_2] 66 (0, 0))) ∧ Aside0 (Below w.heap.size w w'))
        case atStart => exact ⟨(0), (by first | rfl | (simp; done) | (simp [*]; done)), H', ⟨Nat.le_refl _⟩, ⟨by (with_reducible repeat (first | refine blk_drewN ?_ _ | refine blk_drew ?_ | refine blk_alloc ?_ _)); exact BK42001.out⟩, ⟨by repeat (first | (with_reducible first | exact HB.out | apply below_alloc | apply pw_below_drewN | apply below_drew1 | refine below_set ?_ GE42001.out) | exact HB.out)⟩⟩
        case round =>
          clear H'
          try clear c1
          try clear p2
          try clear c4
          try clear c5
          try clear c6
          try clear c6b0
          try clear c6b1
          try clear c9
          try clear c16
          try clear hcz11_0
          try clear hcz11_1
          try clear hcz11_2
          try clear hcz13_0
          try clear hcz13_1
          try clear hcz13_2
          try clear hcz14_0
          try clear hcz14_1
          try clear hcz14_2
          try clear hcz17_0
          try clear hcz17_1
          try clear hcz17_2
          try clear hcz7_0
          try clear hcz7_1
          try clear hcz7_2
          try clear hcz9_0
          try clear hcz9_1
          try clear hcz9_2
          try clear hfz11_0
          try clear hfz11_1
          try clear hfz11_2
          try clear hfz13_0
          try clear hfz13_1
          try clear hfz13_2
          try clear hfz14_0
          try clear hfz14_1
          try clear hfz14_2
          try clear hfz17_0
          try clear hfz17_1
          try clear hfz17_2
          try clear hfz7_0
          try clear hfz7_1
          try clear hfz7_2
          try clear hfz9_0
          try clear hfz9_1
          try clear hfz9_2
          try clear p2
          obtain ⟨x22_2, rfl, HA, HK2, BK42001, HB⟩ := hrel
          cases gk with
          | zero => exact absurd HA.out (by simp [spec_ShowOk.l0])
          | succ k2 =>
            have H := HA.out
            clear HA
            simp only [spec_ShowOk.l0] at H
            by_cases c18 : x22_2 < (l0_1.length : Int)
            · rw [if_pos c18] at H
              have c18b0 : decide (x22_2 < (l0_1.length : Int)) = true := decide_eq_true c18
              clear c18
              replace H := Option.bind_eq_some_iff.mp H
              obtain ⟨t42004, A190, H⟩ := H
              replace H : (if t42004 = true then (spec_ShowOk.l0 k2 (l0_1.length : Int) (wrap64 (x22_2 + 1)) l0_0 l0_1 a0_2) else (some false)) = some r := H
              have A19 := Aside0.mk A190
              clear A190
              by_cases c20 : t42004 = true
              · subst c20
                have H1 : (spec_ShowOk.l0 k2 (l0_1.length : Int) (wrap64 (x22_2 + 1)) l0_0 l0_1 a0_2) = some r := by rw [if_pos rfl] at H; exact H
                clear H
                have H := H1
                clear H1
                have H' := Aside0.mk H
                clear H
                have hcz21_0 : wr.cell? ⟨gb42001, 0, none⟩ = some (.slice A0_0 l0_0.length c0_0) := (blk_cell BK42001.out 0).trans rfl
                have hcz21_1 : wr.cell? ⟨gb42001, 1, none⟩ = some (.slice A0_1 l0_1.length c0_1) := (blk_cell BK42001.out 1).trans rfl
                have hcz21_2 : wr.cell? ⟨gb42001, 2, none⟩ = some (.int .i64 a0_2) := (blk_cell BK42001.out 2).trans rfl
                have hfz21_0 := blk_frozen BK42001.out 0
                have hfz21_1 := blk_frozen BK42001.out 1
                have hfz21_2 := blk_frozen BK42001.out 2
                go_wp2_with (first | ((with_reducible refine gate_callee (f := 92) rfl ?_); refine goesL_ (some 27) rfl rfl Try.func92 (by kernel_rfl) rfl #[.agg #[.slice A0_0 l0_0.length c0_0, .slice A0_1 l0_1.length c0_1, .int .i64 a0_2], .int .i64 x22_2] rfl (by (try simp only [List.map_toArray, List.map_cons, List.map_nil]); first | done | rfl | (simp only [List.length_drop, List.length_take]; rfl)) ?_; (with_reducible refine (spec_l08Tie.calls _ _ l0_0 _ _ l0_1 a0_2 x22_2 true _ ?side1 ?side2 ?side3 ?side4 A19.out).mono ?_); (case side1 => repeat (first | exact (Kd.C_below HR0_0.out HB.out) | (with_reducible refine Kd.C_alloc ?_ _) | (with_reducible refine Kd.C_drewN ?_ _) | (with_reducible refine Kd.C_drew ?_))); (case side2 => exact HC0_0.out); (case side3 => repeat (first | exact (Kd.C_below HR0_1.out HB.out) | (with_reducible refine Kd.C_alloc ?_ _) | (with_reducible refine Kd.C_drewN ?_ _) | (with_reducible refine Kd.C_drew ?_))); (case side4 => exact HC0_1.out); rintro e w22 ⟨rfl, hb⟩; refine ⟨_, rfl, ?_⟩; have n0_ := Aside0.mk (blk_below (g := gb42001) (o := .cells #[.slice A0_0 l0_0.length c0_0, .slice A0_1 l0_1.length c0_1, .int .i64 a0_2] 66 (0, 0)) (by (with_reducible repeat (first | refine blk_drewN ?_ _ | refine blk_drew ?_ | refine blk_alloc ?_ _)); exact BK42001.out) hb); have n1_ := Aside0.mk (below_step (by repeat (first | (with_reducible first | exact HB.out | apply below_alloc | apply pw_below_drewN | apply below_drew1 | refine below_set ?_ GE42001.out) | exact HB.out)) hb); clear BK42001; clear HB; have BK42001 := n0_; have HB := n1_; clear n0_ n1_; (try clear hb); (try clear hb2); (try clear hk); (try clear hi)))
                go_roundg k2
                case measure => have := HJ1.out; have := HK2.out; omega
                case rel => exact ⟨(wrap64 (x22_2 + 1)), (by first | rfl | (simp; done) | (simp [*]; done)), H', ⟨by have := HJ1.out; have := HK2.out; omega⟩, ⟨by (with_reducible repeat (first | refine blk_drewN ?_ _ | refine blk_drew ?_ | refine blk_alloc ?_ _)); exact BK42001.out⟩, ⟨by repeat (first | (with_reducible first | exact HB.out | apply below_alloc | apply pw_below_drewN | apply below_drew1 | refine below_set ?_ GE42001.out) | exact HB.out)⟩⟩
              · replace c20 := Bool.eq_false_iff.mpr c20
                subst c20
                have H1 : (some false) = some r := by rw [if_neg (show ¬ (false = true) by decide)] at H; exact H
                clear H
                have H := H1
                clear H1
                obtain rfl := Option.some.inj H
                have hcz23_0 : wr.cell? ⟨gb42001, 0, none⟩ = some (.slice A0_0 l0_0.length c0_0) := (blk_cell BK42001.out 0).trans rfl
                have hcz23_1 : wr.cell? ⟨gb42001, 1, none⟩ = some (.slice A0_1 l0_1.length c0_1) := (blk_cell BK42001.out 1).trans rfl
                have hcz23_2 : wr.cell? ⟨gb42001, 2, none⟩ = some (.int .i64 a0_2) := (blk_cell BK42001.out 2).trans rfl
                have hfz23_0 := blk_frozen BK42001.out 0
                have hfz23_1 := blk_frozen BK42001.out 1
                have hfz23_2 := blk_frozen BK42001.out 2
                go_wp2_with (first | ((with_reducible refine gate_callee (f := 92) rfl ?_); refine goesL_ (some 27) rfl rfl Try.func92 (by kernel_rfl) rfl #[.agg #[.slice A0_0 l0_0.length c0_0, .slice A0_1 l0_1.length c0_1, .int .i64 a0_2], .int .i64 x22_2] rfl (by (try simp only [List.map_toArray, List.map_cons, List.map_nil]); first | done | rfl | (simp only [List.length_drop, List.length_take]; rfl)) ?_; (with_reducible refine (spec_l08Tie.calls _ _ l0_0 _ _ l0_1 a0_2 x22_2 false _ ?side1 ?side2 ?side3 ?side4 A19.out).mono ?_); (case side1 => repeat (first | exact (Kd.C_below HR0_0.out HB.out) | (with_reducible refine Kd.C_alloc ?_ _) | (with_reducible refine Kd.C_drewN ?_ _) | (with_reducible refine Kd.C_drew ?_))); (case side2 => exact HC0_0.out); (case side3 => repeat (first | exact (Kd.C_below HR0_1.out HB.out) | (with_reducible refine Kd.C_alloc ?_ _) | (with_reducible refine Kd.C_drewN ?_ _) | (with_reducible refine Kd.C_drew ?_))); (case side4 => exact HC0_1.out); rintro e w24 ⟨rfl, hb⟩; refine ⟨_, rfl, ?_⟩; have n0_ := Aside0.mk (blk_below (g := gb42001) (o := .cells #[.slice A0_0 l0_0.length c0_0, .slice A0_1 l0_1.length c0_1, .int .i64 a0_2] 66 (0, 0)) (by (with_reducible repeat (first | refine blk_drewN ?_ _ | refine blk_drew ?_ | refine blk_alloc ?_ _)); exact BK42001.out) hb); have n1_ := Aside0.mk (below_step (by repeat (first | (with_reducible first | exact HB.out | apply below_alloc | apply pw_below_drewN | apply below_drew1 | refine below_set ?_ GE42001.out) | exact HB.out)) hb); clear BK42001; clear HB; have BK42001 := n0_; have HB := n1_; clear n0_ n1_; (try clear hb); (try clear hb2); (try clear hk); (try clear hi)))
                go_ret
                exact ⟨by first | rfl | (simp [errW_none, errW_some] <;> rfl) | (simp [*, errW_none, errW_some] <;> rfl), by repeat (first | (with_reducible first | exact HB.out | apply below_alloc | apply pw_below_drewN | apply below_drew1 | refine below_set ?_ GE42001.out) | exact HB.out)⟩
            · rw [if_neg c18] at H
              have c18b0 : decide (x22_2 < (l0_1.length : Int)) = false := decide_eq_false c18
              clear c18
              obtain rfl := Option.some.inj H
              go_wp2
              go_ret
              exact ⟨by first | rfl | (simp [errW_none, errW_some] <;> rfl) | (simp [*, errW_none, errW_some] <;> rfl), by repeat (first | (with_reducible first | exact HB.out | apply below_alloc | apply pw_below_drewN | apply below_drew1 | refine below_set ?_ GE42001.out) | exact HB.out)⟩

end Go.Proofs.Ytpoffpdaadhkgaa.Pr

namespace Go.Proofs.Ytpoffpdaadhkgaa.Pr
open Go.RowKit Go.Proofs.YtpoffpdaadhkgaaW.PrintWords Go.Proofs.YtpoffpdaadhkgaaW.PrintLast Go.Proofs.YtpoffpdaadhkgaaW.PrintMore
attribute [local go_sem] max2_int min2_int max_two min_two max_three min_three max_four min_four
set_option linter.unusedVariables false
set_option linter.unusedSimpArgs false

/-! ### spec_StateOk: function 57 -/
mutual
def spec_StateOk.j0 : Nat → Bool → List (S120) → List (S126) → Int → Int → List Int → List Int → Option (Bool)
  | 0, _, _, _, _, _, _, _ => none
  | k + 1, x42, x57002000, x57002001, x57002002, x57003000, x57003001, x57003002 => if x42 = true then (some false) else (spec_StateOk.l0 k x57003001 (x57003001.length : Int) 0 x57002000 x57002001 x57002002 x57003000 x57003001 x57003002)
def spec_StateOk.l0 : Nat → List Int → Int → Int → List (S120) → List (S126) → Int → Int → List Int → List Int → Option (Bool)
  | 0, _, _, _, _, _, _, _, _, _ => none
  | k + 1, x44, x45, x46, x57002000, x57002001, x57002002, x57003000, x57003001, x57003002 => if x46 < x45 then (if 0 ≤ x46 then (if x46 < (x44.length : Int) then (if x46 > 0 then ((spec_l01In.f (rd x44 x46) (-1) (wrap64 (x57003000 - 1))).bind fun t57008 => (if t57008 = true then (spec_StateOk.l0 k x44 x45 (wrap64 (x46 + 1)) x57002000 x57002001 x57002002 x57003000 x57003001 x57003002) else (some false))) else (spec_StateOk.l0 k x44 x45 (wrap64 (x46 + 1)) x57002000 x57002001 x57002002 x57003000 x57003001 x57003002)) else (none)) else (none)) else (spec_StateOk.l1 k 1 x57002000 x57002001 x57002002 x57003000 x57003001 x57003002)
def spec_StateOk.l1 : Nat → Int → List (S120) → List (S126) → Int → Int → List Int → List Int → Option (Bool)
  | 0, _, _, _, _, _, _, _ => none
  | k + 1, x7, x57002000, x57002001, x57002002, x57003000, x57003001, x57003002 => if x7 ≤ 3 then ((spec_l08Watcher.f k x57002000 x57002001 x57002002 x7).bind fun t57009 => (if 0 ≤ (wrap64 (x7 - 1)) then (if (wrap64 (x7 - 1)) < (x57003002.length : Int) then (if t57009 ≥ 0 then (if 0 ≤ t57009 then (if t57009 < (x57003001.length : Int) then (if (((rd x57003002 (wrap64 (x7 - 1))) != 0) != ((rd x57003001 t57009) != (-1))) = true then (some false) else (spec_StateOk.l1 k (wrap64 (x7 + 1)) x57002000 x57002001 x57002002 x57003000 x57003001 x57003002)) else (none)) else (none)) else (if (((rd x57003002 (wrap64 (x7 - 1))) != 0) != false) = true then (some false) else (spec_StateOk.l1 k (wrap64 (x7 + 1)) x57002000 x57002001 x57002002 x57003000 x57003001 x57003002))) else (none)) else (none))) else (some true)
end
def spec_StateOk.f (k : Nat) (l0_0 : List (S120)) (l0_1 : List (S126)) (a0_2 : Int) (a1_0 : Int) (l1_1 : List Int) (l1_2 : List Int) : Option (Bool) := (spec_ShowOk.f k l0_0 l0_1 a0_2).bind fun t57003 => (if t57003 = true then ((spec_l01In.f a1_0 0 (wrap64 (a0_2 + 1))).bind fun t57004 => (if t57004 = true then (if (l1_1.length : Int) = (l0_0.length : Int) then (if 0 < (l1_1.length : Int) then (if (rd l1_1 0) = 0 then ((spec_ValuesOk.f k l1_2).bind fun t57006 => (spec_StateOk.j0 k (!t57006) l0_0 l0_1 a0_2 a1_0 l1_1 l1_2)) else (spec_StateOk.j0 k true l0_0 l0_1 a0_2 a1_0 l1_1 l1_2)) else (none)) else (spec_StateOk.j0 k true l0_0 l0_1 a0_2 a1_0 l1_1 l1_2)) else (spec_StateOk.j0 k true l0_0 l0_1 a0_2 a1_0 l1_1 l1_2))) else (spec_StateOk.j0 k true l0_0 l0_1 a0_2 a1_0 l1_1 l1_2))
set_option maxHeartbeats 8000000 in
set_option maxRecDepth 100000 in
theorem spec_StateOk.calls (k : Nat) (A0_0 : Option Addr) (c0_0 : Nat) (l0_0 : List (S120)) (A0_1 : Option Addr) (c0_1 : Nat) (l0_1 : List (S126)) (a0_2 : Int) (a1_0 : Int) (A1_1 : Option Addr) (c1_1 : Nat) (l1_1 : List Int) (A1_2 : Option Addr) (c1_2 : Nat) (l1_2 : List Int) (r : Bool) (w : World) (hr0_0 : Kd.C k120 w A0_0 l0_0.length l0_0) (hc0_0 : l0_0.length ≤ c0_0) (hr0_1 : Kd.C k126 w A0_1 l0_1.length l0_1) (hc0_1 : l0_1.length ≤ c0_1) (hr1_1 : Kd.C (Kd.int .i64) w A1_1 l1_1.length l1_1) (hc1_1 : l1_1.length ≤ c1_1) (hr1_2 : Kd.C (Kd.int .i64) w A1_2 l1_2.length l1_2) (hc1_2 : l1_2.length ≤ c1_2) (h : spec_StateOk.f k l0_0 l0_1 a0_2 a1_0 l1_1 l1_2 = some r) :
    Calls Try.prog 57 #[.agg #[.slice A0_0 l0_0.length c0_0, .slice A0_1 l0_1.length c0_1, .int .i64 a0_2], .agg #[.int .i64 a1_0, .slice A1_1 l1_1.length c1_1, .slice A1_2 l1_2.length c1_2]] w fun e w' => e = .returned (.bool r) ∧ Below w.heap.size w w' := by
  have hu66 := Try.underlying66
  have hu80 := Try.underlying80
  have HR0_0 := Aside0.mk hr0_0
  have HC0_0 := Aside0.mk hc0_0
  clear hr0_0 hc0_0
  have HR0_1 := Aside0.mk hr0_1
  have HC0_1 := Aside0.mk hc0_1
  clear hr0_1 hc0_1
  have HR1_1 := Aside0.mk hr1_1
  have HC1_1 := Aside0.mk hc1_1
  clear hr1_1 hc1_1
  have HR1_2 := Aside0.mk hr1_2
  have HC1_2 := Aside0.mk hc1_2
  clear hr1_2 hc1_2
  have HB := Aside0.mk (Below.refl w.heap.size w)
  have H : ((spec_ShowOk.f k l0_0 l0_1 a0_2).bind fun t57003 => (if t57003 = true then ((spec_l01In.f a1_0 0 (wrap64 (a0_2 + 1))).bind fun t57004 => (if t57004 = true then (if (l1_1.length : Int) = (l0_0.length : Int) then (if 0 < (l1_1.length : Int) then (if (rd l1_1 0) = 0 then ((spec_ValuesOk.f k l1_2).bind fun t57006 => (spec_StateOk.j0 k (!t57006) l0_0 l0_1 a0_2 a1_0 l1_1 l1_2)) else (spec_StateOk.j0 k true l0_0 l0_1 a0_2 a1_0 l1_1 l1_2)) else (none)) else (spec_StateOk.j0 k true l0_0 l0_1 a0_2 a1_0 l1_1 l1_2)) else (spec_StateOk.j0 k true l0_0 l0_1 a0_2 a1_0 l1_1 l1_2))) else (spec_StateOk.j0 k true l0_0 l0_1 a0_2 a1_0 l1_1 l1_2))) = some r := h
  clear h
  have HC3 := Aside0.mk H
  clear H
  go_enter Try.func57, Try.ntmps57
  go_upto_region 1 with (first | ((with_reducible refine gate_dst (N := 2) rfl ?_); (try (refine gate_guard (by rfl) ?_; dsimp only)); refine box_event ?hg (N := 2) ?hd (cs := #[.slice A0_0 l0_0.length c0_0, .slice A0_1 l0_1.length c0_1, .int .i64 a0_2]) (t := 66) ?hr ?_; (case hd => rfl); (case hg => rfl); (case hr => first | (go_simp; done) | (go_simp; rfl)); intro gb57001 hg w4 hbox hb; have n0_ := Aside0.mk (below_step (by repeat (first | (with_reducible first | exact HB.out | apply below_alloc | apply pw_below_drewN | apply below_drew1) | exact HB.out)) hb); have n1_ := Aside0.mk (hbox); have n2_ := Aside0.mk ((by rw [hg]; exact (below_size (by repeat (first | (with_reducible first | exact HB.out | apply below_alloc | apply pw_below_drewN | apply below_drew1) | exact HB.out))) : w.heap.size ≤ gb57001)); have n3_ := Aside0.mk ((by rw [hg]; exact (below_size (by repeat (first | (with_reducible first | exact HB.out | apply below_alloc | apply pw_below_drewN | apply below_drew1) | exact HB.out))) : w.heap.size ≤ gb57001)); clear HB; have HB := n0_; have BK57001 := n1_; have GW57001 := n2_; have GE57001 := n3_; clear n0_ n1_ n2_ n3_; clear hb hbox hg) | ((with_reducible refine gate_dst (N := 3) rfl ?_); (try (refine gate_guard (by rfl) ?_; dsimp only)); refine box_event ?hg (N := 3) ?hd (cs := #[.int .i64 a1_0, .slice A1_1 l1_1.length c1_1, .slice A1_2 l1_2.length c1_2]) (t := 80) ?hr ?_; (case hd => rfl); (case hg => rfl); (case hr => first | (go_simp; done) | (go_simp; rfl)); intro gb57002 hg w5 hbox hb; have n0_ := Aside0.mk (blk_below (g := gb57001) (o := .cells #[.slice A0_0 l0_0.length c0_0, .slice A0_1 l0_1.length c0_1, .int .i64 a0_2] 66 (0, 0)) (by (with_reducible repeat (first | refine blk_drewN ?_ _ | refine blk_drew ?_ | refine blk_alloc ?_ _)); exact BK57001.out) hb); have n1_ := Aside0.mk (below_step (by repeat (first | (with_reducible first | exact HB.out | apply below_alloc | apply pw_below_drewN | apply below_drew1 | refine below_set ?_ GE57001.out) | exact HB.out)) hb); have n2_ := Aside0.mk (hbox); have n3_ := Aside0.mk ((by rw [hg]; exact (below_size (by repeat (first | (with_reducible first | exact HB.out | apply below_alloc | apply pw_below_drewN | apply below_drew1 | refine below_set ?_ GE57001.out) | exact HB.out))) : w.heap.size ≤ gb57002)); have n4_ := Aside0.mk ((by rw [hg]; exact (below_size (by repeat (first | (with_reducible first | exact HB.out | apply below_alloc | apply pw_below_drewN | apply below_drew1 | refine below_set ?_ GE57001.out) | exact HB.out))) : w.heap.size ≤ gb57002)); have n5_ := Aside0.mk ((by rw [hg]; exact Nat.ne_of_lt (blk_lt (g := gb57001) (o := .cells #[.slice A0_0 l0_0.length c0_0, .slice A0_1 l0_1.length c0_1, .int .i64 a0_2] 66 (0, 0)) (by (with_reducible repeat (first | refine blk_drewN ?_ _ | refine blk_drew ?_ | refine blk_alloc ?_ _)); exact BK57001.out)) : gb57001 ≠ gb57002)); have n6_ := Aside0.mk ((by rw [hg]; exact Nat.ne_of_gt (blk_lt (g := gb57001) (o := .cells #[.slice A0_0 l0_0.length c0_0, .slice A0_1 l0_1.length c0_1, .int .i64 a0_2] 66 (0, 0)) (by (with_reducible repeat (first | refine blk_drewN ?_ _ | refine blk_drew ?_ | refine blk_alloc ?_ _)); exact BK57001.out)) : gb57002 ≠ gb57001)); clear BK57001; clear HB; have BK57001 := n0_; have HB := n1_; have BK57002 := n2_; have GW57002 := n3_; have GE57002 := n4_; have NB57001_57002 := n5_; have NB57002_57001 := n6_; clear n0_ n1_ n2_ n3_ n4_ n5_ n6_; clear hb hbox hg))
  repeat (go_quiet (first | ((with_reducible refine gate_dst (N := 2) rfl ?_); (try (refine gate_guard (by rfl) ?_; dsimp only)); refine box_event ?hg (N := 2) ?hd (cs := #[.slice A0_0 l0_0.length c0_0, .slice A0_1 l0_1.length c0_1, .int .i64 a0_2]) (t := 66) ?hr ?_; (case hd => rfl); (case hg => rfl); (case hr => first | (go_simp; done) | (go_simp; rfl)); intro gb57001 hg w4 hbox hb; have n0_ := Aside0.mk (below_step (by repeat (first | (with_reducible first | exact HB.out | apply below_alloc | apply pw_below_drewN | apply below_drew1) | exact HB.out)) hb); have n1_ := Aside0.mk (hbox); have n2_ := Aside0.mk ((by rw [hg]; exact (below_size (by repeat (first | (with_reducible first | exact HB.out | apply below_alloc | apply pw_below_drewN | apply below_drew1) | exact HB.out))) : w.heap.size ≤ gb57001)); have n3_ := Aside0.mk ((by rw [hg]; exact (below_size (by repeat (first | (with_reducible first | exact HB.out | apply below_alloc | apply pw_below_drewN | apply below_drew1) | exact HB.out))) : w.heap.size ≤ gb57001)); clear HB; have HB := n0_; have BK57001 := n1_; have GW57001 := n2_; have GE57001 := n3_; clear n0_ n1_ n2_ n3_; clear hb hbox hg) | ((with_reducible refine gate_dst (N := 3) rfl ?_); (try (refine gate_guard (by rfl) ?_; dsimp only)); refine box_event ?hg (N := 3) ?hd (cs := #[.int .i64 a1_0, .slice A1_1 l1_1.length c1_1, .slice A1_2 l1_2.length c1_2]) (t := 80) ?hr ?_; (case hd => rfl); (case hg => rfl); (case hr => first | (go_simp; done) | (go_simp; rfl)); intro gb57002 hg w5 hbox hb; have n0_ := Aside0.mk (blk_below (g := gb57001) (o := .cells #[.slice A0_0 l0_0.length c0_0, .slice A0_1 l0_1.length c0_1, .int .i64 a0_2] 66 (0, 0)) (by (with_reducible repeat (first | refine blk_drewN ?_ _ | refine blk_drew ?_ | refine blk_alloc ?_ _)); exact BK57001.out) hb); have n1_ := Aside0.mk (below_step (by repeat (first | (with_reducible first | exact HB.out | apply below_alloc | apply pw_below_drewN | apply below_drew1 | refine below_set ?_ GE57001.out) | exact HB.out)) hb); have n2_ := Aside0.mk (hbox); have n3_ := Aside0.mk ((by rw [hg]; exact (below_size (by repeat (first | (with_reducible first | exact HB.out | apply below_alloc | apply pw_below_drewN | apply below_drew1 | refine below_set ?_ GE57001.out) | exact HB.out))) : w.heap.size ≤ gb57002)); have n4_ := Aside0.mk ((by rw [hg]; exact (below_size (by repeat (first | (with_reducible first | exact HB.out | apply below_alloc | apply pw_below_drewN | apply below_drew1 | refine below_set ?_ GE57001.out) | exact HB.out))) : w.heap.size ≤ gb57002)); have n5_ := Aside0.mk ((by rw [hg]; exact Nat.ne_of_lt (blk_lt (g := gb57001) (o := .cells #[.slice A0_0 l0_0.length c0_0, .slice A0_1 l0_1.length c0_1, .int .i64 a0_2] 66 (0, 0)) (by (with_reducible repeat (first | refine blk_drewN ?_ _ | refine blk_drew ?_ | refine blk_alloc ?_ _)); exact BK57001.out)) : gb57001 ≠ gb57002)); have n6_ := Aside0.mk ((by rw [hg]; exact Nat.ne_of_gt (blk_lt (g := gb57001) (o := .cells #[.slice A0_0 l0_0.length c0_0, .slice A0_1 l0_1.length c0_1, .int .i64 a0_2] 66 (0, 0)) (by (with_reducible repeat (first | refine blk_drewN ?_ _ | refine blk_drew ?_ | refine blk_alloc ?_ _)); exact BK57001.out)) : gb57002 ≠ gb57001)); clear BK57001; clear HB; have BK57001 := n0_; have HB := n1_; have BK57002 := n2_; have GW57002 := n3_; have GE57002 := n4_; have NB57001_57002 := n5_; have NB57002_57001 := n6_; clear n0_ n1_ n2_ n3_ n4_ n5_ n6_; clear hb hbox hg)); go_upto_region 1 with (first | ((with_reducible refine gate_dst (N := 2) rfl ?_); (try (refine gate_guard (by rfl) ?_; dsimp only)); refine box_event ?hg (N := 2) ?hd (cs := #[.slice A0_0 l0_0.length c0_0, .slice A0_1 l0_1.length c0_1, .int .i64 a0_2]) (t := 66) ?hr ?_; (case hd => rfl); (case hg => rfl); (case hr => first | (go_simp; done) | (go_simp; rfl)); intro gb57001 hg w4 hbox hb; have n0_ := Aside0.mk (below_step (by repeat (first | (with_reducible first | exact HB.out | apply below_alloc | apply pw_below_drewN | apply below_drew1) | exact HB.out)) hb); have n1_ := Aside0.mk (hbox); have n2_ := Aside0.mk ((by rw [hg]; exact (below_size (by repeat (first | (with_reducible first | exact HB.out | apply below_alloc | apply pw_below_drewN | apply below_drew1) | exact HB.out))) : w.heap.size ≤ gb57001)); have n3_ := Aside0.mk ((by rw [hg]; exact (below_size (by repeat (first | (with_reducible first | exact HB.out | apply below_alloc | apply pw_below_drewN | apply below_drew1) | exact HB.out))) : w.heap.size ≤ gb57001)); clear HB; have HB := n0_; have BK57001 := n1_; have GW57001 := n2_; have GE57001 := n3_; clear n0_ n1_ n2_ n3_; clear hb hbox hg) | ((with_reducible refine gate_dst (N := 3) rfl ?_); (try (refine gate_guard (by rfl) ?_; dsimp only)); refine box_event ?hg (N := 3) ?hd (cs := #[.int .i64 a1_0, .slice A1_1 l1_1.length c1_1, .slice A1_2 l1_2.length c1_2]) (t := 80) ?hr ?_; (case hd => rfl); (case hg => rfl); (case hr => first | (go_simp; done) | (go_simp; rfl)); intro gb57002 hg w5 hbox hb; have n0_ := Aside0.mk (blk_below (g := gb57001) (o := .cells #[.slice A0_0 l0_0.length c0_0, .slice A0_1 l0_1.length c0_1, .int .i64 a0_2] 66 (0, 0)) (by (with_reducible repeat (first | refine blk_drewN ?_ _ | refine blk_drew ?_ | refine blk_alloc ?_ _)); exact BK57001.out) hb); have n1_ := Aside0.mk (below_step (by repeat (first | (with_reducible first | exact HB.out | apply below_alloc | apply pw_below_drewN | apply below_drew1 | refine below_set ?_ GE57001.out) | exact HB.out)) hb); have n2_ := Aside0.mk (hbox); have n3_ := Aside0.mk ((by rw [hg]; exact (below_size (by repeat (first | (with_reducible first | exact HB.out | apply below_alloc | apply pw_below_drewN | apply below_drew1 | refine below_set ?_ GE57001.out) | exact HB.out))) : w.heap.size ≤ gb57002)); have n4_ := Aside0.mk ((by rw [hg]; exact (below_size (by repeat (first | (with_reducible first | exact HB.out | apply below_alloc | apply pw_below_drewN | apply below_drew1 | refine below_set ?_ GE57001.out) | exact HB.out))) : w.heap.size ≤ gb57002)); have n5_ := Aside0.mk ((by rw [hg]; exact Nat.ne_of_lt (blk_lt (g := gb57001) (o := .cells #[.slice A0_0 l0_0.length c0_0, .slice A0_1 l0_1.length c0_1, .int .i64 a0_2] 66 (0, 0)) (by (with_reducible repeat (first | refine blk_drewN ?_ _ | refine blk_drew ?_ | refine blk_alloc ?_ _)); exact BK57001.out)) : gb57001 ≠ gb57002)); have n6_ := Aside0.mk ((by rw [hg]; exact Nat.ne_of_gt (blk_lt (g := gb57001) (o := .cells #[.slice A0_0 l0_0.length c0_0, .slice A0_1 l0_1.length c0_1, .int .i64 a0_2] 66 (0, 0)) (by (with_reducible repeat (first | refine blk_drewN ?_ _ | refine blk_drew ?_ | refine blk_alloc ?_ _)); exact BK57001.out)) : gb57002 ≠ gb57001)); clear BK57001; clear HB; have BK57001 := n0_; have HB := n1_; have BK57002 := n2_; have GW57002 := n3_; have GE57002 := n4_; have NB57001_57002 := n5_; have NB57002_57001 := n6_; clear n0_ n1_ n2_ n3_ n4_ n5_ n6_; clear hb hbox hg)))
  (try simp only [Act.put, List.setIfInBounds_toArray, List.set_cons_zero, List.set_cons_succ])
  go_cut [42] (fun v42 wc => ∃ (kq : Nat) (x42_2 : Bool), v42 = .bool x42_2 ∧ Aside0 (spec_StateOk.j0 kq x42_2 l0_0 l0_1 a0_2 a1_0 l1_1 l1_2 = some r) ∧ Aside0 (kq ≤ k) ∧ Aside0 (wc.heap[gb57001]? = some (.cells #[(.slice A0_0 l0_0.length c0_0), (.slice A0_1 l0_1.length c0_1), .int .i64 a0_2] 66 (0, 0))) ∧ Aside0 (wc.heap[gb57002]? = some (.cells #[.int .i64 a1_0, (.slice A1_1 l1_1.length c1_1), (.slice A1_2 l1_2.length c1_2)] 80 (0, 0))) ∧ Aside0 (Below w.heap.size w wc))
  case first =>
    have H := HC3.out
    clear HC3
    replace H := Option.bind_eq_some_iff.mp H
    obtain ⟨t57003, A60, H⟩ := H
    replace H : (if t57003 = true then ((spec_l01In.f a1_0 0 (wrap64 (a0_2 + 1))).bind fun t57004 => (if t57004 = true then (if (l1_1.length : Int) = (l0_0.length : Int) then (if 0 < (l1_1.length : Int) then (if (rd l1_1 0) = 0 then ((spec_ValuesOk.f k l1_2).bind fun t57006 => (spec_StateOk.j0 k (!t57006) l0_0 l0_1 a0_2 a1_0 l1_1 l1_2)) else (spec_StateOk.j0 k true l0_0 l0_1 a0_2 a1_0 l1_1 l1_2)) else (none)) else (spec_StateOk.j0 k true l0_0 l0_1 a0_2 a1_0 l1_1 l1_2)) else (spec_StateOk.j0 k true l0_0 l0_1 a0_2 a1_0 l1_1 l1_2))) else (spec_StateOk.j0 k true l0_0 l0_1 a0_2 a1_0 l1_1 l1_2)) = some r := H
    have A6 := Aside0.mk A60
    clear A60
    by_cases c7 : t57003 = true
    · subst c7
      have H1 : ((spec_l01In.f a1_0 0 (wrap64 (a0_2 + 1))).bind fun t57004 => (if t57004 = true then (if (l1_1.length : Int) = (l0_0.length : Int) then (if 0 < (l1_1.length : Int) then (if (rd l1_1 0) = 0 then ((spec_ValuesOk.f k l1_2).bind fun t57006 => (spec_StateOk.j0 k (!t57006) l0_0 l0_1 a0_2 a1_0 l1_1 l1_2)) else (spec_StateOk.j0 k true l0_0 l0_1 a0_2 a1_0 l1_1 l1_2)) else (none)) else (spec_StateOk.j0 k true l0_0 l0_1 a0_2 a1_0 l1_1 l1_2)) else (spec_StateOk.j0 k true l0_0 l0_1 a0_2 a1_0 l1_1 l1_2))) = some r := by rw [if_pos rfl] at H; exact H
      clear H
      have H := H1
      clear H1
      replace H := Option.bind_eq_some_iff.mp H
      obtain ⟨t57004, A80, H⟩ := H
      replace H : (if t57004 = true then (if (l1_1.length : Int) = (l0_0.length : Int) then (if 0 < (l1_1.length : Int) then (if (rd l1_1 0) = 0 then ((spec_ValuesOk.f k l1_2).bind fun t57006 => (spec_StateOk.j0 k (!t57006) l0_0 l0_1 a0_2 a1_0 l1_1 l1_2)) else (spec_StateOk.j0 k true l0_0 l0_1 a0_2 a1_0 l1_1 l1_2)) else (none)) else (spec_StateOk.j0 k true l0_0 l0_1 a0_2 a1_0 l1_1 l1_2)) else (spec_StateOk.j0 k true l0_0 l0_1 a0_2 a1_0 l1_1 l1_2)) = some r := H
      have A8 := Aside0.mk A80
      clear A80
      by_cases c9 : t57004 = true
      · subst c9
        have H1 : (if (l1_1.length : Int) = (l0_0.length : Int) then (if 0 < (l1_1.length : Int) then (if (rd l1_1 0) = 0 then ((spec_ValuesOk.f k l1_2).bind fun t57006 => (spec_StateOk.j0 k (!t57006) l0_0 l0_1 a0_2 a1_0 l1_1 l1_2)) else (spec_StateOk.j0 k true l0_0 l0_1 a0_2 a1_0 l1_1 l1_2)) else (none)) else (spec_StateOk.j0 k true l0_0 l0_1 a0_2 a1_0 l1_1 l1_2)) = some r := by rw [if_pos rfl] at H; exact H
        clear H
        have H := H1
        clear H1
        by_cases c10 : (l1_1.length : Int) = (l0_0.length : Int)
        · rw [if_pos c10] at H
          have c10b0 : ((l1_1.length : Int) == (l0_0.length : Int)) = true := beq_iff_eq.mpr c10
          have c10b1 : ((l1_1.length : Int) != (l0_0.length : Int)) = false := bne_eq_false_iff_eq.mpr c10
          have c10b2 : (l1_1.length == l0_0.length) = true := by first | simpa using c10 | (simp at c10 ⊢; omega)
          clear c10
          (first | rw [c10b0] | (simp only [i64_w, i32_w]; rw [c10b0]) | skip)
          by_cases c11 : 0 < (l1_1.length : Int)
          · rw [if_pos c11] at H
            have c11b0 : decide (0 < (l1_1.length : Int)) = true := decide_eq_true c11
            have c11b1 : decide (0 < l1_1.length) = true := decide_eq_true (by omega)
            clear c11
            by_cases c12 : (rd l1_1 0) = 0
            · rw [if_pos c12] at H
              have c12b0 : ((rd l1_1 0) == 0) = true := beq_iff_eq.mpr c12
              have c12b1 : ((rd l1_1 0) != 0) = false := bne_eq_false_iff_eq.mpr c12
              clear c12
              replace H := Option.bind_eq_some_iff.mp H
              obtain ⟨t57006, A130, H⟩ := H
              replace H : (spec_StateOk.j0 k (!t57006) l0_0 l0_1 a0_2 a1_0 l1_1 l1_2) = some r := H
              have A13 := Aside0.mk A130
              clear A130
              have H' := Aside0.mk H
              clear H
              have hnb14 := NB57001_57002.out
              have hnc14 := NB57002_57001.out
              have hcz15_0 : w5.cell? ⟨gb57001, 0, none⟩ = some (.slice A0_0 l0_0.length c0_0) := (blk_cell BK57001.out 0).trans rfl
              have hcz15_1 : w5.cell? ⟨gb57001, 1, none⟩ = some (.slice A0_1 l0_1.length c0_1) := (blk_cell BK57001.out 1).trans rfl
              have hcz15_2 : w5.cell? ⟨gb57001, 2, none⟩ = some (.int .i64 a0_2) := (blk_cell BK57001.out 2).trans rfl
              have hfz15_0 := blk_frozen BK57001.out 0
              have hfz15_1 := blk_frozen BK57001.out 1
              have hfz15_2 := blk_frozen BK57001.out 2
              go_wp2_with (first | (go_at_call 42; (with_reducible refine (spec_ShowOk.calls k _ _ l0_0 _ _ l0_1 a0_2 true _ ?side1 ?side2 ?side3 ?side4 A6.out).mono ?_); (case side1 => repeat (first | exact (Kd.C_below HR0_0.out HB.out) | (with_reducible refine Kd.C_alloc ?_ _) | (with_reducible refine Kd.C_drewN ?_ _) | (with_reducible refine Kd.C_drew ?_))); (case side2 => exact HC0_0.out); (case side3 => repeat (first | exact (Kd.C_below HR0_1.out HB.out) | (with_reducible refine Kd.C_alloc ?_ _) | (with_reducible refine Kd.C_drewN ?_ _) | (with_reducible refine Kd.C_drew ?_))); (case side4 => exact HC0_1.out); rintro e w16 ⟨rfl, hb⟩; have n0_ := Aside0.mk (blk_below (g := gb57001) (o := .cells #[.slice A0_0 l0_0.length c0_0, .slice A0_1 l0_1.length c0_1, .int .i64 a0_2] 66 (0, 0)) (by (with_reducible repeat (first | refine blk_drewN ?_ _ | refine blk_drew ?_ | refine blk_alloc ?_ _)); exact BK57001.out) hb); have n1_ := Aside0.mk (blk_below (g := gb57002) (o := .cells #[.int .i64 a1_0, .slice A1_1 l1_1.length c1_1, .slice A1_2 l1_2.length c1_2] 80 (0, 0)) (by (with_reducible repeat (first | refine blk_drewN ?_ _ | refine blk_drew ?_ | refine blk_alloc ?_ _)); exact BK57002.out) hb); have n2_ := Aside0.mk (below_step (by repeat (first | (with_reducible first | exact HB.out | apply below_alloc | apply pw_below_drewN | apply below_drew1 | refine below_set ?_ GE57001.out | refine below_set ?_ GE57002.out) | exact HB.out)) hb); clear BK57001; clear BK57002; clear HB; have BK57001 := n0_; have BK57002 := n1_; have HB := n2_; clear n0_ n1_ n2_; (try clear hb); (try clear hb2); (try clear hk); (try clear hi); have hcz17_0 : w16.cell? ⟨gb57002, 0, none⟩ = some (.int .i64 a1_0) := (blk_cell BK57002.out 0).trans rfl; have hcz17_1 : w16.cell? ⟨gb57002, 1, none⟩ = some (.slice A1_1 l1_1.length c1_1) := (blk_cell BK57002.out 1).trans rfl; have hcz17_2 : w16.cell? ⟨gb57002, 2, none⟩ = some (.slice A1_2 l1_2.length c1_2) := (blk_cell BK57002.out 2).trans rfl; have hfz17_0 := blk_frozen BK57002.out 0; have hfz17_1 := blk_frozen BK57002.out 1; have hfz17_2 := blk_frozen BK57002.out 2; have hcz18_0 : w16.cell? ⟨gb57001, 0, none⟩ = some (.slice A0_0 l0_0.length c0_0) := (blk_cell BK57001.out 0).trans rfl; have hcz18_1 : w16.cell? ⟨gb57001, 1, none⟩ = some (.slice A0_1 l0_1.length c0_1) := (blk_cell BK57001.out 1).trans rfl; have hcz18_2 : w16.cell? ⟨gb57001, 2, none⟩ = some (.int .i64 a0_2) := (blk_cell BK57001.out 2).trans rfl; have hfz18_0 := blk_frozen BK57001.out 0; have hfz18_1 := blk_frozen BK57001.out 1; have hfz18_2 := blk_frozen BK57001.out 2) | (go_at_call 87; (with_reducible refine (spec_l01In.calls a1_0 0 (wrap64 (a0_2 + 1)) true _ A8.out).mono ?_); rintro e w' ⟨rfl, ⟨nd, rfl⟩⟩; (try first | exact ⟨rfl, _, World.drewN_drewN _ _ _⟩ | exact ⟨rfl, _, Eq.trans (World.drewN_drewN _ _ _) (congrArg (World.drewN _) (Nat.add_assoc _ _ _))⟩); have p57005 : 0 ≤ (0 : Int) := (by omega); have q57005 : 0 < (l1_1.length : Int) := of_decide_eq_true (by first | (with_reducible assumption) | assumption); obtain ⟨ad57005, e57005, hx57005_0⟩ := Kd.at_int HR1_1.out 0 p57005 q57005; cases e57005; have qi57005 : (0 < l1_1.length) = True := eq_true (by omega); (try rw [show ((0 : Int)).toNat = 0 from rfl] at hx57005_0); (try rw [Addr.add_zero'] at hx57005_0); replace hx57005_0 := (HB.out.cell (World.block_lt_of_cell? w _ hx57005_0)).trans hx57005_0; replace p57005 := eq_true p57005; replace q57005 := eq_true q57005) | (go_at_call 111; (with_reducible refine (spec_ValuesOk.calls k _ _ l1_2 t57006 _ ?side1 ?side2 A13.out).mono ?_); (case side1 => repeat (first | exact (Kd.C_below HR1_2.out (by repeat (first | (with_reducible first | exact HB.out | apply below_alloc | apply pw_below_drewN | apply below_drew1 | refine below_set ?_ GE57001.out | refine below_set ?_ GE57002.out) | exact HB.out))) | (with_reducible refine Kd.C_alloc ?_ _) | (with_reducible refine Kd.C_drewN ?_ _) | (with_reducible refine Kd.C_drew ?_))); (case side2 => exact HC1_2.out); rintro e w' ⟨rfl, ⟨nd, rfl⟩⟩; (try first | exact ⟨rfl, _, World.drewN_drewN _ _ _⟩ | exact ⟨rfl, _, Eq.trans (World.drewN_drewN _ _ _) (congrArg (World.drewN _) (Nat.add_assoc _ _ _))⟩)))
              repeat (go_quiet (first | (go_at_call 42; (with_reducible refine (spec_ShowOk.calls k _ _ l0_0 _ _ l0_1 a0_2 true _ ?side1 ?side2 ?side3 ?side4 A6.out).mono ?_); (case side1 => repeat (first | exact (Kd.C_below HR0_0.out HB.out) | (with_reducible refine Kd.C_alloc ?_ _) | (with_reducible refine Kd.C_drewN ?_ _) | (with_reducible refine Kd.C_drew ?_))); (case side2 => exact HC0_0.out); (case side3 => repeat (first | exact (Kd.C_below HR0_1.out HB.out) | (with_reducible refine Kd.C_alloc ?_ _) | (with_reducible refine Kd.C_drewN ?_ _) | (with_reducible refine Kd.C_drew ?_))); (case side4 => exact HC0_1.out); rintro e w16 ⟨rfl, hb⟩; have n0_ := Aside0.mk (blk_below (g := gb57001) (o := .cells #[.slice A0_0 l0_0.length c0_0, .slice A0_1 l0_1.length c0_1, .int .i64 a0_2] 66 (0, 0)) (by (with_reducible repeat (first | refine blk_drewN ?_ _ | refine blk_drew ?_ | refine blk_alloc ?_ _)); exact BK57001.out) hb); have n1_ := Aside0.mk (blk_below (g := gb57002) (o := .cells #[.int .i64 a1_0, .slice A1_1 l1_1.length c1_1, .slice A1_2 l1_2.length c1_2] 80 (0, 0)) (by (with_reducible repeat (first | refine blk_drewN ?_ _ | refine blk_drew ?_ | refine blk_alloc ?_ _)); exact BK57002.out) hb); have n2_ := Aside0.mk (below_step (by repeat (first | (with_reducible first | exact HB.out | apply below_alloc | apply pw_below_drewN | apply below_drew1 | refine below_set ?_ GE57001.out | refine below_set ?_ GE57002.out) | exact HB.out)) hb); clear BK57001; clear BK57002; clear HB; have BK57001 := n0_; have BK57002 := n1_; have HB := n2_; clear n0_ n1_ n2_; (try clear hb); (try clear hb2); (try clear hk); (try clear hi); have hcz17_0 : w16.cell? ⟨gb57002, 0, none⟩ = some (.int .i64 a1_0) := (blk_cell BK57002.out 0).trans rfl; have hcz17_1 : w16.cell? ⟨gb57002, 1, none⟩ = some (.slice A1_1 l1_1.length c1_1) := (blk_cell BK57002.out 1).trans rfl; have hcz17_2 : w16.cell? ⟨gb57002, 2, none⟩ = some (.slice A1_2 l1_2.length c1_2) := (blk_cell BK57002.out 2).trans rfl; have hfz17_0 := blk_frozen BK57002.out 0; have hfz17_1 := blk_frozen BK57002.out 1; have hfz17_2 := blk_frozen BK57002.out 2; have hcz18_0 : w16.cell? ⟨gb57001, 0, none⟩ = some (.slice A0_0 l0_0.length c0_0) := (blk_cell BK57001.out 0).trans rfl; have hcz18_1 : w16.cell? ⟨gb57001, 1, none⟩ = some (.slice A0_1 l0_1.length c0_1) := (blk_cell BK57001.out 1).trans rfl; have hcz18_2 : w16.cell? ⟨gb57001, 2, none⟩ = some (.int .i64 a0_2) := (blk_cell BK57001.out 2).trans rfl; have hfz18_0 := blk_frozen BK57001.out 0; have hfz18_1 := blk_frozen BK57001.out 1; have hfz18_2 := blk_frozen BK57001.out 2) | (go_at_call 87; (with_reducible refine (spec_l01In.calls a1_0 0 (wrap64 (a0_2 + 1)) true _ A8.out).mono ?_); rintro e w' ⟨rfl, ⟨nd, rfl⟩⟩; (try first | exact ⟨rfl, _, World.drewN_drewN _ _ _⟩ | exact ⟨rfl, _, Eq.trans (World.drewN_drewN _ _ _) (congrArg (World.drewN _) (Nat.add_assoc _ _ _))⟩); have p57005 : 0 ≤ (0 : Int) := (by omega); have q57005 : 0 < (l1_1.length : Int) := of_decide_eq_true (by first | (with_reducible assumption) | assumption); obtain ⟨ad57005, e57005, hx57005_0⟩ := Kd.at_int HR1_1.out 0 p57005 q57005; cases e57005; have qi57005 : (0 < l1_1.length) = True := eq_true (by omega); (try rw [show ((0 : Int)).toNat = 0 from rfl] at hx57005_0); (try rw [Addr.add_zero'] at hx57005_0); replace hx57005_0 := (HB.out.cell (World.block_lt_of_cell? w _ hx57005_0)).trans hx57005_0; replace p57005 := eq_true p57005; replace q57005 := eq_true q57005) | (go_at_call 111; (with_reducible refine (spec_ValuesOk.calls k _ _ l1_2 t57006 _ ?side1 ?side2 A13.out).mono ?_); (case side1 => repeat (first | exact (Kd.C_below HR1_2.out (by repeat (first | (with_reducible first | exact HB.out | apply below_alloc | apply pw_below_drewN | apply below_drew1 | refine below_set ?_ GE57001.out | refine below_set ?_ GE57002.out) | exact HB.out))) | (with_reducible refine Kd.C_alloc ?_ _) | (with_reducible refine Kd.C_drewN ?_ _) | (with_reducible refine Kd.C_drew ?_))); (case side2 => exact HC1_2.out); rintro e w' ⟨rfl, ⟨nd, rfl⟩⟩; (try first | exact ⟨rfl, _, World.drewN_drewN _ _ _⟩ | exact ⟨rfl, _, Eq.trans (World.drewN_drewN _ _ _) (congrArg (World.drewN _) (Nat.add_assoc _ _ _))⟩))); try go_wp2_with (first | (go_at_call 42; (with_reducible refine (spec_ShowOk.calls k _ _ l0_0 _ _ l0_1 a0_2 true _ ?side1 ?side2 ?side3 ?side4 A6.out).mono ?_); (case side1 => repeat (first | exact (Kd.C_below HR0_0.out HB.out) | (with_reducible refine Kd.C_alloc ?_ _) | (with_reducible refine Kd.C_drewN ?_ _) | (with_reducible refine Kd.C_drew ?_))); (case side2 => exact HC0_0.out); (case side3 => repeat (first | exact (Kd.C_below HR0_1.out HB.out) | (with_reducible refine Kd.C_alloc ?_ _) | (with_reducible refine Kd.C_drewN ?_ _) | (with_reducible refine Kd.C_drew ?_))); (case side4 => exact HC0_1.out); rintro e w16 ⟨rfl, hb⟩; have n0_ := Aside0.mk (blk_below (g := gb57001) (o := .cells #[.slice A0_0 l0_0.length c0_0, .slice A0_1 l0_1.length c0_1, .int .i64 a0_2] 66 (0, 0)) (by (with_reducible repeat (first | refine blk_drewN ?_ _ | refine blk_drew ?_ | refine blk_alloc ?_ _)); exact BK57001.out) hb); have n1_ := Aside0.mk (blk_below (g := gb57002) (o := .cells #[.int .i64 a1_0, .slice A1_1 l1_1.length c1_1, .slice A1_2 l1_2.length c1_2] 80 (0, 0)) (by (with_reducible repeat (first | refine blk_drewN ?_ _ | refine blk_drew ?_ | refine blk_alloc ?_ _)); exact BK57002.out) hb); have n2_ := Aside0.mk (below_step (by repeat (first | (with_reducible first | exact HB.out | apply below_alloc | apply pw_below_drewN | apply below_drew1 | refine below_set ?_ GE57001.out | refine below_set ?_ GE57002.out) | exact HB.out)) hb); clear BK57001; clear BK57002; clear HB; have BK57001 := n0_; have BK57002 := n1_; have HB := n2_; clear n0_ n1_ n2_; (try clear hb); (try clear hb2); (try clear hk); (try clear hi); have hcz17_0 : w16.cell? ⟨gb57002, 0, none⟩ = some (.int .i64 a1_0) := (blk_cell BK57002.out 0).trans rfl; have hcz17_1 : w16.cell? ⟨gb57002, 1, none⟩ = some (.slice A1_1 l1_1.length c1_1) := (blk_cell BK57002.out 1).trans rfl; have hcz17_2 : w16.cell? ⟨gb57002, 2, none⟩ = some (.slice A1_2 l1_2.length c1_2) := (blk_cell BK57002.out 2).trans rfl; have hfz17_0 := blk_frozen BK57002.out 0; have hfz17_1 := blk_frozen BK57002.out 1; have hfz17_2 := blk_frozen BK57002.out 2; have hcz18_0 : w16.cell? ⟨gb57001, 0, none⟩ = some (.slice A0_0 l0_0.length c0_0) := (blk_cell BK57001.out 0).trans rfl; have hcz18_1 : w16.cell? ⟨gb57001, 1, none⟩ = some (.slice A0_1 l0_1.length c0_1) := (blk_cell BK57001.out 1).trans rfl; have hcz18_2 : w16.cell? ⟨gb57001, 2, none⟩ = some (.int .i64 a0_2) := (blk_cell BK57001.out 2).trans rfl; have hfz18_0 := blk_frozen BK57001.out 0; have hfz18_1 := blk_frozen BK57001.out 1; have hfz18_2 := blk_frozen BK57001.out 2) | (go_at_call 87; (with_reducible refine (spec_l01In.calls a1_0 0 (wrap64 (a0_2 + 1)) true _ A8.out).mono ?_); rintro e w' ⟨rfl, ⟨nd, rfl⟩⟩; (try first | exact ⟨rfl, _, World.drewN_drewN _ _ _⟩ | exact ⟨rfl, _, Eq.trans (World.drewN_drewN _ _ _) (congrArg (World.drewN _) (Nat.add_assoc _ _ _))⟩); have p57005 : 0 ≤ (0 : Int) := (by omega); have q57005 : 0 < (l1_1.length : Int) := of_decide_eq_true (by first | (with_reducible assumption) | assumption); obtain ⟨ad57005, e57005, hx57005_0⟩ := Kd.at_int HR1_1.out 0 p57005 q57005; cases e57005; have qi57005 : (0 < l1_1.length) = True := eq_true (by omega); (try rw [show ((0 : Int)).toNat = 0 from rfl] at hx57005_0); (try rw [Addr.add_zero'] at hx57005_0); replace hx57005_0 := (HB.out.cell (World.block_lt_of_cell? w _ hx57005_0)).trans hx57005_0; replace p57005 := eq_true p57005; replace q57005 := eq_true q57005) | (go_at_call 111; (with_reducible refine (spec_ValuesOk.calls k _ _ l1_2 t57006 _ ?side1 ?side2 A13.out).mono ?_); (case side1 => repeat (first | exact (Kd.C_below HR1_2.out (by repeat (first | (with_reducible first | exact HB.out | apply below_alloc | apply pw_below_drewN | apply below_drew1 | refine below_set ?_ GE57001.out | refine below_set ?_ GE57002.out) | exact HB.out))) | (with_reducible refine Kd.C_alloc ?_ _) | (with_reducible refine Kd.C_drewN ?_ _) | (with_reducible refine Kd.C_drew ?_))); (case side2 => exact HC1_2.out); rintro e w' ⟨rfl, ⟨nd, rfl⟩⟩; (try first | exact ⟨rfl, _, World.drewN_drewN _ _ _⟩ | exact ⟨rfl, _, Eq.trans (World.drewN_drewN _ _ _) (congrArg (World.drewN _) (Nat.add_assoc _ _ _))⟩))))
              go_meet
              case rel => exact ⟨_, (!t57006), (by first | rfl | (simp; done) | (simp [*]; done)), H', ⟨by first | omega | exact Nat.le_refl _⟩, ⟨by (with_reducible repeat (first | refine blk_drewN ?_ _ | refine blk_drew ?_ | refine blk_alloc ?_ _)); exact BK57001.out⟩, ⟨by (with_reducible repeat (first | refine blk_drewN ?_ _ | refine blk_drew ?_ | refine blk_alloc ?_ _)); exact BK57002.out⟩, ⟨by repeat (first | (with_reducible first | exact HB.out | apply below_alloc | apply pw_below_drewN | apply below_drew1 | refine below_set ?_ GE57001.out | refine below_set ?_ GE57002.out) | exact HB.out)⟩⟩
            · rw [if_neg c12] at H
              have c12b0 : ((rd l1_1 0) == 0) = false := beq_eq_false_iff_ne.mpr c12
              have c12b1 : ((rd l1_1 0) != 0) = true := bne_iff_ne.mpr c12
              have H' := Aside0.mk H
              clear H
              have hnb19 := NB57001_57002.out
              have hnc19 := NB57002_57001.out
              have hcz20_0 : w5.cell? ⟨gb57001, 0, none⟩ = some (.slice A0_0 l0_0.length c0_0) := (blk_cell BK57001.out 0).trans rfl
              have hcz20_1 : w5.cell? ⟨gb57001, 1, none⟩ = some (.slice A0_1 l0_1.length c0_1) := (blk_cell BK57001.out 1).trans rfl
              have hcz20_2 : w5.cell? ⟨gb57001, 2, none⟩ = some (.int .i64 a0_2) := (blk_cell BK57001.out 2).trans rfl
              have hfz20_0 := blk_frozen BK57001.out 0
              have hfz20_1 := blk_frozen BK57001.out 1
              have hfz20_2 := blk_frozen BK57001.out 2
              go_wp2_with (first | (go_at_call 42; (with_reducible refine (spec_ShowOk.calls k _ _ l0_0 _ _ l0_1 a0_2 true _ ?side1 ?side2 ?side3 ?side4 A6.out).mono ?_); (case side1 => repeat (first | exact (Kd.C_below HR0_0.out HB.out) | (with_reducible refine Kd.C_alloc ?_ _) | (with_reducible refine Kd.C_drewN ?_ _) | (with_reducible refine Kd.C_drew ?_))); (case side2 => exact HC0_0.out); (case side3 => repeat (first | exact (Kd.C_below HR0_1.out HB.out) | (with_reducible refine Kd.C_alloc ?_ _) | (with_reducible refine Kd.C_drewN ?_ _) | (with_reducible refine Kd.C_drew ?_))); (case side4 => exact HC0_1.out); rintro e w21 ⟨rfl, hb⟩; have n0_ := Aside0.mk (blk_below (g := gb57001) (o := .cells #[.slice A0_0 l0_0.length c0_0, .slice A0_1 l0_1.length c0_1, .int .i64 a0_2] 66 (0, 0)) (by (with_reducible repeat (first | refine blk_drewN ?_ _ | refine blk_drew ?_ | refine blk_alloc ?_ _)); exact BK57001.out) hb); have n1_ := Aside0.mk (blk_below (g := gb57002) (o := .cells #[.int .i64 a1_0, .slice A1_1 l1_1.length c1_1, .slice A1_2 l1_2.length c1_2] 80 (0, 0)) (by (with_reducible repeat (first | refine blk_drewN ?_ _ | refine blk_drew ?_ | refine blk_alloc ?_ _)); exact BK57002.out) hb); have n2_ := Aside0.mk (below_step (by repeat (first | (with_reducible first | exact HB.out | apply below_alloc | apply pw_below_drewN | apply below_drew1 | refine below_set ?_ GE57001.out | refine below_set ?_ GE57002.out) | exact HB.out)) hb); clear BK57001; clear BK57002; clear HB; have BK57001 := n0_; have BK57002 := n1_; have HB := n2_; clear n0_ n1_ n2_; (try clear hb); (try clear hb2); (try clear hk); (try clear hi); have hcz22_0 : w21.cell? ⟨gb57002, 0, none⟩ = some (.int .i64 a1_0) := (blk_cell BK57002.out 0).trans rfl; have hcz22_1 : w21.cell? ⟨gb57002, 1, none⟩ = some (.slice A1_1 l1_1.length c1_1) := (blk_cell BK57002.out 1).trans rfl; have hcz22_2 : w21.cell? ⟨gb57002, 2, none⟩ = some (.slice A1_2 l1_2.length c1_2) := (blk_cell BK57002.out 2).trans rfl; have hfz22_0 := blk_frozen BK57002.out 0; have hfz22_1 := blk_frozen BK57002.out 1; have hfz22_2 := blk_frozen BK57002.out 2; have hcz23_0 : w21.cell? ⟨gb57001, 0, none⟩ = some (.slice A0_0 l0_0.length c0_0) := (blk_cell BK57001.out 0).trans rfl; have hcz23_1 : w21.cell? ⟨gb57001, 1, none⟩ = some (.slice A0_1 l0_1.length c0_1) := (blk_cell BK57001.out 1).trans rfl; have hcz23_2 : w21.cell? ⟨gb57001, 2, none⟩ = some (.int .i64 a0_2) := (blk_cell BK57001.out 2).trans rfl; have hfz23_0 := blk_frozen BK57001.out 0; have hfz23_1 := blk_frozen BK57001.out 1; have hfz23_2 := blk_frozen BK57001.out 2) | (go_at_call 87; (with_reducible refine (spec_l01In.calls a1_0 0 (wrap64 (a0_2 + 1)) true _ A8.out).mono ?_); rintro e w' ⟨rfl, ⟨nd, rfl⟩⟩; (try first | exact ⟨rfl, _, World.drewN_drewN _ _ _⟩ | exact ⟨rfl, _, Eq.trans (World.drewN_drewN _ _ _) (congrArg (World.drewN _) (Nat.add_assoc _ _ _))⟩); have p57005 : 0 ≤ (0 : Int) := (by omega); have q57005 : 0 < (l1_1.length : Int) := of_decide_eq_true (by first | (with_reducible assumption) | assumption); obtain ⟨ad57005, e57005, hx57005_0⟩ := Kd.at_int HR1_1.out 0 p57005 q57005; cases e57005; have qi57005 : (0 < l1_1.length) = True := eq_true (by omega); (try rw [show ((0 : Int)).toNat = 0 from rfl] at hx57005_0); (try rw [Addr.add_zero'] at hx57005_0); replace hx57005_0 := (HB.out.cell (World.block_lt_of_cell? w _ hx57005_0)).trans hx57005_0; replace p57005 := eq_true p57005; replace q57005 := eq_true q57005))
              repeat (go_quiet (first | (go_at_call 42; (with_reducible refine (spec_ShowOk.calls k _ _ l0_0 _ _ l0_1 a0_2 true _ ?side1 ?side2 ?side3 ?side4 A6.out).mono ?_); (case side1 => repeat (first | exact (Kd.C_below HR0_0.out HB.out) | (with_reducible refine Kd.C_alloc ?_ _) | (with_reducible refine Kd.C_drewN ?_ _) | (with_reducible refine Kd.C_drew ?_))); (case side2 => exact HC0_0.out); (case side3 => repeat (first | exact (Kd.C_below HR0_1.out HB.out) | (with_reducible refine Kd.C_alloc ?_ _) | (with_reducible refine Kd.C_drewN ?_ _) | (with_reducible refine Kd.C_drew ?_))); (case side4 => exact HC0_1.out); rintro e w21 ⟨rfl, hb⟩; have n0_ := Aside0.mk (blk_below (g := gb57001) (o := .cells #[.slice A0_0 l0_0.length c0_0, .slice A0_1 l0_1.length c0_1, .int .i64 a0_2] 66 (0, 0)) (by (with_reducible repeat (first | refine blk_drewN ?_ _ | refine blk_drew ?_ | refine blk_alloc ?_ _)); exact BK57001.out) hb); have n1_ := Aside0.mk (blk_below (g := gb57002) (o := .cells #[.int .i64 a1_0, .slice A1_1 l1_1.length c1_1, .slice A1_2 l1_2.length c1_2] 80 (0, 0)) (by (with_reducible repeat (first | refine blk_drewN ?_ _ | refine blk_drew ?_ | refine blk_alloc ?_ _)); exact BK57002.out) hb); have n2_ := Aside0.mk (below_step (by repeat (first | (with_reducible first | exact HB.out | apply below_alloc | apply pw_below_drewN | apply below_drew1 | refine below_set ?_ GE57001.out | refine below_set ?_ GE57002.out) | exact HB.out)) hb); clear BK57001; clear BK57002; clear HB; have BK57001 := n0_; have BK57002 := n1_; have HB := n2_; clear n0_ n1_ n2_; (try clear hb); (try clear hb2); (try clear hk); (try clear hi); have hcz22_0 : w21.cell? ⟨gb57002, 0, none⟩ = some (.int .i64 a1_0) := (blk_cell BK57002.out 0).trans rfl; have hcz22_1 : w21.cell? ⟨gb57002, 1, none⟩ = some (.slice A1_1 l1_1.length c1_1) := (blk_cell BK57002.out 1).trans rfl; have hcz22_2 : w21.cell? ⟨gb57002, 2, none⟩ = some (.slice A1_2 l1_2.length c1_2) := (blk_cell BK57002.out 2).trans rfl; have hfz22_0 := blk_frozen BK57002.out 0; have hfz22_1 := blk_frozen BK57002.out 1; have hfz22_2 := blk_frozen BK57002.out 2; have hcz23_0 : w21.cell? ⟨gb57001, 0, none⟩ = some (.slice A0_0 l0_0.length c0_0) := (blk_cell BK57001.out 0).trans rfl; have hcz23_1 : w21.cell? ⟨gb57001, 1, none⟩ = some (.slice A0_1 l0_1.length c0_1) := (blk_cell BK57001.out 1).trans rfl; have hcz23_2 : w21.cell? ⟨gb57001, 2, none⟩ = some (.int .i64 a0_2) := (blk_cell BK57001.out 2).trans rfl; have hfz23_0 := blk_frozen BK57001.out 0; have hfz23_1 := blk_frozen BK57001.out 1; have hfz23_2 := blk_frozen BK57001.out 2) | (go_at_call 87; (with_reducible refine (spec_l01In.calls a1_0 0 (wrap64 (a0_2 + 1)) true _ A8.out).mono ?_); rintro e w' ⟨rfl, ⟨nd, rfl⟩⟩; (try first | exact ⟨rfl, _, World.drewN_drewN _ _ _⟩ | exact ⟨rfl, _, Eq.trans (World.drewN_drewN _ _ _) (congrArg (World.drewN _) (Nat.add_assoc _ _ _))⟩); have p57005 : 0 ≤ (0 : Int) := (by omega); have q57005 : 0 < (l1_1.length : Int) := of_decide_eq_true (by first | (with_reducible assumption) | assumption); obtain ⟨ad57005, e57005, hx57005_0⟩ := Kd.at_int HR1_1.out 0 p57005 q57005; cases e57005; have qi57005 : (0 < l1_1.length) = True := eq_true (by omega); (try rw [show ((0 : Int)).toNat = 0 from rfl] at hx57005_0); (try rw [Addr.add_zero'] at hx57005_0); replace hx57005_0 := (HB.out.cell (World.block_lt_of_cell? w _ hx57005_0)).trans hx57005_0; replace p57005 := eq_true p57005; replace q57005 := eq_true q57005)); try go_wp2_with (first | (go_at_call 42; (with_reducible refine (spec_ShowOk.calls k _ _ l0_0 _ _ l0_1 a0_2 true _ ?side1 ?side2 ?side3 ?side4 A6.out).mono ?_); (case side1 => repeat (first | exact (Kd.C_below HR0_0.out HB.out) | (with_reducible refine Kd.C_alloc ?_ _) | (with_reducible refine Kd.C_drewN ?_ _) | (with_reducible refine Kd.C_drew ?_))); (case side2 => exact HC0_0.out); (case side3 => repeat (first | exact (Kd.C_below HR0_1.out HB.out) | (with_reducible refine Kd.C_alloc ?_ _) | (with_reducible refine Kd.C_drewN ?_ _) | (with_reducible refine Kd.C_drew ?_))); (case side4 => exact HC0_1.out); rintro e w21 ⟨rfl, hb⟩; have n0_ := Aside0.mk (blk_below (g := gb57001) (o := .cells #[.slice A0_0 l0_0.length c0_0, .slice A0_1 l0_1.length c0_1, .int .i64 a0_2] 66 (0, 0)) (by (with_reducible repeat (first | refine blk_drewN ?_ _ | refine blk_drew ?_ | refine blk_alloc ?_ _)); exact BK57001.out) hb); have n1_ := Aside0.mk (blk_below (g := gb57002) (o := .cells #[.int .i64 a1_0, .slice A1_1 l1_1.length c1_1, .slice A1_2 l1_2.length c1_2] 80 (0, 0)) (by (with_reducible repeat (first | refine blk_drewN ?_ _ | refine blk_drew ?_ | refine blk_alloc ?_ _)); exact BK57002.out) hb); have n2_ := Aside0.mk (below_step (by repeat (first | (with_reducible first | exact HB.out | apply below_alloc | apply pw_below_drewN | apply below_drew1 | refine below_set ?_ GE57001.out | refine below_set ?_ GE57002.out) | exact HB.out)) hb); clear BK57001; clear BK57002; clear HB; have BK57001 := n0_; have BK57002 := n1_; have HB := n2_; clear n0_ n1_ n2_; (try clear hb); (try clear hb2); (try clear hk); (try clear hi); have hcz22_0 : w21.cell? ⟨gb57002, 0, none⟩ = some (.int .i64 a1_0) := (blk_cell BK57002.out 0).trans rfl; have hcz22_1 : w21.cell? ⟨gb57002, 1, none⟩ = some (.slice A1_1 l1_1.length c1_1) := (blk_cell BK57002.out 1).trans rfl; have hcz22_2 : w21.cell? ⟨gb57002, 2, none⟩ = some (.slice A1_2 l1_2.length c1_2) := (blk_cell BK57002.out 2).trans rfl; have hfz22_0 := blk_frozen BK57002.out 0; have hfz22_1 := blk_frozen BK57002.out 1; have hfz22_2 := blk_frozen BK57002.out 2; have hcz23_0 : w21.cell? ⟨gb57001, 0, none⟩ = some (.slice A0_0 l0_0.length c0_0) := (blk_cell BK57001.out 0).trans rfl; have hcz23_1 : w21.cell? ⟨gb57001, 1, none⟩ = some (.slice A0_1 l0_1.length c0_1) := (blk_cell BK57001.out 1).trans rfl; have hcz23_2 : w21.cell? ⟨gb57001, 2, none⟩ = some (.int .i64 a0_2) := (blk_cell BK57001.out 2).trans rfl; have hfz23_0 := blk_frozen BK57001.out 0; have hfz23_1 := blk_frozen BK57001.out 1; have hfz23_2 := blk_frozen BK57001.out 2) | (go_at_call 87; (with_reducible refine (spec_l01In.calls a1_0 0 (wrap64 (a0_2 + 1)) true _ A8.out).mono ?_); rintro e w' ⟨rfl, ⟨nd, rfl⟩⟩; (try first | exact ⟨rfl, _, World.drewN_drewN _ _ _⟩ | exact ⟨rfl, _, Eq.trans (World.drewN_drewN _ _ _) (congrArg (World.drewN _) (Nat.add_assoc _ _ _))⟩); have p57005 : 0 ≤ (0 : Int) := (by omega); have q57005 : 0 < (l1_1.length : Int) := of_decide_eq_true (by first | (with_reducible assumption) | assumption); obtain ⟨ad57005, e57005, hx57005_0⟩ := Kd.at_int HR1_1.out 0 p57005 q57005; cases e57005; have qi57005 : (0 < l1_1.length) = True := eq_true (by omega); (try rw [show ((0 : Int)).toNat = 0 from rfl] at hx57005_0); (try rw [Addr.add_zero'] at hx57005_0); replace hx57005_0 := (HB.out.cell (World.block_lt_of_cell? w _ hx57005_0)).trans hx57005_0; replace p57005 := eq_true p57005; replace q57005 := eq_true q57005)))
              go_meet
              case rel => exact ⟨_, (true), (by first | rfl | (simp; done) | (simp [*]; done)), H', ⟨by first | omega | exact Nat.le_refl _⟩, ⟨by (with_reducible repeat (first | refine blk_drewN ?_ _ | refine blk_drew ?_ | refine blk_alloc ?_ _)); exact BK57001.out⟩, ⟨by (with_reducible repeat (first | refine blk_drewN ?_ _ | refine blk_drew ?_ | refine blk_alloc ?_ _)); exact BK57002.out⟩, ⟨by repeat (first | (with_reducible first | exact HB.out | apply below_alloc | apply pw_below_drewN | apply below_drew1 | refine below_set ?_ GE57001.out | refine below_set ?_ GE57002.out) | exact HB.out)⟩⟩
          · rw [if_neg c11] at H
            exact absurd H (by simp)
        · rw [if_neg c10] at H
          have c10b0 : ((l1_1.length : Int) == (l0_0.length : Int)) = false := beq_eq_false_iff_ne.mpr c10
          have c10b1 : ((l1_1.length : Int) != (l0_0.length : Int)) = true := bne_iff_ne.mpr c10
          have c10b2 : (l1_1.length == l0_0.length) = false := by first | simpa using c10 | (simp at c10 ⊢; omega)
          (first | rw [c10b0] | (simp only [i64_w, i32_w]; rw [c10b0]) | skip)
          have H' := Aside0.mk H
          clear H
          have hnb24 := NB57001_57002.out
          have hnc24 := NB57002_57001.out
          have hcz25_0 : w5.cell? ⟨gb57001, 0, none⟩ = some (.slice A0_0 l0_0.length c0_0) := (blk_cell BK57001.out 0).trans rfl
          have hcz25_1 : w5.cell? ⟨gb57001, 1, none⟩ = some (.slice A0_1 l0_1.length c0_1) := (blk_cell BK57001.out 1).trans rfl
          have hcz25_2 : w5.cell? ⟨gb57001, 2, none⟩ = some (.int .i64 a0_2) := (blk_cell BK57001.out 2).trans rfl
          have hfz25_0 := blk_frozen BK57001.out 0
          have hfz25_1 := blk_frozen BK57001.out 1
          have hfz25_2 := blk_frozen BK57001.out 2
          go_wp2_with (first | (go_at_call 42; (with_reducible refine (spec_ShowOk.calls k _ _ l0_0 _ _ l0_1 a0_2 true _ ?side1 ?side2 ?side3 ?side4 A6.out).mono ?_); (case side1 => repeat (first | exact (Kd.C_below HR0_0.out HB.out) | (with_reducible refine Kd.C_alloc ?_ _) | (with_reducible refine Kd.C_drewN ?_ _) | (with_reducible refine Kd.C_drew ?_))); (case side2 => exact HC0_0.out); (case side3 => repeat (first | exact (Kd.C_below HR0_1.out HB.out) | (with_reducible refine Kd.C_alloc ?_ _) | (with_reducible refine Kd.C_drewN ?_ _) | (with_reducible refine Kd.C_drew ?_))); (case side4 => exact HC0_1.out); rintro e w26 ⟨rfl, hb⟩; have n0_ := Aside0.mk (blk_below (g := gb57001) (o := .cells #[.slice A0_0 l0_0.length c0_0, .slice A0_1 l0_1.length c0_1, .int .i64 a0_2] 66 (0, 0)) (by (with_reducible repeat (first | refine blk_drewN ?_ _ | refine blk_drew ?_ | refine blk_alloc ?_ _)); exact BK57001.out) hb); have n1_ := Aside0.mk (blk_below (g := gb57002) (o := .cells #[.int .i64 a1_0, .slice A1_1 l1_1.length c1_1, .slice A1_2 l1_2.length c1_2] 80 (0, 0)) (by (with_reducible repeat (first | refine blk_drewN ?_ _ | refine blk_drew ?_ | refine blk_alloc ?_ _)); exact BK57002.out) hb); have n2_ := Aside0.mk (below_step (by repeat (first | (with_reducible first | exact HB.out | apply below_alloc | apply pw_below_drewN | apply below_drew1 | refine below_set ?_ GE57001.out | refine below_set ?_ GE57002.out) | exact HB.out)) hb); clear BK57001; clear BK57002; clear HB; have BK57001 := n0_; have BK57002 := n1_; have HB := n2_; clear n0_ n1_ n2_; (try clear hb); (try clear hb2); (try clear hk); (try clear hi); have hcz27_0 : w26.cell? ⟨gb57002, 0, none⟩ = some (.int .i64 a1_0) := (blk_cell BK57002.out 0).trans rfl; have hcz27_1 : w26.cell? ⟨gb57002, 1, none⟩ = some (.slice A1_1 l1_1.length c1_1) := (blk_cell BK57002.out 1).trans rfl; have hcz27_2 : w26.cell? ⟨gb57002, 2, none⟩ = some (.slice A1_2 l1_2.length c1_2) := (blk_cell BK57002.out 2).trans rfl; have hfz27_0 := blk_frozen BK57002.out 0; have hfz27_1 := blk_frozen BK57002.out 1; have hfz27_2 := blk_frozen BK57002.out 2; have hcz28_0 : w26.cell? ⟨gb57001, 0, none⟩ = some (.slice A0_0 l0_0.length c0_0) := (blk_cell BK57001.out 0).trans rfl; have hcz28_1 : w26.cell? ⟨gb57001, 1, none⟩ = some (.slice A0_1 l0_1.length c0_1) := (blk_cell BK57001.out 1).trans rfl; have hcz28_2 : w26.cell? ⟨gb57001, 2, none⟩ = some (.int .i64 a0_2) := (blk_cell BK57001.out 2).trans rfl; have hfz28_0 := blk_frozen BK57001.out 0; have hfz28_1 := blk_frozen BK57001.out 1; have hfz28_2 := blk_frozen BK57001.out 2) | (go_at_call 87; (with_reducible refine (spec_l01In.calls a1_0 0 (wrap64 (a0_2 + 1)) true _ A8.out).mono ?_); rintro e w' ⟨rfl, ⟨nd, rfl⟩⟩; (try first | exact ⟨rfl, _, World.drewN_drewN _ _ _⟩ | exact ⟨rfl, _, Eq.trans (World.drewN_drewN _ _ _) (congrArg (World.drewN _) (Nat.add_assoc _ _ _))⟩)))
          repeat (go_quiet (first | (go_at_call 42; (with_reducible refine (spec_ShowOk.calls k _ _ l0_0 _ _ l0_1 a0_2 true _ ?side1 ?side2 ?side3 ?side4 A6.out).mono ?_); (case side1 => repeat (first | exact (Kd.C_below HR0_0.out HB.out) | (with_reducible refine Kd.C_alloc ?_ _) | (with_reducible refine Kd.C_drewN ?_ _) | (with_reducible refine Kd.C_drew ?_))); (case side2 => exact HC0_0.out); (case side3 => repeat (first | exact (Kd.C_below HR0_1.out HB.out) | (with_reducible refine Kd.C_alloc ?_ _) | (with_reducible refine Kd.C_drewN ?_ _) | (with_reducible refine Kd.C_drew ?_))); (case side4 => exact HC0_1.out); rintro e w26 ⟨rfl, hb⟩; have n0_ := Aside0.mk (blk_below (g := gb57001) (o := .cells #[.slice A0_0 l0_0.length c0_0, .slice A0_1 l0_1.length c0_1, .int .i64 a0_2] 66 (0, 0)) (by (with_reducible repeat (first | refine blk_drewN ?_ _ | refine blk_drew ?_ | refine blk_alloc ?_ _)); exact BK57001.out) hb); have n1_ := Aside0.mk (blk_below (g := gb57002) (o := .cells #[.int .i64 a1_0, .slice A1_1 l1_1.length c1_1, .slice A1_2 l1_2.length c1_2] 80 (0, 0)) (by (with_reducible repeat (first | refine blk_drewN ?_ _ | refine blk_drew ?_ | refine blk_alloc ?_ _)); exact BK57002.out) hb); have n2_ := Aside0.mk (below_step (by repeat (first | (with_reducible first | exact HB.out | apply below_alloc | apply pw_below_drewN | apply below_drew1 | refine below_set ?_ GE57001.out | refine below_set ?_ GE57002.out) | exact HB.out)) hb); clear BK57001; clear BK57002; clear HB; have BK57001 := n0_; have BK57002 := n1_; have HB := n2_; clear n0_ n1_ n2_; (try clear hb); (try clear hb2); (try clear hk); (try clear hi); have hcz27_0 : w26.cell? ⟨gb57002, 0, none⟩ = some (.int .i64 a1_0) := (blk_cell BK57002.out 0).trans rfl; have hcz27_1 : w26.cell? ⟨gb57002, 1, none⟩ = some (.slice A1_1 l1_1.length c1_1) := (blk_cell BK57002.out 1).trans rfl; have hcz27_2 : w26.cell? ⟨gb57002, 2, none⟩ = some (.slice A1_2 l1_2.length c1_2) := (blk_cell BK57002.out 2).trans rfl; have hfz27_0 := blk_frozen BK57002.out 0; have hfz27_1 := blk_frozen BK57002.out 1; have hfz27_2 := blk_frozen BK57002.out 2; have hcz28_0 : w26.cell? ⟨gb57001, 0, none⟩ = some (.slice A0_0 l0_0.length c0_0) := (blk_cell BK57001.out 0).trans rfl; have hcz28_1 : w26.cell? ⟨gb57001, 1, none⟩ = some (.slice A0_1 l0_1.length c0_1) := (blk_cell BK57001.out 1).trans rfl; have hcz28_2 : w26.cell? ⟨gb57001, 2, none⟩ = some (.int .i64 a0_2) := (blk_cell BK57001.out 2).trans rfl; have hfz28_0 := blk_frozen BK57001.out 0; have hfz28_1 := blk_frozen BK57001.out 1; have hfz28_2 := blk_frozen BK57001.out 2) | (go_at_call 87; (with_reducible refine (spec_l01In.calls a1_0 0 (wrap64 (a0_2 + 1)) true _ A8.out).mono ?_); rintro e w' ⟨rfl, ⟨nd, rfl⟩⟩; (try first | exact ⟨rfl, _, World.drewN_drewN _ _ _⟩ | exact ⟨rfl, _, Eq.trans (World.drewN_drewN _ _ _) (congrArg (World.drewN _) (Nat.add_assoc _ _ _))⟩))); try go_wp2_with (first | (go_at_call 42; (with_reducible refine (spec_ShowOk.calls k _ _ l0_0 _ _ l0_1 a0_2 true _ ?side1 ?side2 ?side3 ?side4 A6.out).mono ?_); (case side1 => repeat (first | exact (Kd.C_below HR0_0.out HB.out) | (with_reducible refine Kd.C_alloc ?_ _) | (with_reducible refine Kd.C_drewN ?_ _) | (with_reducible refine Kd.C_drew ?_))); (case side2 => exact HC0_0.out); (case side3 => repeat (first | exact (Kd.C_below HR0_1.out HB.out) | (with_reducible refine Kd.C_alloc ?_ _) | (with_reducible refine Kd.C_drewN ?_ _) | (with_reducible refine Kd.C_drew ?_))); (case side4 => exact HC0_1.out); rintro e w26 ⟨rfl, hb⟩; have n0_ := Aside0.mk (blk_below (g := gb57001) (o := .cells #[.slice A0_0 l0_0.length c0_0, .slice A0_1 l0_1.length c0_1, .int .i64 a0_2] 66 (0, 0)) (by (with_reducible repeat (first | refine blk_drewN ?_ _ | refine blk_drew ?_ | refine blk_alloc ?_ _)); exact BK57001.out) hb); have n1_ := Aside0.mk (blk_below (g := gb57002) (o := .cells #[.int .i64 a1_0, .slice A1_1 l1_1.length c1_1, .slice A1_2 l1_2.length c1_2] 80 (0, 0)) (by (with_reducible repeat (first | refine blk_drewN ?_ _ | refine blk_drew ?_ | refine blk_alloc ?_ _)); exact BK57002.out) hb); have n2_ := Aside0.mk (below_step (by repeat (first | (with_reducible first | exact HB.out | apply below_alloc | apply pw_below_drewN | apply below_drew1 | refine below_set ?_ GE57001.out | refine below_set ?_ GE57002.out) | exact HB.out)) hb); clear BK57001; clear BK57002; clear HB; have BK57001 := n0_; have BK57002 := n1_; have HB := n2_; clear n0_ n1_ n2_; (try clear hb); (try clear hb2); (try clear hk); (try clear hi); have hcz27_0 : w26.cell? ⟨gb57002, 0, none⟩ = some (.int .i64 a1_0) := (blk_cell BK57002.out 0).trans rfl; have hcz27_1 : w26.cell? ⟨gb57002, 1, none⟩ = some (.slice A1_1 l1_1.length c1_1) := (blk_cell BK57002.out 1).trans rfl; have hcz27_2 : w26.cell? ⟨gb57002, 2, none⟩ = some (.slice A1_2 l1_2.length c1_2) := (blk_cell BK57002.out 2).trans rfl; have hfz27_0 := blk_frozen BK57002.out 0; have hfz27_1 := blk_frozen BK57002.out 1; have hfz27_2 := blk_frozen BK57002.out 2; have hcz28_0 : w26.cell? ⟨gb57001, 0, none⟩ = some (.slice A0_0 l0_0.length c0_0) := (blk_cell BK57001.out 0).trans rfl; have hcz28_1 : w26.cell? ⟨gb57001, 1, none⟩ = some (.slice A0_1 l0_1.length c0_1) := (blk_cell BK57001.out 1).trans rfl; have hcz28_2 : w26.cell? ⟨gb57001, 2, none⟩ = some (.int .i64 a0_2) := (blk_cell BK57001.out 2).trans rfl; have hfz28_0 := blk_frozen BK57001.out 0; have hfz28_1 := blk_frozen BK57001.out 1; have hfz28_2 := blk_frozen BK57001.out 2) | (go_at_call 87; (with_reducible refine (spec_l01In.calls a1_0 0 (wrap64 (a0_2 + 1)) true _ A8.out).mono ?_); rintro e w' ⟨rfl, ⟨nd, rfl⟩⟩; (try first | exact ⟨rfl, _, World.drewN_drewN _ _ _⟩ | exact ⟨rfl, _, Eq.trans (World.drewN_drewN _ _ _) (congrArg (World.drewN _) (Nat.add_assoc _ _ _))⟩))))
          go_meet
          case rel => exact ⟨_, (true), (by first | rfl | (simp; done) | (simp [*]; done)), H', ⟨by first | omega | exact Nat.le_refl _⟩, ⟨by (with_reducible repeat (first | refine blk_drewN ?_ _ | refine blk_drew ?_ | refine blk_alloc ?_ _)); exact BK57001.out⟩, ⟨by (with_reducible repeat (first | refine blk_drewN ?_ _ | refine blk_drew ?_ | refine blk_alloc ?_ _)); exact BK57002.out⟩, ⟨by repeat (first | (with_reducible first | exact HB.out | apply below_alloc | apply pw_below_drewN | apply below_drew1 | refine below_set ?_ GE57001.out | refine below_set ?_ GE57002.out) | exact HB.out)⟩⟩
      · replace c9 := Bool.eq_false_iff.mpr c9
        subst c9
        have H1 : (spec_StateOk.j0 k true l0_0 l0_1 a0_2 a1_0 l1_1 l1_2) = some r := by rw [if_neg (show ¬ (false = true) by decide)] at H; exact H
        clear H
        have H := H1
        clear H1
        have H' := Aside0.mk H
        clear H
        have hnb29 := NB57001_57002.out
        have hnc29 := NB57002_57001.out
        have hcz30_0 : w5.cell? ⟨gb57001, 0, none⟩ = some (.slice A0_0 l0_0.length c0_0) := (blk_cell BK57001.out 0).trans rfl
        have hcz30_1 : w5.cell? ⟨gb57001, 1, none⟩ = some (.slice A0_1 l0_1.length c0_1) := (blk_cell BK57001.out 1).trans rfl
        have hcz30_2 : w5.cell? ⟨gb57001, 2, none⟩ = some (.int .i64 a0_2) := (blk_cell BK57001.out 2).trans rfl
        have hfz30_0 := blk_frozen BK57001.out 0
        have hfz30_1 := blk_frozen BK57001.out 1
        have hfz30_2 := blk_frozen BK57001.out 2
        go_wp2_with (first | (go_at_call 42; (with_reducible refine (spec_ShowOk.calls k _ _ l0_0 _ _ l0_1 a0_2 true _ ?side1 ?side2 ?side3 ?side4 A6.out).mono ?_); (case side1 => repeat (first | exact (Kd.C_below HR0_0.out HB.out) | (with_reducible refine Kd.C_alloc ?_ _) | (with_reducible refine Kd.C_drewN ?_ _) | (with_reducible refine Kd.C_drew ?_))); (case side2 => exact HC0_0.out); (case side3 => repeat (first | exact (Kd.C_below HR0_1.out HB.out) | (with_reducible refine Kd.C_alloc ?_ _) | (with_reducible refine Kd.C_drewN ?_ _) | (with_reducible refine Kd.C_drew ?_))); (case side4 => exact HC0_1.out); rintro e w31 ⟨rfl, hb⟩; have n0_ := Aside0.mk (blk_below (g := gb57001) (o := .cells #[.slice A0_0 l0_0.length c0_0, .slice A0_1 l0_1.length c0_1, .int .i64 a0_2] 66 (0, 0)) (by (with_reducible repeat (first | refine blk_drewN ?_ _ | refine blk_drew ?_ | refine blk_alloc ?_ _)); exact BK57001.out) hb); have n1_ := Aside0.mk (blk_below (g := gb57002) (o := .cells #[.int .i64 a1_0, .slice A1_1 l1_1.length c1_1, .slice A1_2 l1_2.length c1_2] 80 (0, 0)) (by (with_reducible repeat (first | refine blk_drewN ?_ _ | refine blk_drew ?_ | refine blk_alloc ?_ _)); exact BK57002.out) hb); have n2_ := Aside0.mk (below_step (by repeat (first | (with_reducible first | exact HB.out | apply below_alloc | apply pw_below_drewN | apply below_drew1 | refine below_set ?_ GE57001.out | refine below_set ?_ GE57002.out) | exact HB.out)) hb); clear BK57001; clear BK57002; clear HB; have BK57001 := n0_; have BK57002 := n1_; have HB := n2_; clear n0_ n1_ n2_; (try clear hb); (try clear hb2); (try clear hk); (try clear hi); have hcz32_0 : w31.cell? ⟨gb57002, 0, none⟩ = some (.int .i64 a1_0) := (blk_cell BK57002.out 0).trans rfl; have hcz32_1 : w31.cell? ⟨gb57002, 1, none⟩ = some (.slice A1_1 l1_1.length c1_1) := (blk_cell BK57002.out 1).trans rfl; have hcz32_2 : w31.cell? ⟨gb57002, 2, none⟩ = some (.slice A1_2 l1_2.length c1_2) := (blk_cell BK57002.out 2).trans rfl; have hfz32_0 := blk_frozen BK57002.out 0; have hfz32_1 := blk_frozen BK57002.out 1; have hfz32_2 := blk_frozen BK57002.out 2; have hcz33_0 : w31.cell? ⟨gb57001, 0, none⟩ = some (.slice A0_0 l0_0.length c0_0) := (blk_cell BK57001.out 0).trans rfl; have hcz33_1 : w31.cell? ⟨gb57001, 1, none⟩ = some (.slice A0_1 l0_1.length c0_1) := (blk_cell BK57001.out 1).trans rfl; have hcz33_2 : w31.cell? ⟨gb57001, 2, none⟩ = some (.int .i64 a0_2) := (blk_cell BK57001.out 2).trans rfl; have hfz33_0 := blk_frozen BK57001.out 0; have hfz33_1 := blk_frozen BK57001.out 1; have hfz33_2 := blk_frozen BK57001.out 2) | (go_at_call 87; (with_reducible refine (spec_l01In.calls a1_0 0 (wrap64 (a0_2 + 1)) false _ A8.out).mono ?_); rintro e w' ⟨rfl, ⟨nd, rfl⟩⟩; (try first | exact ⟨rfl, _, World.drewN_drewN _ _ _⟩ | exact ⟨rfl, _, Eq.trans (World.drewN_drewN _ _ _) (congrArg (World.drewN _) (Nat.add_assoc _ _ _))⟩)))
        repeat (go_quiet (first | (go_at_call 42; (with_reducible refine (spec_ShowOk.calls k _ _ l0_0 _ _ l0_1 a0_2 true _ ?side1 ?side2 ?side3 ?side4 A6.out).mono ?_); (case side1 => repeat (first | exact (Kd.C_below HR0_0.out HB.out) | (with_reducible refine Kd.C_alloc ?_ _) | (with_reducible refine Kd.C_drewN ?_ _) | (with_reducible refine Kd.C_drew ?_))); (case side2 => exact HC0_0.out); (case side3 => repeat (first | exact (Kd.C_below HR0_1.out HB.out) | (with_reducible refine Kd.C_alloc ?_ _) | (with_reducible refine Kd.C_drewN ?_ _) | (with_reducible refine Kd.C_drew ?_))); (case side4 => exact HC0_1.out); rintro e w31 ⟨rfl, hb⟩; have n0_ := Aside0.mk (blk_below (g := gb57001) (o := .cells #[.slice A0_0 l0_0.length c0_0, .slice A0_1 l0_1.length c0_1, .int .i64 a0_2] 66 (0, 0)) (by (with_reducible repeat (first | refine blk_drewN ?_ _ | refine blk_drew ?_ | refine blk_alloc ?_ _)); exact BK57001.out) hb); have n1_ := Aside0.mk (blk_below (g := gb57002) (o := .cells #[.int .i64 a1_0, .slice A1_1 l1_1.length c1_1, .slice A1_2 l1_2.length c1_2] 80 (0, 0)) (by (with_reducible repeat (first | refine blk_drewN ?_ _ | refine blk_drew ?_ | refine blk_alloc ?_ _)); exact BK57002.out) hb); have n2_ := Aside0.mk (below_step (by repeat (first | (with_reducible first | exact HB.out | apply below_alloc | apply pw_below_drewN | apply below_drew1 | refine below_set ?_ GE57001.out | refine below_set ?_ GE57002.out) | exact HB.out)) hb); clear BK57001; clear BK57002; clear HB; have BK57001 := n0_; have BK57002 := n1_; have HB := n2_; clear n0_ n1_ n2_; (try clear hb); (try clear hb2); (try clear hk); (try clear hi); have hcz32_0 : w31.cell? ⟨gb57002, 0, none⟩ = some (.int .i64 a1_0) := (blk_cell BK57002.out 0).trans rfl; have hcz32_1 : w31.cell? ⟨gb57002, 1, none⟩ = some (.slice A1_1 l1_1.length c1_1) := (blk_cell BK57002.out 1).trans rfl; have hcz32_2 : w31.cell? ⟨gb57002, 2, none⟩ = some (.slice A1_2 l1_2.length c1_2) := (blk_cell BK57002.out 2).trans rfl; have hfz32_0 := blk_frozen BK57002.out 0; have hfz32_1 := blk_frozen BK57002.out 1; have hfz32_2 := blk_frozen BK57002.out 2; have hcz33_0 : w31.cell? ⟨gb57001, 0, none⟩ = some (.slice A0_0 l0_0.length c0_0) := (blk_cell BK57001.out 0).trans rfl; have hcz33_1 : w31.cell? ⟨gb57001, 1, none⟩ = some (.slice A0_1 l0_1.length c0_1) := (blk_cell BK57001.out 1).trans rfl; have hcz33_2 : w31.cell? ⟨gb57001, 2, none⟩ = some (.int .i64 a0_2) := (blk_cell BK57001.out 2).trans rfl; have hfz33_0 := blk_frozen BK57001.out 0; have hfz33_1 := blk_frozen BK57001.out 1; have hfz33_2 := blk_frozen BK57001.out 2) | (go_at_call 87; (with_reducible refine (spec_l01In.calls a1_0 0 (wrap64 (a0_2 + 1)) false _ A8.out).mono ?_); rintro e w' ⟨rfl, ⟨nd, rfl⟩⟩; (try first | exact ⟨rfl, _, World.drewN_drewN _ _ _⟩ | exact ⟨rfl, _, Eq.trans (World.drewN_drewN _ _ _) (congrArg (World.drewN _) (Nat.add_assoc _ _ _))⟩))); try go_wp2_with (first | (go_at_call 42; (with_reducible refine (spec_ShowOk.calls k _ _ l0_0 _ _ l0_1 a0_2 true _ ?side1 ?side2 ?side3 ?side4 A6.out).mono ?_); (case side1 => repeat (first | exact (Kd.C_below HR0_0.out HB.out) | (with_reducible refine Kd.C_alloc ?_ _) | (with_reducible refine Kd.C_drewN ?_ _) | (with_reducible refine Kd.C_drew ?_))); (case side2 => exact HC0_0.out); (case side3 => repeat (first | exact (Kd.C_below HR0_1.out HB.out) | (with_reducible refine Kd.C_alloc ?_ _) | (with_reducible refine Kd.C_drewN ?_ _) | (with_reducible refine Kd.C_drew ?_))); (case side4 => exact HC0_1.out); rintro e w31 ⟨rfl, hb⟩; have n0_ := Aside0.mk (blk_below (g := gb57001) (o := .cells #[.slice A0_0 l0_0.length c0_0, .slice A0_1 l0_1.length c0_1, .int .i64 a0_2] 66 (0, 0)) (by (with_reducible repeat (first | refine blk_drewN ?_ _ | refine blk_drew ?_ | refine blk_alloc ?_ _)); exact BK57001.out) hb); have n1_ := Aside0.mk (blk_below (g := gb57002) (o := .cells #[.int .i64 a1_0, .slice A1_1 l1_1.length c1_1, .slice A1_2 l1_2.length c1_2] 80 (0, 0)) (by (with_reducible repeat (first | refine blk_drewN ?_ _ | refine blk_drew ?_ | refine blk_alloc ?_ _)); exact BK57002.out) hb); have n2_ := Aside0.mk (below_step (by repeat (first | (with_reducible first | exact HB.out | apply below_alloc | apply pw_below_drewN | apply below_drew1 | refine below_set ?_ GE57001.out | refine below_set ?_ GE57002.out) | exact HB.out)) hb); clear BK57001; clear BK57002; clear HB; have BK57001 := n0_; have BK57002 := n1_; have HB := n2_; clear n0_ n1_ n2_; (try clear hb); (try clear hb2); (try clear hk); (try clear hi); have hcz32_0 : w31.cell? ⟨gb57002, 0, none⟩ = some (.int .i64 a1_0) := (blk_cell BK57002.out 0).trans rfl; have hcz32_1 : w31.cell? ⟨gb57002, 1, none⟩ = some (.slice A1_1 l1_1.length c1_1) := (blk_cell BK57002.out 1).trans rfl; have hcz32_2 : w31.cell? ⟨gb57002, 2, none⟩ = some (.slice A1_2 l1_2.length c1_2) := (blk_cell BK57002.out 2).trans rfl; have hfz32_0 := blk_frozen BK57002.out 0; have hfz32_1 := blk_frozen BK57002.out 1; have hfz32_2 := blk_frozen BK57002.out 2; have hcz33_0 : w31.cell? ⟨gb57001, 0, none⟩ = some (.slice A0_0 l0_0.length c0_0) := (blk_cell BK57001.out 0).trans rfl; have hcz33_1 : w31.cell? ⟨gb57001, 1, none⟩ = some (.slice A0_1 l0_1.length c0_1) := (blk_cell BK57001.out 1).trans rfl; have hcz33_2 : w31.cell? ⟨gb57001, 2, none⟩ = some (.int .i64 a0_2) := (blk_cell BK57001.out 2).trans rfl; have hfz33_0 := blk_frozen BK57001.out 0; have hfz33_1 := blk_frozen BK57001.out 1; have hfz33_2 := blk_frozen BK57001.out 2) | (go_at_call 87; (with_reducible refine (spec_l01In.calls a1_0 0 (wrap64 (a0_2 + 1)) false _ A8.out).mono ?_); rintro e w' ⟨rfl, ⟨nd, rfl⟩⟩; (try first | exact ⟨rfl, _, World.drewN_drewN _ _ _⟩ | exact ⟨rfl, _, Eq.trans (World.drewN_drewN _ _ _) (congrArg (World.drewN _) (Nat.add_assoc _ _ _))⟩))))
        go_meet
        case rel => exact ⟨_, (true), (by first | rfl | (simp; done) | (simp [*]; done)), H', ⟨by first | omega | exact Nat.le_refl _⟩, ⟨by (with_reducible repeat (first | refine blk_drewN ?_ _ | refine blk_drew ?_ | refine blk_alloc ?_ _)); exact BK57001.out⟩, ⟨by (with_reducible repeat (first | refine blk_drewN ?_ _ | refine blk_drew ?_ | refine blk_alloc ?_ _)); exact BK57002.out⟩, ⟨by repeat (first | (with_reducible first | exact HB.out | apply below_alloc | apply pw_below_drewN | apply below_drew1 | refine below_set ?_ GE57001.out | refine below_set ?_ GE57002.out) | exact HB.out)⟩⟩
    · replace c7 := Bool.eq_false_iff.mpr c7
      subst c7
      have H1 : (spec_StateOk.j0 k true l0_0 l0_1 a0_2 a1_0 l1_1 l1_2) = some r := by rw [if_neg (show ¬ (false = true) by decide)] at H; exact H
      clear H
      have H := H1
      clear H1
      have H' := Aside0.mk H
      clear H
      have hnb34 := NB57001_57002.out
      have hnc34 := NB57002_57001.out
      have hcz35_0 : w5.cell? ⟨gb57001, 0, none⟩ = some (.slice A0_0 l0_0.length c0_0) := (blk_cell BK57001.out 0).trans rfl
      have hcz35_1 : w5.cell? ⟨gb57001, 1, none⟩ = some (.slice A0_1 l0_1.length c0_1) := (blk_cell BK57001.out 1).trans rfl
      have hcz35_2 : w5.cell? ⟨gb57001, 2, none⟩ = some (.int .i64 a0_2) := (blk_cell BK57001.out 2).trans rfl
      have hfz35_0 := blk_frozen BK57001.out 0
      have hfz35_1 := blk_frozen BK57001.out 1
      have hfz35_2 := blk_frozen BK57001.out 2
      go_wp2_with (first | (go_at_call 42; (with_reducible refine (spec_ShowOk.calls k _ _ l0_0 _ _ l0_1 a0_2 false _ ?side1 ?side2 ?side3 ?side4 A6.out).mono ?_); (case side1 => repeat (first | exact (Kd.C_below HR0_0.out HB.out) | (with_reducible refine Kd.C_alloc ?_ _) | (with_reducible refine Kd.C_drewN ?_ _) | (with_reducible refine Kd.C_drew ?_))); (case side2 => exact HC0_0.out); (case side3 => repeat (first | exact (Kd.C_below HR0_1.out HB.out) | (with_reducible refine Kd.C_alloc ?_ _) | (with_reducible refine Kd.C_drewN ?_ _) | (with_reducible refine Kd.C_drew ?_))); (case side4 => exact HC0_1.out); rintro e w36 ⟨rfl, hb⟩; have n0_ := Aside0.mk (blk_below (g := gb57001) (o := .cells #[.slice A0_0 l0_0.length c0_0, .slice A0_1 l0_1.length c0_1, .int .i64 a0_2] 66 (0, 0)) (by (with_reducible repeat (first | refine blk_drewN ?_ _ | refine blk_drew ?_ | refine blk_alloc ?_ _)); exact BK57001.out) hb); have n1_ := Aside0.mk (blk_below (g := gb57002) (o := .cells #[.int .i64 a1_0, .slice A1_1 l1_1.length c1_1, .slice A1_2 l1_2.length c1_2] 80 (0, 0)) (by (with_reducible repeat (first | refine blk_drewN ?_ _ | refine blk_drew ?_ | refine blk_alloc ?_ _)); exact BK57002.out) hb); have n2_ := Aside0.mk (below_step (by repeat (first | (with_reducible first | exact HB.out | apply below_alloc | apply pw_below_drewN | apply below_drew1 | refine below_set ?_ GE57001.out | refine below_set ?_ GE57002.out) | exact HB.out)) hb); clear BK57001; clear BK57002; clear HB; have BK57001 := n0_; have BK57002 := n1_; have HB := n2_; clear n0_ n1_ n2_; (try clear hb); (try clear hb2); (try clear hk); (try clear hi)))
      repeat (go_quiet (first | (go_at_call 42; (with_reducible refine (spec_ShowOk.calls k _ _ l0_0 _ _ l0_1 a0_2 false _ ?side1 ?side2 ?side3 ?side4 A6.out).mono ?_); (case side1 => repeat (first | exact (Kd.C_below HR0_0.out HB.out) | (with_reducible refine Kd.C_alloc ?_ _) | (with_reducible refine Kd.C_drewN ?_ _) | (with_reducible refine Kd.C_drew ?_))); (case side2 => exact HC0_0.out); (case side3 => repeat (first | exact (Kd.C_below HR0_1.out HB.out) | (with_reducible refine Kd.C_alloc ?_ _) | (with_reducible refine Kd.C_drewN ?_ _) | (with_reducible refine Kd.C_drew ?_))); (case side4 => exact HC0_1.out); rintro e w36 ⟨rfl, hb⟩; have n0_ := Aside0.mk (blk_below (g := gb57001) (o := .cells #[.slice A0_0 l0_0.length c0_0, .slice A0_1 l0_1.length c0_1, .int .i64 a0_2] 66 (0, 0)) (by (with_reducible repeat (first | refine blk_drewN ?_ _ | refine blk_drew ?_ | refine blk_alloc ?_ _)); exact BK57001.out) hb); have n1_ := Aside0.mk (blk_below (g := gb57002) (o := .cells #[.int .i64 a1_0, .slice A1_1 l1_1.length c1_1, .slice A1_2 l1_2.length c1_2] 80 (0, 0)) (by (with_reducible repeat (first | refine blk_drewN ?_ _ | refine blk_drew ?_ | refine blk_alloc ?_ _)); exact BK57002.out) hb); have n2_ := Aside0.mk (below_step (by repeat (first | (with_reducible first | exact HB.out | apply below_alloc | apply pw_below_drewN | apply below_drew1 | refine below_set ?_ GE57001.out | refine below_set ?_ GE57002.out) | exact HB.out)) hb); clear BK57001; clear BK57002; clear HB; have BK57001 := n0_; have BK57002 := n1_; have HB := n2_; clear n0_ n1_ n2_; (try clear hb); (try clear hb2); (try clear hk); (try clear hi))); try go_wp2_with (first | (go_at_call 42; (with_reducible refine (spec_ShowOk.calls k _ _ l0_0 _ _ l0_1 a0_2 false _ ?side1 ?side2 ?side3 ?side4 A6.out).mono ?_); (case side1 => repeat (first | exact (Kd.C_below HR0_0.out HB.out) | (with_reducible refine Kd.C_alloc ?_ _) | (with_reducible refine Kd.C_drewN ?_ _) | (with_reducible refine Kd.C_drew ?_))); (case side2 => exact HC0_0.out); (case side3 => repeat (first | exact (Kd.C_below HR0_1.out HB.out) | (with_reducible refine Kd.C_alloc ?_ _) | (with_reducible refine Kd.C_drewN ?_ _) | (with_reducible refine Kd.C_drew ?_))); (case side4 => exact HC0_1.out); rintro e w36 ⟨rfl, hb⟩; have n0_ := Aside0.mk (blk_below (g := gb57001) (o := .cells #[.slice A0_0 l0_0.length c0_0, .slice A0_1 l0_1.length c0_1, .int .i64 a0_2] 66 (0, 0)) (by (with_reducible repeat (first | refine blk_drewN ?_ _ | refine blk_drew ?_ | refine blk_alloc ?_ _)); exact BK57001.out) hb); have n1_ := Aside0.mk (blk_below (g := gb57002) (o := .cells #[.int .i64 a1_0, .slice A1_1 l1_1.length c1_1, .slice A1_2 l1_2.length c1_2] 80 (0, 0)) (by (with_reducible repeat (first | refine blk_drewN ?_ _ | refine blk_drew ?_ | refine blk_alloc ?_ _)); exact BK57002.out) hb); have n2_ := Aside0.mk (below_step (by repeat (first | (with_reducible first | exact HB.out | apply below_alloc | apply pw_below_drewN | apply below_drew1 | refine below_set ?_ GE57001.out | refine below_set ?_ GE57002.out) | exact HB.out)) hb); clear BK57001; clear BK57002; clear HB; have BK57001 := n0_; have BK57002 := n1_; have HB := n2_; clear n0_ n1_ n2_; (try clear hb); (try clear hb2); (try clear hk); (try clear hi))))
      go_meet
      case rel => exact ⟨_, (true), (by first | rfl | (simp; done) | (simp [*]; done)), H', ⟨by first | omega | exact Nat.le_refl _⟩, ⟨by (with_reducible repeat (first | refine blk_drewN ?_ _ | refine blk_drew ?_ | refine blk_alloc ?_ _)); exact BK57001.out⟩, ⟨by (with_reducible repeat (first | refine blk_drewN ?_ _ | refine blk_drew ?_ | refine blk_alloc ?_ _)); exact BK57002.out⟩, ⟨by repeat (first | (with_reducible first | exact HB.out | apply below_alloc | apply pw_below_drewN | apply below_drew1 | refine below_set ?_ GE57001.out | refine below_set ?_ GE57002.out) | exact HB.out)⟩⟩
  case rest =>
    clear HC3
    try clear c1
    try clear c2
    try clear p2
    try clear c3
    try clear c5
    try clear p5
    try clear q5
    try clear hx5
    try clear qi5
    try clear p6
    try clear c7
    try clear c9
    try clear c10
    try clear c10b0
    try clear c10b1
    try clear c10b2
    try clear c11
    try clear c11b0
    try clear c11b1
    try clear c12
    try clear c12b0
    try clear c12b1
    try clear c14
    try clear c19
    try clear c24
    try clear c29
    try clear c34
    try clear hcz15_0
    try clear hcz15_1
    try clear hcz15_2
    try clear hcz17_0
    try clear hcz17_1
    try clear hcz17_2
    try clear hcz18_0
    try clear hcz18_1
    try clear hcz18_2
    try clear hcz20_0
    try clear hcz20_1
    try clear hcz20_2
    try clear hcz22_0
    try clear hcz22_1
    try clear hcz22_2
    try clear hcz23_0
    try clear hcz23_1
    try clear hcz23_2
    try clear hcz25_0
    try clear hcz25_1
    try clear hcz25_2
    try clear hcz27_0
    try clear hcz27_1
    try clear hcz27_2
    try clear hcz28_0
    try clear hcz28_1
    try clear hcz28_2
    try clear hcz30_0
    try clear hcz30_1
    try clear hcz30_2
    try clear hcz32_0
    try clear hcz32_1
    try clear hcz32_2
    try clear hcz33_0
    try clear hcz33_1
    try clear hcz33_2
    try clear hcz35_0
    try clear hcz35_1
    try clear hcz35_2
    try clear hfz15_0
    try clear hfz15_1
    try clear hfz15_2
    try clear hfz17_0
    try clear hfz17_1
    try clear hfz17_2
    try clear hfz18_0
    try clear hfz18_1
    try clear hfz18_2
    try clear hfz20_0
    try clear hfz20_1
    try clear hfz20_2
    try clear hfz22_0
    try clear hfz22_1
    try clear hfz22_2
    try clear hfz23_0
    try clear hfz23_1
    try clear hfz23_2
    try clear hfz25_0
    try clear hfz25_1
    try clear hfz25_2
    try clear hfz27_0
    try clear hfz27_1
    try clear hfz27_2
    try clear hfz28_0
    try clear hfz28_1
    try clear hfz28_2
    try clear hfz30_0
    try clear hfz30_1
    try clear hfz30_2
    try clear hfz32_0
    try clear hfz32_1
    try clear hfz32_2
    try clear hfz33_0
    try clear hfz33_1
    try clear hfz33_2
    try clear hfz35_0
    try clear hfz35_1
    try clear hfz35_2
    try clear hx57005_0
    try clear p57005
    try clear q57005
    obtain ⟨kq, x42_2, rfl, HA, HJ2, BK57001, BK57002, HB⟩ := hcut
    cases kq with
    | zero => exact absurd HA.out (by simp [spec_StateOk.j0])
    | succ kj2 =>
      have H := HA.out
      clear HA
      simp only [spec_StateOk.j0] at H
      by_cases c37 : x42_2 = true
      · subst c37
        have H1 : (some false) = some r := by rw [if_pos rfl] at H; exact H
        clear H
        have H := H1
        clear H1
        obtain rfl := Option.some.inj H
        go_wp2
        repeat (go_quiet (fail); try go_wp2)
        go_ret
        exact ⟨by first | rfl | (simp [errW_none, errW_some] <;> rfl) | (simp [*, errW_none, errW_some] <;> rfl), by repeat (first | (with_reducible first | exact HB.out | apply below_alloc | apply pw_below_drewN | apply below_drew1 | refine below_set ?_ GE57001.out | refine below_set ?_ GE57002.out) | exact HB.out)⟩
      · replace c37 := Bool.eq_false_iff.mpr c37
        subst c37
        have H1 : (spec_StateOk.l0 kj2 l1_1 (l1_1.length : Int) 0 l0_0 l0_1 a0_2 a1_0 l1_1 l1_2) = some r := by rw [if_neg (show ¬ (false = true) by decide)] at H; exact H
        clear H
        have H := H1
        clear H1
        have H' := Aside0.mk H
        clear H
        have hnb38 := NB57002_57001.out
        have hnc38 := NB57001_57002.out
        have hcz39_0 : wc.cell? ⟨gb57002, 0, none⟩ = some (.int .i64 a1_0) := (blk_cell BK57002.out 0).trans rfl
        have hcz39_1 : wc.cell? ⟨gb57002, 1, none⟩ = some (.slice A1_1 l1_1.length c1_1) := (blk_cell BK57002.out 1).trans rfl
        have hcz39_2 : wc.cell? ⟨gb57002, 2, none⟩ = some (.slice A1_2 l1_2.length c1_2) := (blk_cell BK57002.out 2).trans rfl
        have hfz39_0 := blk_frozen BK57002.out 0
        have hfz39_1 := blk_frozen BK57002.out 1
        have hfz39_2 := blk_frozen BK57002.out 2
        go_wp2
        repeat (go_quiet (fail); try go_wp2)
        go_loopg [46] kj2 (fun kq v46 w' => ∃ (x46_2 : Int), v46 = .int .i64 x46_2 ∧ Aside0 (spec_StateOk.l0 kq l1_1 (l1_1.length : Int) x46_2 l0_0 l0_1 a0_2 a1_0 l1_1 l1_2 = some r) ∧ Aside0 (kq ≤ kj2) ∧ Aside0 (w'.heap[gb57001]? = some (.cells #[(.slice A0_0 l0_0.length c0_0), (.slice A0_1 l0_1.length c0_1), .int .i64 a0_2] 66 (0, 0))) ∧ Aside0 (w'.heap[gb57002]? = some (.cells #[.int .i64 a1_0, (.slice A1_1 l1_1.length c1_1), (.slice A1_2 l1_2.length c1_2)] 80 (0, 0))) ∧ Aside0 (Below w.heap.size w w'))
        case atStart => exact ⟨(0), (by first | rfl | (simp; done) | (simp [*]; done)), H', ⟨Nat.le_refl _⟩, ⟨by (with_reducible repeat (first | refine blk_drewN ?_ _ | refine blk_drew ?_ | refine blk_alloc ?_ _)); exact BK57001.out⟩, ⟨by (with_reducible repeat (first | refine blk_drewN ?_ _ | refine blk_drew ?_ | refine blk_alloc ?_ _)); exact BK57002.out⟩, ⟨by repeat (first | (with_reducible first | exact HB.out | apply below_alloc | apply pw_below_drewN | apply below_drew1 | refine below_set ?_ GE57001.out | refine below_set ?_ GE57002.out) | exact HB.out)⟩⟩
        case round =>
          clear H'
          try clear c1
          try clear c2
          try clear p2
          try clear c3
          try clear c5
          try clear p5
          try clear q5
          try clear hx5
          try clear qi5
          try clear p6
          try clear c7
          try clear c9
          try clear c10
          try clear c10b0
          try clear c10b1
          try clear c10b2
          try clear c11
          try clear c11b0
          try clear c11b1
          try clear c12
          try clear c12b0
          try clear c12b1
          try clear c14
          try clear c19
          try clear c24
          try clear c29
          try clear c34
          try clear c37
          try clear c38
          try clear hcz15_0
          try clear hcz15_1
          try clear hcz15_2
          try clear hcz17_0
          try clear hcz17_1
          try clear hcz17_2
          try clear hcz18_0
          try clear hcz18_1
          try clear hcz18_2
          try clear hcz20_0
          try clear hcz20_1
          try clear hcz20_2
          try clear hcz22_0
          try clear hcz22_1
          try clear hcz22_2
          try clear hcz23_0
          try clear hcz23_1
          try clear hcz23_2
          try clear hcz25_0
          try clear hcz25_1
          try clear hcz25_2
          try clear hcz27_0
          try clear hcz27_1
          try clear hcz27_2
          try clear hcz28_0
          try clear hcz28_1
          try clear hcz28_2
          try clear hcz30_0
          try clear hcz30_1
          try clear hcz30_2
          try clear hcz32_0
          try clear hcz32_1
          try clear hcz32_2
          try clear hcz33_0
          try clear hcz33_1
          try clear hcz33_2
          try clear hcz35_0
          try clear hcz35_1
          try clear hcz35_2
          try clear hcz39_0
          try clear hcz39_1
          try clear hcz39_2
          try clear hfz15_0
          try clear hfz15_1
          try clear hfz15_2
          try clear hfz17_0
          try clear hfz17_1
          try clear hfz17_2
          try clear hfz18_0
          try clear hfz18_1
          try clear hfz18_2
          try clear hfz20_0
          try clear hfz20_1
          try clear hfz20_2
          try clear hfz22_0
          try clear hfz22_1
          try clear hfz22_2
          try clear hfz23_0
          try clear hfz23_1
          try clear hfz23_2
          try clear hfz25_0
          try clear hfz25_1
          try clear hfz25_2
          try clear hfz27_0
          try clear hfz27_1
          try clear hfz27_2
          try clear hfz28_0
          try clear hfz28_1
          try clear hfz28_2
          try clear hfz30_0
          try clear hfz30_1
          try clear hfz30_2
          try clear hfz32_0
          try clear hfz32_1
          try clear hfz32_2
          try clear hfz33_0
          try clear hfz33_1
          try clear hfz33_2
          try clear hfz35_0
          try clear hfz35_1
          try clear hfz35_2
          try clear hfz39_0
          try clear hfz39_1
          try clear hfz39_2
          try clear hx57005_0
          try clear p2
          try clear p5
          try clear p57005
          try clear p6
          try clear q5
          try clear q57005
          obtain ⟨x46_2, rfl, HA, HK2, BK57001, BK57002, HB⟩ := hrel
          cases gk with
          | zero => exact absurd HA.out (by simp [spec_StateOk.l0])
          | succ k2 =>
            have H := HA.out
            clear HA
            simp only [spec_StateOk.l0] at H
            by_cases c40 : x46_2 < (l1_1.length : Int)
            · rw [if_pos c40] at H
              have c40b0 : decide (x46_2 < (l1_1.length : Int)) = true := decide_eq_true c40
              clear c40
              by_cases c41 : 0 ≤ x46_2
              · rw [if_pos c41] at H
                have c41b0 : decide (0 ≤ x46_2) = true := decide_eq_true c41
                clear c41
                by_cases c42 : x46_2 < (l1_1.length : Int)
                · rw [if_pos c42] at H
                  have c42b0 : decide (x46_2 < (l1_1.length : Int)) = true := decide_eq_true c42
                  clear c42
                  by_cases c43 : x46_2 > 0
                  · rw [if_pos c43] at H
                    have c43b0 : decide (0 < x46_2) = true := decide_eq_true c43
                    clear c43
                    replace H := Option.bind_eq_some_iff.mp H
                    obtain ⟨t57008, A440, H⟩ := H
                    replace H : (if t57008 = true then (spec_StateOk.l0 k2 l1_1 (l1_1.length : Int) (wrap64 (x46_2 + 1)) l0_0 l0_1 a0_2 a1_0 l1_1 l1_2) else (some false)) = some r := H
                    have A44 := Aside0.mk A440
                    clear A440
                    by_cases c45 : t57008 = true
                    · subst c45
                      have H1 : (spec_StateOk.l0 k2 l1_1 (l1_1.length : Int) (wrap64 (x46_2 + 1)) l0_0 l0_1 a0_2 a1_0 l1_1 l1_2) = some r := by rw [if_pos rfl] at H; exact H
                      clear H
                      have H := H1
                      clear H1
                      have H' := Aside0.mk H
                      clear H
                      have p57007 : 0 ≤ (x46_2 : Int) := of_decide_eq_true (by first | (with_reducible assumption) | assumption)
                      have q57007 : x46_2 < (l1_1.length : Int) := of_decide_eq_true (by first | (with_reducible assumption) | assumption)
                      obtain ⟨ad57007, e57007, hx57007_0⟩ := Kd.at_int HR1_1.out x46_2 p57007 q57007
                      cases e57007
                      replace hx57007_0 := (HB.out.cell (World.block_lt_of_cell? w _ hx57007_0)).trans hx57007_0
                      replace p57007 := eq_true p57007
                      replace q57007 := eq_true q57007
                      have hnb46 := NB57002_57001.out
                      have hnc46 := NB57001_57002.out
                      have hcz47_0 : wr.cell? ⟨gb57002, 0, none⟩ = some (.int .i64 a1_0) := (blk_cell BK57002.out 0).trans rfl
                      have hcz47_1 : wr.cell? ⟨gb57002, 1, none⟩ = some (.slice (some ad57007) l1_1.length c1_1) := (blk_cell BK57002.out 1).trans rfl
                      have hcz47_2 : wr.cell? ⟨gb57002, 2, none⟩ = some (.slice A1_2 l1_2.length c1_2) := (blk_cell BK57002.out 2).trans rfl
                      have hfz47_0 := blk_frozen BK57002.out 0
                      have hfz47_1 := blk_frozen BK57002.out 1
                      have hfz47_2 := blk_frozen BK57002.out 2
                      go_wp2_with (first | (go_at_call 87; (with_reducible refine (spec_l01In.calls (rd l1_1 x46_2) (-1) (wrap64 (a1_0 - 1)) true _ A44.out).mono ?_); rintro e w' ⟨rfl, ⟨nd, rfl⟩⟩; (try first | exact ⟨rfl, _, World.drewN_drewN _ _ _⟩ | exact ⟨rfl, _, Eq.trans (World.drewN_drewN _ _ _) (congrArg (World.drewN _) (Nat.add_assoc _ _ _))⟩)))
                      repeat (go_quiet (first | (go_at_call 87; (with_reducible refine (spec_l01In.calls (rd l1_1 x46_2) (-1) (wrap64 (a1_0 - 1)) true _ A44.out).mono ?_); rintro e w' ⟨rfl, ⟨nd, rfl⟩⟩; (try first | exact ⟨rfl, _, World.drewN_drewN _ _ _⟩ | exact ⟨rfl, _, Eq.trans (World.drewN_drewN _ _ _) (congrArg (World.drewN _) (Nat.add_assoc _ _ _))⟩))); try go_wp2_with (first | (go_at_call 87; (with_reducible refine (spec_l01In.calls (rd l1_1 x46_2) (-1) (wrap64 (a1_0 - 1)) true _ A44.out).mono ?_); rintro e w' ⟨rfl, ⟨nd, rfl⟩⟩; (try first | exact ⟨rfl, _, World.drewN_drewN _ _ _⟩ | exact ⟨rfl, _, Eq.trans (World.drewN_drewN _ _ _) (congrArg (World.drewN _) (Nat.add_assoc _ _ _))⟩))))
                      go_roundg k2
                      case measure => have := HJ2.out; have := HK2.out; omega
                      case rel => exact ⟨(wrap64 (x46_2 + 1)), (by first | rfl | (simp; done) | (simp [*]; done)), H', ⟨by have := HJ2.out; have := HK2.out; omega⟩, ⟨by (with_reducible repeat (first | refine blk_drewN ?_ _ | refine blk_drew ?_ | refine blk_alloc ?_ _)); exact BK57001.out⟩, ⟨by (with_reducible repeat (first | refine blk_drewN ?_ _ | refine blk_drew ?_ | refine blk_alloc ?_ _)); exact BK57002.out⟩, ⟨by repeat (first | (with_reducible first | exact HB.out | apply below_alloc | apply pw_below_drewN | apply below_drew1 | refine below_set ?_ GE57001.out | refine below_set ?_ GE57002.out) | exact HB.out)⟩⟩
                    · replace c45 := Bool.eq_false_iff.mpr c45
                      subst c45
                      have H1 : (some false) = some r := by rw [if_neg (show ¬ (false = true) by decide)] at H; exact H
                      clear H
                      have H := H1
                      clear H1
                      obtain rfl := Option.some.inj H
                      have p57007 : 0 ≤ (x46_2 : Int) := of_decide_eq_true (by first | (with_reducible assumption) | assumption)
                      have q57007 : x46_2 < (l1_1.length : Int) := of_decide_eq_true (by first | (with_reducible assumption) | assumption)
                      obtain ⟨ad57007, e57007, hx57007_0⟩ := Kd.at_int HR1_1.out x46_2 p57007 q57007
                      cases e57007
                      replace hx57007_0 := (HB.out.cell (World.block_lt_of_cell? w _ hx57007_0)).trans hx57007_0
                      replace p57007 := eq_true p57007
                      replace q57007 := eq_true q57007
                      have hnb48 := NB57002_57001.out
                      have hnc48 := NB57001_57002.out
                      have hcz49_0 : wr.cell? ⟨gb57002, 0, none⟩ = some (.int .i64 a1_0) := (blk_cell BK57002.out 0).trans rfl
                      have hcz49_1 : wr.cell? ⟨gb57002, 1, none⟩ = some (.slice (some ad57007) l1_1.length c1_1) := (blk_cell BK57002.out 1).trans rfl
                      have hcz49_2 : wr.cell? ⟨gb57002, 2, none⟩ = some (.slice A1_2 l1_2.length c1_2) := (blk_cell BK57002.out 2).trans rfl
                      have hfz49_0 := blk_frozen BK57002.out 0
                      have hfz49_1 := blk_frozen BK57002.out 1
                      have hfz49_2 := blk_frozen BK57002.out 2
                      go_wp2_with (first | (go_at_call 87; (with_reducible refine (spec_l01In.calls (rd l1_1 x46_2) (-1) (wrap64 (a1_0 - 1)) false _ A44.out).mono ?_); rintro e w' ⟨rfl, ⟨nd, rfl⟩⟩; (try first | exact ⟨rfl, _, World.drewN_drewN _ _ _⟩ | exact ⟨rfl, _, Eq.trans (World.drewN_drewN _ _ _) (congrArg (World.drewN _) (Nat.add_assoc _ _ _))⟩)))
                      repeat (go_quiet (first | (go_at_call 87; (with_reducible refine (spec_l01In.calls (rd l1_1 x46_2) (-1) (wrap64 (a1_0 - 1)) false _ A44.out).mono ?_); rintro e w' ⟨rfl, ⟨nd, rfl⟩⟩; (try first | exact ⟨rfl, _, World.drewN_drewN _ _ _⟩ | exact ⟨rfl, _, Eq.trans (World.drewN_drewN _ _ _) (congrArg (World.drewN _) (Nat.add_assoc _ _ _))⟩))); try go_wp2_with (first | (go_at_call 87; (with_reducible refine (spec_l01In.calls (rd l1_1 x46_2) (-1) (wrap64 (a1_0 - 1)) false _ A44.out).mono ?_); rintro e w' ⟨rfl, ⟨nd, rfl⟩⟩; (try first | exact ⟨rfl, _, World.drewN_drewN _ _ _⟩ | exact ⟨rfl, _, Eq.trans (World.drewN_drewN _ _ _) (congrArg (World.drewN _) (Nat.add_assoc _ _ _))⟩))))
                      go_ret
                      exact ⟨by first | rfl | (simp [errW_none, errW_some] <;> rfl) | (simp [*, errW_none, errW_some] <;> rfl), by repeat (first | (with_reducible first | exact HB.out | apply below_alloc | apply pw_below_drewN | apply below_drew1 | refine below_set ?_ GE57001.out | refine below_set ?_ GE57002.out) | exact HB.out)⟩
                  · rw [if_neg c43] at H
                    have c43b0 : decide (0 < x46_2) = false := decide_eq_false c43
                    clear c43
                    have H' := Aside0.mk H
                    clear H
                    have p57007 : 0 ≤ (x46_2 : Int) := of_decide_eq_true (by first | (with_reducible assumption) | assumption)
                    have q57007 : x46_2 < (l1_1.length : Int) := of_decide_eq_true (by first | (with_reducible assumption) | assumption)
                    obtain ⟨ad57007, e57007, hx57007_0⟩ := Kd.at_int HR1_1.out x46_2 p57007 q57007
                    cases e57007
                    replace hx57007_0 := (HB.out.cell (World.block_lt_of_cell? w _ hx57007_0)).trans hx57007_0
                    replace p57007 := eq_true p57007
                    replace q57007 := eq_true q57007
                    go_wp2
                    repeat (go_quiet (fail); try go_wp2)
                    go_roundg k2
                    case measure => have := HJ2.out; have := HK2.out; omega
                    case rel => exact ⟨(wrap64 (x46_2 + 1)), (by first | rfl | (simp; done) | (simp [*]; done)), H', ⟨by have := HJ2.out; have := HK2.out; omega⟩, ⟨by (with_reducible repeat (first | refine blk_drewN ?_ _ | refine blk_drew ?_ | refine blk_alloc ?_ _)); exact BK57001.out⟩, ⟨by (with_reducible repeat (first | refine blk_drewN ?_ _ | refine blk_drew ?_ | refine blk_alloc ?_ _)); exact BK57002.out⟩, ⟨by repeat (first | (with_reducible first | exact HB.out | apply below_alloc | apply pw_below_drewN | apply below_drew1 | refine below_set ?_ GE57001.out | refine below_set ?_ GE57002.out) | exact HB.out)⟩⟩
                · rw [if_neg c42] at H
                  exact absurd H (by simp)
              · rw [if_neg c41] at H
                exact absurd H (by simp)
            · rw [if_neg c40] at H
              have c40b0 : decide (x46_2 < (l1_1.length : Int)) = false := decide_eq_false c40
              clear c40
              have H' := Aside0.mk H
              clear H
              go_wp2
              repeat (go_quiet (fail); try go_wp2)
              go_loopg [7] k2 (fun kq v7 w' => ∃ (x7_3 : Int), v7 = .int .i64 x7_3 ∧ Aside0 (spec_StateOk.l1 kq x7_3 l0_0 l0_1 a0_2 a1_0 l1_1 l1_2 = some r) ∧ Aside0 (kq ≤ k2) ∧ Aside0 (w'.heap[gb57001]? = some (.cells #[(.slice A0_0 l0_0.length c0_0), (.slice A0_1 l0_1.length c0_1), .int .i64 a0_2] 66 (0, 0))) ∧ Aside0 (w'.heap[gb57002]? = some (.cells #[.int .i64 a1_0, (.slice A1_1 l1_1.length c1_1), (.slice A1_2 l1_2.length c1_2)] 80 (0, 0))) ∧ Aside0 (Below w.heap.size w w'))
              case atStart => exact ⟨(1), (by first | rfl | (simp; done) | (simp [*]; done)), H', ⟨Nat.le_refl _⟩, ⟨by (with_reducible repeat (first | refine blk_drewN ?_ _ | refine blk_drew ?_ | refine blk_alloc ?_ _)); exact BK57001.out⟩, ⟨by (with_reducible repeat (first | refine blk_drewN ?_ _ | refine blk_drew ?_ | refine blk_alloc ?_ _)); exact BK57002.out⟩, ⟨by repeat (first | (with_reducible first | exact HB.out | apply below_alloc | apply pw_below_drewN | apply below_drew1 | refine below_set ?_ GE57001.out | refine below_set ?_ GE57002.out) | exact HB.out)⟩⟩
              case round =>
                clear H'
                try clear c1
                try clear c2
                try clear p2
                try clear c3
                try clear c4
                try clear c5
                try clear p5
                try clear q5
                try clear hx5
                try clear qi5
                try clear p6
                try clear c7
                try clear c9
                try clear c10
                try clear c10b0
                try clear c10b1
                try clear c10b2
                try clear c11
                try clear c11b0
                try clear c11b1
                try clear c12
                try clear c12b0
                try clear c12b1
                try clear c14
                try clear c19
                try clear c24
                try clear c29
                try clear c34
                try clear c37
                try clear c38
                try clear c40
                try clear c40b0
                try clear c41
                try clear c41b0
                try clear c42
                try clear c42b0
                try clear c43
                try clear c43b0
                try clear c45
                try clear c46
                try clear c48
                try clear hcz15_0
                try clear hcz15_1
                try clear hcz15_2
                try clear hcz17_0
                try clear hcz17_1
                try clear hcz17_2
                try clear hcz18_0
                try clear hcz18_1
                try clear hcz18_2
                try clear hcz20_0
                try clear hcz20_1
                try clear hcz20_2
                try clear hcz22_0
                try clear hcz22_1
                try clear hcz22_2
                try clear hcz23_0
                try clear hcz23_1
                try clear hcz23_2
                try clear hcz25_0
                try clear hcz25_1
                try clear hcz25_2
                try clear hcz27_0
                try clear hcz27_1
                try clear hcz27_2
                try clear hcz28_0
                try clear hcz28_1
                try clear hcz28_2
                try clear hcz30_0
                try clear hcz30_1
                try clear hcz30_2
                try clear hcz32_0
                try clear hcz32_1
                try clear hcz32_2
                try clear hcz33_0
                try clear hcz33_1
                try clear hcz33_2
                try clear hcz35_0
                try clear hcz35_1
                try clear hcz35_2
                try clear hcz39_0
                try clear hcz39_1
                try clear hcz39_2
                try clear hcz47_0
                try clear hcz47_1
                try clear hcz47_2
                try clear hcz49_0
                try clear hcz49_1
                try clear hcz49_2
                try clear hfz15_0
                try clear hfz15_1
                try clear hfz15_2
                try clear hfz17_0
                try clear hfz17_1
                try clear hfz17_2
                try clear hfz18_0
                try clear hfz18_1
                try clear hfz18_2
                try clear hfz20_0
                try clear hfz20_1
                try clear hfz20_2
                try clear hfz22_0
                try clear hfz22_1
                try clear hfz22_2
                try clear hfz23_0
                try clear hfz23_1
                try clear hfz23_2
                try clear hfz25_0
                try clear hfz25_1
                try clear hfz25_2
                try clear hfz27_0
                try clear hfz27_1
                try clear hfz27_2
                try clear hfz28_0
                try clear hfz28_1
                try clear hfz28_2
                try clear hfz30_0
                try clear hfz30_1
                try clear hfz30_2
                try clear hfz32_0
                try clear hfz32_1
                try clear hfz32_2
                try clear hfz33_0
                try clear hfz33_1
                try clear hfz33_2
                try clear hfz35_0
                try clear hfz35_1
                try clear hfz35_2
                try clear hfz39_0
                try clear hfz39_1
                try clear hfz39_2
                try clear hfz47_0
                try clear hfz47_1
                try clear hfz47_2
                try clear hfz49_0
                try clear hfz49_1
                try clear hfz49_2
                try clear hx57005_0
                try clear hx57007_0
                try clear p2
                try clear p5
                try clear p57005
                try clear p57007
                try clear p6
                try clear q5
                try clear q57005
                try clear q57007
                obtain ⟨x7_3, rfl, HA, HK3, BK57001, BK57002, HB⟩ := hrel
                cases gk with
                | zero => exact absurd HA.out (by simp [spec_StateOk.l1])
                | succ k3 =>
                  have H := HA.out
                  clear HA
                  simp only [spec_StateOk.l1] at H
                  by_cases c50 : x7_3 ≤ 3
                  · rw [if_pos c50] at H
                    have c50b0 : decide (x7_3 ≤ 3) = true := decide_eq_true c50
                    clear c50
                    replace H := Option.bind_eq_some_iff.mp H
                    obtain ⟨t57009, A510, H⟩ := H
                    replace H : (if 0 ≤ (wrap64 (x7_3 - 1)) then (if (wrap64 (x7_3 - 1)) < (l1_2.length : Int) then (if t57009 ≥ 0 then (if 0 ≤ t57009 then (if t57009 < (l1_1.length : Int) then (if (((rd l1_2 (wrap64 (x7_3 - 1))) != 0) != ((rd l1_1 t57009) != (-1))) = true then (some false) else (spec_StateOk.l1 k3 (wrap64 (x7_3 + 1)) l0_0 l0_1 a0_2 a1_0 l1_1 l1_2)) else (none)) else (none)) else (if (((rd l1_2 (wrap64 (x7_3 - 1))) != 0) != false) = true then (some false) else (spec_StateOk.l1 k3 (wrap64 (x7_3 + 1)) l0_0 l0_1 a0_2 a1_0 l1_1 l1_2))) else (none)) else (none)) = some r := H
                    have A51 := Aside0.mk A510
                    clear A510
                    obtain ⟨ji52, hji52⟩ : ∃ j_ : Int, (wrap64 (x7_3 - 1)) = j_ := ⟨_, rfl⟩
                    replace H : (if 0 ≤ (ji52) then (if (ji52) < (l1_2.length : Int) then (if t57009 ≥ 0 then (if 0 ≤ t57009 then (if t57009 < (l1_1.length : Int) then (if (((rd l1_2 (ji52)) != 0) != ((rd l1_1 t57009) != (-1))) = true then (some false) else (spec_StateOk.l1 k3 (wrap64 (x7_3 + 1)) l0_0 l0_1 a0_2 a1_0 l1_1 l1_2)) else (none)) else (none)) else (if (((rd l1_2 (ji52)) != 0) != false) = true then (some false) else (spec_StateOk.l1 k3 (wrap64 (x7_3 + 1)) l0_0 l0_1 a0_2 a1_0 l1_1 l1_2))) else (none)) else (none)) = some r := by first | (rw [hji52] at H; exact H) | (simp only [hji52] at H ⊢; exact H)
                    (try rw [hji52] at A51)
                    have hji52w : (IntKind.i64.wrap (x7_3 - 1)) = ji52 := (i64_w _).trans hji52
                    by_cases c53 : 0 ≤ (ji52)
                    · rw [if_pos c53] at H
                      have c53b0 : decide (0 ≤ (ji52)) = true := decide_eq_true c53
                      clear c53
                      by_cases c54 : (ji52) < (l1_2.length : Int)
                      · rw [if_pos c54] at H
                        have c54b0 : decide ((ji52) < (l1_2.length : Int)) = true := decide_eq_true c54
                        clear c54
                        by_cases c55 : t57009 ≥ 0
                        · rw [if_pos c55] at H
                          have c55b0 : decide (0 ≤ t57009) = true := decide_eq_true c55
                          clear c55
                          by_cases c56 : 0 ≤ t57009
                          · rw [if_pos c56] at H
                            have c56b0 : decide (0 ≤ t57009) = true := decide_eq_true c56
                            clear c56
                            by_cases c57 : t57009 < (l1_1.length : Int)
                            · rw [if_pos c57] at H
                              have c57b0 : decide (t57009 < (l1_1.length : Int)) = true := decide_eq_true c57
                              clear c57
                              by_cases c58 : (((rd l1_2 (ji52)) != 0) != ((rd l1_1 t57009) != (-1))) = true
                              · rw [if_pos c58] at H
                                have c58b0 : (((rd l1_2 (ji52)) != 0) != ((rd l1_1 t57009) != (-1))) = true := c58
                                (try (have c58b1 : decide (((rd l1_2 (ji52)) != 0) = ((rd l1_1 t57009) != (-1))) = false := by simpa using c58))
                                (try (have c58b2 : (((rd l1_2 (ji52)) != 0) == ((rd l1_1 t57009) != (-1))) = false := by simpa using c58))
                                (try (have c58b3 : ¬ (((rd l1_2 (ji52)) != 0) = ((rd l1_1 t57009) != (-1))) := by simpa using c58))
                                clear c58
                                obtain rfl := Option.some.inj H
                                have hnb59 := NB57001_57002.out
                                have hnc59 := NB57002_57001.out
                                have hcz60_0 : wr.cell? ⟨gb57001, 0, none⟩ = some (.slice A0_0 l0_0.length c0_0) := (blk_cell BK57001.out 0).trans rfl
                                have hcz60_1 : wr.cell? ⟨gb57001, 1, none⟩ = some (.slice A0_1 l0_1.length c0_1) := (blk_cell BK57001.out 1).trans rfl
                                have hcz60_2 : wr.cell? ⟨gb57001, 2, none⟩ = some (.int .i64 a0_2) := (blk_cell BK57001.out 2).trans rfl
                                have hfz60_0 := blk_frozen BK57001.out 0
                                have hfz60_1 := blk_frozen BK57001.out 1
                                have hfz60_2 := blk_frozen BK57001.out 2
                                go_wp2_with (first | (go_at_call 101; (with_reducible refine (spec_l08Watcher.calls k3 _ _ l0_0 _ _ l0_1 a0_2 x7_3 t57009 _ ?side1 ?side2 ?side3 ?side4 A51.out).mono ?_); (case side1 => repeat (first | exact (Kd.C_below HR0_0.out HB.out) | (with_reducible refine Kd.C_alloc ?_ _) | (with_reducible refine Kd.C_drewN ?_ _) | (with_reducible refine Kd.C_drew ?_))); (case side2 => exact HC0_0.out); (case side3 => repeat (first | exact (Kd.C_below HR0_1.out HB.out) | (with_reducible refine Kd.C_alloc ?_ _) | (with_reducible refine Kd.C_drewN ?_ _) | (with_reducible refine Kd.C_drew ?_))); (case side4 => exact HC0_1.out); rintro e w61 ⟨rfl, hb⟩; have n0_ := Aside0.mk (blk_below (g := gb57001) (o := .cells #[.slice A0_0 l0_0.length c0_0, .slice A0_1 l0_1.length c0_1, .int .i64 a0_2] 66 (0, 0)) (by (with_reducible repeat (first | refine blk_drewN ?_ _ | refine blk_drew ?_ | refine blk_alloc ?_ _)); exact BK57001.out) hb); have n1_ := Aside0.mk (blk_below (g := gb57002) (o := .cells #[.int .i64 a1_0, .slice A1_1 l1_1.length c1_1, .slice A1_2 l1_2.length c1_2] 80 (0, 0)) (by (with_reducible repeat (first | refine blk_drewN ?_ _ | refine blk_drew ?_ | refine blk_alloc ?_ _)); exact BK57002.out) hb); have n2_ := Aside0.mk (below_step (by repeat (first | (with_reducible first | exact HB.out | apply below_alloc | apply pw_below_drewN | apply below_drew1 | refine below_set ?_ GE57001.out | refine below_set ?_ GE57002.out) | exact HB.out)) hb); clear BK57001; clear BK57002; clear HB; have BK57001 := n0_; have BK57002 := n1_; have HB := n2_; clear n0_ n1_ n2_; (try clear hb); (try clear hb2); (try clear hk); (try clear hi); have hcz62_0 : w61.cell? ⟨gb57002, 0, none⟩ = some (.int .i64 a1_0) := (blk_cell BK57002.out 0).trans rfl; have hcz62_1 : w61.cell? ⟨gb57002, 1, none⟩ = some (.slice A1_1 l1_1.length c1_1) := (blk_cell BK57002.out 1).trans rfl; have hcz62_2 : w61.cell? ⟨gb57002, 2, none⟩ = some (.slice A1_2 l1_2.length c1_2) := (blk_cell BK57002.out 2).trans rfl; have hfz62_0 := blk_frozen BK57002.out 0; have hfz62_1 := blk_frozen BK57002.out 1; have hfz62_2 := blk_frozen BK57002.out 2; have p57010 : 0 ≤ ((ji52) : Int) := of_decide_eq_true (by first | (with_reducible assumption) | assumption); have q57010 : (ji52) < (l1_2.length : Int) := of_decide_eq_true (by first | (with_reducible assumption) | assumption); obtain ⟨ad57010, e57010, hx57010_0⟩ := Kd.at_int HR1_2.out (ji52) p57010 q57010; cases e57010; replace hx57010_0 := (HB.out.cell (World.block_lt_of_cell? w _ hx57010_0)).trans hx57010_0; replace p57010 := eq_true p57010; replace q57010 := eq_true q57010; have p57011 : 0 ≤ (t57009 : Int) := of_decide_eq_true (by first | (with_reducible assumption) | assumption); have q57011 : t57009 < (l1_1.length : Int) := of_decide_eq_true (by first | (with_reducible assumption) | assumption); obtain ⟨ad57011, e57011, hx57011_0⟩ := Kd.at_int HR1_1.out t57009 p57011 q57011; cases e57011; replace hx57011_0 := (HB.out.cell (World.block_lt_of_cell? w _ hx57011_0)).trans hx57011_0; replace p57011 := eq_true p57011; replace q57011 := eq_true q57011))
                                repeat (go_quiet (first | (go_at_call 101; (with_reducible refine (spec_l08Watcher.calls k3 _ _ l0_0 _ _ l0_1 a0_2 x7_3 t57009 _ ?side1 ?side2 ?side3 ?side4 A51.out).mono ?_); (case side1 => repeat (first | exact (Kd.C_below HR0_0.out HB.out) | (with_reducible refine Kd.C_alloc ?_ _) | (with_reducible refine Kd.C_drewN ?_ _) | (with_reducible refine Kd.C_drew ?_))); (case side2 => exact HC0_0.out); (case side3 => repeat (first | exact (Kd.C_below HR0_1.out HB.out) | (with_reducible refine Kd.C_alloc ?_ _) | (with_reducible refine Kd.C_drewN ?_ _) | (with_reducible refine Kd.C_drew ?_))); (case side4 => exact HC0_1.out); rintro e w61 ⟨rfl, hb⟩; have n0_ := Aside0.mk (blk_below (g := gb57001) (o := .cells #[.slice A0_0 l0_0.length c0_0, .slice A0_1 l0_1.length c0_1, .int .i64 a0_2] 66 (0, 0)) (by (with_reducible repeat (first | refine blk_drewN ?_ _ | refine blk_drew ?_ | refine blk_alloc ?_ _)); exact BK57001.out) hb); have n1_ := Aside0.mk (blk_below (g := gb57002) (o := .cells #[.int .i64 a1_0, .slice A1_1 l1_1.length c1_1, .slice A1_2 l1_2.length c1_2] 80 (0, 0)) (by (with_reducible repeat (first | refine blk_drewN ?_ _ | refine blk_drew ?_ | refine blk_alloc ?_ _)); exact BK57002.out) hb); have n2_ := Aside0.mk (below_step (by repeat (first | (with_reducible first | exact HB.out | apply below_alloc | apply pw_below_drewN | apply below_drew1 | refine below_set ?_ GE57001.out | refine below_set ?_ GE57002.out) | exact HB.out)) hb); clear BK57001; clear BK57002; clear HB; have BK57001 := n0_; have BK57002 := n1_; have HB := n2_; clear n0_ n1_ n2_; (try clear hb); (try clear hb2); (try clear hk); (try clear hi); have hcz62_0 : w61.cell? ⟨gb57002, 0, none⟩ = some (.int .i64 a1_0) := (blk_cell BK57002.out 0).trans rfl; have hcz62_1 : w61.cell? ⟨gb57002, 1, none⟩ = some (.slice A1_1 l1_1.length c1_1) := (blk_cell BK57002.out 1).trans rfl; have hcz62_2 : w61.cell? ⟨gb57002, 2, none⟩ = some (.slice A1_2 l1_2.length c1_2) := (blk_cell BK57002.out 2).trans rfl; have hfz62_0 := blk_frozen BK57002.out 0; have hfz62_1 := blk_frozen BK57002.out 1; have hfz62_2 := blk_frozen BK57002.out 2; have p57010 : 0 ≤ ((ji52) : Int) := of_decide_eq_true (by first | (with_reducible assumption) | assumption); have q57010 : (ji52) < (l1_2.length : Int) := of_decide_eq_true (by first | (with_reducible assumption) | assumption); obtain ⟨ad57010, e57010, hx57010_0⟩ := Kd.at_int HR1_2.out (ji52) p57010 q57010; cases e57010; replace hx57010_0 := (HB.out.cell (World.block_lt_of_cell? w _ hx57010_0)).trans hx57010_0; replace p57010 := eq_true p57010; replace q57010 := eq_true q57010; have p57011 : 0 ≤ (t57009 : Int) := of_decide_eq_true (by first | (with_reducible assumption) | assumption); have q57011 : t57009 < (l1_1.length : Int) := of_decide_eq_true (by first | (with_reducible assumption) | assumption); obtain ⟨ad57011, e57011, hx57011_0⟩ := Kd.at_int HR1_1.out t57009 p57011 q57011; cases e57011; replace hx57011_0 := (HB.out.cell (World.block_lt_of_cell? w _ hx57011_0)).trans hx57011_0; replace p57011 := eq_true p57011; replace q57011 := eq_true q57011)); try go_wp2_with (first | (go_at_call 101; (with_reducible refine (spec_l08Watcher.calls k3 _ _ l0_0 _ _ l0_1 a0_2 x7_3 t57009 _ ?side1 ?side2 ?side3 ?side4 A51.out).mono ?_); (case side1 => repeat (first | exact (Kd.C_below HR0_0.out HB.out) | (with_reducible refine Kd.C_alloc ?_ _) | (with_reducible refine Kd.C_drewN ?_ _) | (with_reducible refine Kd.C_drew ?_))); (case side2 => exact HC0_0.out); (case side3 => repeat (first | exact (Kd.C_below HR0_1.out HB.out) | (with_reducible refine Kd.C_alloc ?_ _) | (with_reducible refine Kd.C_drewN ?_ _) | (with_reducible refine Kd.C_drew ?_))); (case side4 => exact HC0_1.out); rintro e w61 ⟨rfl, hb⟩; have n0_ := Aside0.mk (blk_below (g := gb57001) (o := .cells #[.slice A0_0 l0_0.length c0_0, .slice A0_1 l0_1.length c0_1, .int .i64 a0_2] 66 (0, 0)) (by (with_reducible repeat (first | refine blk_drewN ?_ _ | refine blk_drew ?_ | refine blk_alloc ?_ _)); exact BK57001.out) hb); have n1_ := Aside0.mk (blk_below (g := gb57002) (o := .cells #[.int .i64 a1_0, .slice A1_1 l1_1.length c1_1, .slice A1_2 l1_2.length c1_2] 80 (0, 0)) (by (with_reducible repeat (first | refine blk_drewN ?_ _ | refine blk_drew ?_ | refine blk_alloc ?_ _)); exact BK57002.out) hb); have n2_ := Aside0.mk (below_step (by repeat (first | (with_reducible first | exact HB.out | apply below_alloc | apply pw_below_drewN | apply below_drew1 | refine below_set ?_ GE57001.out | refine below_set ?_ GE57002.out) | exact HB.out)) hb); clear BK57001; clear BK57002; clear HB; have BK57001 := n0_; have BK57002 := n1_; have HB := n2_; clear n0_ n1_ n2_; (try clear hb); (try clear hb2); (try clear hk); (try clear hi); have hcz62_0 : w61.cell? ⟨gb57002, 0, none⟩ = some (.int .i64 a1_0) := (blk_cell BK57002.out 0).trans rfl; have hcz62_1 : w61.cell? ⟨gb57002, 1, none⟩ = some (.slice A1_1 l1_1.length c1_1) := (blk_cell BK57002.out 1).trans rfl; have hcz62_2 : w61.cell? ⟨gb57002, 2, none⟩ = some (.slice A1_2 l1_2.length c1_2) := (blk_cell BK57002.out 2).trans rfl; have hfz62_0 := blk_frozen BK57002.out 0; have hfz62_1 := blk_frozen BK57002.out 1; have hfz62_2 := blk_frozen BK57002.out 2; have p57010 : 0 ≤ ((ji52) : Int) := of_decide_eq_true (by first | (with_reducible assumption) | assumption); have q57010 : (ji52) < (l1_2.length : Int) := of_decide_eq_true (by first | (with_reducible assumption) | assumption); obtain ⟨ad57010, e57010, hx57010_0⟩ := Kd.at_int HR1_2.out (ji52) p57010 q57010; cases e57010; replace hx57010_0 := (HB.out.cell (World.block_lt_of_cell? w _ hx57010_0)).trans hx57010_0; replace p57010 := eq_true p57010; replace q57010 := eq_true q57010; have p57011 : 0 ≤ (t57009 : Int) := of_decide_eq_true (by first | (with_reducible assumption) | assumption); have q57011 : t57009 < (l1_1.length : Int) := of_decide_eq_true (by first | (with_reducible assumption) | assumption); obtain ⟨ad57011, e57011, hx57011_0⟩ := Kd.at_int HR1_1.out t57009 p57011 q57011; cases e57011; replace hx57011_0 := (HB.out.cell (World.block_lt_of_cell? w _ hx57011_0)).trans hx57011_0; replace p57011 := eq_true p57011; replace q57011 := eq_true q57011)))
                                go_ret
                                exact ⟨by first | rfl | (simp [errW_none, errW_some] <;> rfl) | (simp only [← hji52]; first | rfl | (simp [errW_none, errW_some] <;> rfl)) | (simp [*, errW_none, errW_some] <;> rfl), by repeat (first | (with_reducible first | exact HB.out | apply below_alloc | apply pw_below_drewN | apply below_drew1 | refine below_set ?_ GE57001.out | refine below_set ?_ GE57002.out) | exact HB.out)⟩
                              · rw [if_neg c58] at H
                                have c58b0 : (((rd l1_2 (ji52)) != 0) != ((rd l1_1 t57009) != (-1))) = false := by simpa using c58
                                (try (have c58b1 : decide (((rd l1_2 (ji52)) != 0) = ((rd l1_1 t57009) != (-1))) = true := by simpa using c58))
                                (try (have c58b2 : (((rd l1_2 (ji52)) != 0) == ((rd l1_1 t57009) != (-1))) = true := by simpa using c58))
                                clear c58
                                have H' := Aside0.mk H
                                clear H
                                have hnb63 := NB57001_57002.out
                                have hnc63 := NB57002_57001.out
                                have hcz64_0 : wr.cell? ⟨gb57001, 0, none⟩ = some (.slice A0_0 l0_0.length c0_0) := (blk_cell BK57001.out 0).trans rfl
                                have hcz64_1 : wr.cell? ⟨gb57001, 1, none⟩ = some (.slice A0_1 l0_1.length c0_1) := (blk_cell BK57001.out 1).trans rfl
                                have hcz64_2 : wr.cell? ⟨gb57001, 2, none⟩ = some (.int .i64 a0_2) := (blk_cell BK57001.out 2).trans rfl
                                have hfz64_0 := blk_frozen BK57001.out 0
                                have hfz64_1 := blk_frozen BK57001.out 1
                                have hfz64_2 := blk_frozen BK57001.out 2
                                go_wp2_with (first | (go_at_call 101; (with_reducible refine (spec_l08Watcher.calls k3 _ _ l0_0 _ _ l0_1 a0_2 x7_3 t57009 _ ?side1 ?side2 ?side3 ?side4 A51.out).mono ?_); (case side1 => repeat (first | exact (Kd.C_below HR0_0.out HB.out) | (with_reducible refine Kd.C_alloc ?_ _) | (with_reducible refine Kd.C_drewN ?_ _) | (with_reducible refine Kd.C_drew ?_))); (case side2 => exact HC0_0.out); (case side3 => repeat (first | exact (Kd.C_below HR0_1.out HB.out) | (with_reducible refine Kd.C_alloc ?_ _) | (with_reducible refine Kd.C_drewN ?_ _) | (with_reducible refine Kd.C_drew ?_))); (case side4 => exact HC0_1.out); rintro e w65 ⟨rfl, hb⟩; have n0_ := Aside0.mk (blk_below (g := gb57001) (o := .cells #[.slice A0_0 l0_0.length c0_0, .slice A0_1 l0_1.length c0_1, .int .i64 a0_2] 66 (0, 0)) (by (with_reducible repeat (first | refine blk_drewN ?_ _ | refine blk_drew ?_ | refine blk_alloc ?_ _)); exact BK57001.out) hb); have n1_ := Aside0.mk (blk_below (g := gb57002) (o := .cells #[.int .i64 a1_0, .slice A1_1 l1_1.length c1_1, .slice A1_2 l1_2.length c1_2] 80 (0, 0)) (by (with_reducible repeat (first | refine blk_drewN ?_ _ | refine blk_drew ?_ | refine blk_alloc ?_ _)); exact BK57002.out) hb); have n2_ := Aside0.mk (below_step (by repeat (first | (with_reducible first | exact HB.out | apply below_alloc | apply pw_below_drewN | apply below_drew1 | refine below_set ?_ GE57001.out | refine below_set ?_ GE57002.out) | exact HB.out)) hb); clear BK57001; clear BK57002; clear HB; have BK57001 := n0_; have BK57002 := n1_; have HB := n2_; clear n0_ n1_ n2_; (try clear hb); (try clear hb2); (try clear hk); (try clear hi); have hcz66_0 : w65.cell? ⟨gb57002, 0, none⟩ = some (.int .i64 a1_0) := (blk_cell BK57002.out 0).trans rfl; have hcz66_1 : w65.cell? ⟨gb57002, 1, none⟩ = some (.slice A1_1 l1_1.length c1_1) := (blk_cell BK57002.out 1).trans rfl; have hcz66_2 : w65.cell? ⟨gb57002, 2, none⟩ = some (.slice A1_2 l1_2.length c1_2) := (blk_cell BK57002.out 2).trans rfl; have hfz66_0 := blk_frozen BK57002.out 0; have hfz66_1 := blk_frozen BK57002.out 1; have hfz66_2 := blk_frozen BK57002.out 2; have p57010 : 0 ≤ ((ji52) : Int) := of_decide_eq_true (by first | (with_reducible assumption) | assumption); have q57010 : (ji52) < (l1_2.length : Int) := of_decide_eq_true (by first | (with_reducible assumption) | assumption); obtain ⟨ad57010, e57010, hx57010_0⟩ := Kd.at_int HR1_2.out (ji52) p57010 q57010; cases e57010; replace hx57010_0 := (HB.out.cell (World.block_lt_of_cell? w _ hx57010_0)).trans hx57010_0; replace p57010 := eq_true p57010; replace q57010 := eq_true q57010; have p57011 : 0 ≤ (t57009 : Int) := of_decide_eq_true (by first | (with_reducible assumption) | assumption); have q57011 : t57009 < (l1_1.length : Int) := of_decide_eq_true (by first | (with_reducible assumption) | assumption); obtain ⟨ad57011, e57011, hx57011_0⟩ := Kd.at_int HR1_1.out t57009 p57011 q57011; cases e57011; replace hx57011_0 := (HB.out.cell (World.block_lt_of_cell? w _ hx57011_0)).trans hx57011_0; replace p57011 := eq_true p57011; replace q57011 := eq_true q57011))
                                repeat (go_quiet (first | (go_at_call 101; (with_reducible refine (spec_l08Watcher.calls k3 _ _ l0_0 _ _ l0_1 a0_2 x7_3 t57009 _ ?side1 ?side2 ?side3 ?side4 A51.out).mono ?_); (case side1 => repeat (first | exact (Kd.C_below HR0_0.out HB.out) | (with_reducible refine Kd.C_alloc ?_ _) | (with_reducible refine Kd.C_drewN ?_ _) | (with_reducible refine Kd.C_drew ?_))); (case side2 => exact HC0_0.out); (case side3 => repeat (first | exact (Kd.C_below HR0_1.out HB.out) | (with_reducible refine Kd.C_alloc ?_ _) | (with_reducible refine Kd.C_drewN ?_ _) | (with_reducible refine Kd.C_drew ?_))); (case side4 => exact HC0_1.out); rintro e w65 ⟨rfl, hb⟩; have n0_ := Aside0.mk (blk_below (g := gb57001) (o := .cells #[.slice A0_0 l0_0.length c0_0, .slice A0_1 l0_1.length c0_1, .int .i64 a0_2] 66 (0, 0)) (by (with_reducible repeat (first | refine blk_drewN ?_ _ | refine blk_drew ?_ | refine blk_alloc ?_ _)); exact BK57001.out) hb); have n1_ := Aside0.mk (blk_below (g := gb57002) (o := .cells #[.int .i64 a1_0, .slice A1_1 l1_1.length c1_1, .slice A1_2 l1_2.length c1_2] 80 (0, 0)) (by (with_reducible repeat (first | refine blk_drewN ?_ _ | refine blk_drew ?_ | refine blk_alloc ?_ _)); exact BK57002.out) hb); have n2_ := Aside0.mk (below_step (by repeat (first | (with_reducible first | exact HB.out | apply below_alloc | apply pw_below_drewN | apply below_drew1 | refine below_set ?_ GE57001.out | refine below_set ?_ GE57002.out) | exact HB.out)) hb); clear BK57001; clear BK57002; clear HB; have BK57001 := n0_; have BK57002 := n1_; have HB := n2_; clear n0_ n1_ n2_; (try clear hb); (try clear hb2); (try clear hk); (try clear hi); have hcz66_0 : w65.cell? ⟨gb57002, 0, none⟩ = some (.int .i64 a1_0) := (blk_cell BK57002.out 0).trans rfl; have hcz66_1 : w65.cell? ⟨gb57002, 1, none⟩ = some (.slice A1_1 l1_1.length c1_1) := (blk_cell BK57002.out 1).trans rfl; have hcz66_2 : w65.cell? ⟨gb57002, 2, none⟩ = some (.slice A1_2 l1_2.length c1_2) := (blk_cell BK57002.out 2).trans rfl; have hfz66_0 := blk_frozen BK57002.out 0; have hfz66_1 := blk_frozen BK57002.out 1; have hfz66_2 := blk_frozen BK57002.out 2; have p57010 : 0 ≤ ((ji52) : Int) := of_decide_eq_true (by first | (with_reducible assumption) | assumption); have q57010 : (ji52) < (l1_2.length : Int) := of_decide_eq_true (by first | (with_reducible assumption) | assumption); obtain ⟨ad57010, e57010, hx57010_0⟩ := Kd.at_int HR1_2.out (ji52) p57010 q57010; cases e57010; replace hx57010_0 := (HB.out.cell (World.block_lt_of_cell? w _ hx57010_0)).trans hx57010_0; replace p57010 := eq_true p57010; replace q57010 := eq_true q57010; have p57011 : 0 ≤ (t57009 : Int) := of_decide_eq_true (by first | (with_reducible assumption) | assumption); have q57011 : t57009 < (l1_1.length : Int) := of_decide_eq_true (by first | (with_reducible assumption) | assumption); obtain ⟨ad57011, e57011, hx57011_0⟩ := Kd.at_int HR1_1.out t57009 p57011 q57011; cases e57011; replace hx57011_0 := (HB.out.cell (World.block_lt_of_cell? w _ hx57011_0)).trans hx57011_0; replace p57011 := eq_true p57011; replace q57011 := eq_true q57011)); try go_wp2_with (first | (go_at_call 101; (with_reducible refine (spec_l08Watcher.calls k3 _ _ l0_0 _ _ l0_1 a0_2 x7_3 t57009 _ ?side1 ?side2 ?side3 ?side4 A51.out).mono ?_); (case side1 => repeat (first | exact (Kd.C_below HR0_0.out HB.out) | (with_reducible refine Kd.C_alloc ?_ _) | (with_reducible refine Kd.C_drewN ?_ _) | (with_reducible refine Kd.C_drew ?_))); (case side2 => exact HC0_0.out); (case side3 => repeat (first | exact (Kd.C_below HR0_1.out HB.out) | (with_reducible refine Kd.C_alloc ?_ _) | (with_reducible refine Kd.C_drewN ?_ _) | (with_reducible refine Kd.C_drew ?_))); (case side4 => exact HC0_1.out); rintro e w65 ⟨rfl, hb⟩; have n0_ := Aside0.mk (blk_below (g := gb57001) (o := .cells #[.slice A0_0 l0_0.length c0_0, .slice A0_1 l0_1.length c0_1, .int .i64 a0_2] 66 (0, 0)) (by (with_reducible repeat (first | refine blk_drewN ?_ _ | refine blk_drew ?_ | refine blk_alloc ?_ _)); exact BK57001.out) hb); have n1_ := Aside0.mk (blk_below (g := gb57002) (o := .cells #[.int .i64 a1_0, .slice A1_1 l1_1.length c1_1, .slice A1_2 l1_2.length c1_2] 80 (0, 0)) (by (with_reducible repeat (first | refine blk_drewN ?_ _ | refine blk_drew ?_ | refine blk_alloc ?_ _)); exact BK57002.out) hb); have n2_ := Aside0.mk (below_step (by repeat (first | (with_reducible first | exact HB.out | apply below_alloc | apply pw_below_drewN | apply below_drew1 | refine below_set ?_ GE57001.out | refine below_set ?_ GE57002.out) | exact HB.out)) hb); clear BK57001; clear BK57002; clear HB; have BK57001 := n0_; have BK57002 := n1_; have HB := n2_; clear n0_ n1_ n2_; (try clear hb); (try clear hb2); (try clear hk); (try clear hi); have hcz66_0 : w65.cell? ⟨gb57002, 0, none⟩ = some (.int .i64 a1_0) := (blk_cell BK57002.out 0).trans rfl; have hcz66_1 : w65.cell? ⟨gb57002, 1, none⟩ = some (.slice A1_1 l1_1.length c1_1) := (blk_cell BK57002.out 1).trans rfl; have hcz66_2 : w65.cell? ⟨gb57002, 2, none⟩ = some (.slice A1_2 l1_2.length c1_2) := (blk_cell BK57002.out 2).trans rfl; have hfz66_0 := blk_frozen BK57002.out 0; have hfz66_1 := blk_frozen BK57002.out 1; have hfz66_2 := blk_frozen BK57002.out 2; have p57010 : 0 ≤ ((ji52) : Int) := of_decide_eq_true (by first | (with_reducible assumption) | assumption); have q57010 : (ji52) < (l1_2.length : Int) := of_decide_eq_true (by first | (with_reducible assumption) | assumption); obtain ⟨ad57010, e57010, hx57010_0⟩ := Kd.at_int HR1_2.out (ji52) p57010 q57010; cases e57010; replace hx57010_0 := (HB.out.cell (World.block_lt_of_cell? w _ hx57010_0)).trans hx57010_0; replace p57010 := eq_true p57010; replace q57010 := eq_true q57010; have p57011 : 0 ≤ (t57009 : Int) := of_decide_eq_true (by first | (with_reducible assumption) | assumption); have q57011 : t57009 < (l1_1.length : Int) := of_decide_eq_true (by first | (with_reducible assumption) | assumption); obtain ⟨ad57011, e57011, hx57011_0⟩ := Kd.at_int HR1_1.out t57009 p57011 q57011; cases e57011; replace hx57011_0 := (HB.out.cell (World.block_lt_of_cell? w _ hx57011_0)).trans hx57011_0; replace p57011 := eq_true p57011; replace q57011 := eq_true q57011)))
                                go_roundg k3
                                case measure => have := HJ2.out; have := HK2.out; have := HK3.out; omega
                                case rel => exact ⟨(wrap64 (x7_3 + 1)), (by first | rfl | (simp; done) | (simp [*]; done)), H', ⟨by have := HJ2.out; have := HK2.out; have := HK3.out; omega⟩, ⟨by (with_reducible repeat (first | refine blk_drewN ?_ _ | refine blk_drew ?_ | refine blk_alloc ?_ _)); exact BK57001.out⟩, ⟨by (with_reducible repeat (first | refine blk_drewN ?_ _ | refine blk_drew ?_ | refine blk_alloc ?_ _)); exact BK57002.out⟩, ⟨by repeat (first | (with_reducible first | exact HB.out | apply below_alloc | apply pw_below_drewN | apply below_drew1 | refine below_set ?_ GE57001.out | refine below_set ?_ GE57002.out) | exact HB.out)⟩⟩
                            · rw [if_neg c57] at H
                              exact absurd H (by simp)
                          · rw [if_neg c56] at H
                            exact absurd H (by simp)
                        · rw [if_neg c55] at H
                          have c55b0 : decide (0 ≤ t57009) = false := decide_eq_false c55
                          clear c55
                          by_cases c67 : (((rd l1_2 (ji52)) != 0) != false) = true
                          · rw [if_pos c67] at H
                            have c67b0 : (((rd l1_2 (ji52)) != 0) != false) = true := c67
                            (try (have c67b1 : decide (((rd l1_2 (ji52)) != 0) = false) = false := by simpa using c67))
                            (try (have c67b2 : (((rd l1_2 (ji52)) != 0) == false) = false := by simpa using c67))
                            (try (have c67b3 : ¬ (((rd l1_2 (ji52)) != 0) = false) := by simpa using c67))
                            clear c67
                            obtain rfl := Option.some.inj H
                            have hnb68 := NB57001_57002.out
                            have hnc68 := NB57002_57001.out
                            have hcz69_0 : wr.cell? ⟨gb57001, 0, none⟩ = some (.slice A0_0 l0_0.length c0_0) := (blk_cell BK57001.out 0).trans rfl
                            have hcz69_1 : wr.cell? ⟨gb57001, 1, none⟩ = some (.slice A0_1 l0_1.length c0_1) := (blk_cell BK57001.out 1).trans rfl
                            have hcz69_2 : wr.cell? ⟨gb57001, 2, none⟩ = some (.int .i64 a0_2) := (blk_cell BK57001.out 2).trans rfl
                            have hfz69_0 := blk_frozen BK57001.out 0
                            have hfz69_1 := blk_frozen BK57001.out 1
                            have hfz69_2 := blk_frozen BK57001.out 2
                            go_wp2_with (first | (go_at_call 101; (with_reducible refine (spec_l08Watcher.calls k3 _ _ l0_0 _ _ l0_1 a0_2 x7_3 t57009 _ ?side1 ?side2 ?side3 ?side4 A51.out).mono ?_); (case side1 => repeat (first | exact (Kd.C_below HR0_0.out HB.out) | (with_reducible refine Kd.C_alloc ?_ _) | (with_reducible refine Kd.C_drewN ?_ _) | (with_reducible refine Kd.C_drew ?_))); (case side2 => exact HC0_0.out); (case side3 => repeat (first | exact (Kd.C_below HR0_1.out HB.out) | (with_reducible refine Kd.C_alloc ?_ _) | (with_reducible refine Kd.C_drewN ?_ _) | (with_reducible refine Kd.C_drew ?_))); (case side4 => exact HC0_1.out); rintro e w70 ⟨rfl, hb⟩; have n0_ := Aside0.mk (blk_below (g := gb57001) (o := .cells #[.slice A0_0 l0_0.length c0_0, .slice A0_1 l0_1.length c0_1, .int .i64 a0_2] 66 (0, 0)) (by (with_reducible repeat (first | refine blk_drewN ?_ _ | refine blk_drew ?_ | refine blk_alloc ?_ _)); exact BK57001.out) hb); have n1_ := Aside0.mk (blk_below (g := gb57002) (o := .cells #[.int .i64 a1_0, .slice A1_1 l1_1.length c1_1, .slice A1_2 l1_2.length c1_2] 80 (0, 0)) (by (with_reducible repeat (first | refine blk_drewN ?_ _ | refine blk_drew ?_ | refine blk_alloc ?_ _)); exact BK57002.out) hb); have n2_ := Aside0.mk (below_step (by repeat (first | (with_reducible first | exact HB.out | apply below_alloc | apply pw_below_drewN | apply below_drew1 | refine below_set ?_ GE57001.out | refine below_set ?_ GE57002.out) | exact HB.out)) hb); clear BK57001; clear BK57002; clear HB; have BK57001 := n0_; have BK57002 := n1_; have HB := n2_; clear n0_ n1_ n2_; (try clear hb); (try clear hb2); (try clear hk); (try clear hi); have hcz71_0 : w70.cell? ⟨gb57002, 0, none⟩ = some (.int .i64 a1_0) := (blk_cell BK57002.out 0).trans rfl; have hcz71_1 : w70.cell? ⟨gb57002, 1, none⟩ = some (.slice A1_1 l1_1.length c1_1) := (blk_cell BK57002.out 1).trans rfl; have hcz71_2 : w70.cell? ⟨gb57002, 2, none⟩ = some (.slice A1_2 l1_2.length c1_2) := (blk_cell BK57002.out 2).trans rfl; have hfz71_0 := blk_frozen BK57002.out 0; have hfz71_1 := blk_frozen BK57002.out 1; have hfz71_2 := blk_frozen BK57002.out 2; have p57010 : 0 ≤ ((ji52) : Int) := of_decide_eq_true (by first | (with_reducible assumption) | assumption); have q57010 : (ji52) < (l1_2.length : Int) := of_decide_eq_true (by first | (with_reducible assumption) | assumption); obtain ⟨ad57010, e57010, hx57010_0⟩ := Kd.at_int HR1_2.out (ji52) p57010 q57010; cases e57010; replace hx57010_0 := (HB.out.cell (World.block_lt_of_cell? w _ hx57010_0)).trans hx57010_0; replace p57010 := eq_true p57010; replace q57010 := eq_true q57010))
                            repeat (go_quiet (first | (go_at_call 101; (with_reducible refine (spec_l08Watcher.calls k3 _ _ l0_0 _ _ l0_1 a0_2 x7_3 t57009 _ ?side1 ?side2 ?side3 ?side4 A51.out).mono ?_); (case side1 => repeat (first | exact (Kd.C_below HR0_0.out HB.out) | (with_reducible refine Kd.C_alloc ?_ _) | (with_reducible refine Kd.C_drewN ?_ _) | (with_reducible refine Kd.C_drew ?_))); (case side2 => exact HC0_0.out); (case side3 => repeat (first | exact (Kd.C_below HR0_1.out HB.out) | (with_reducible refine Kd.C_alloc ?_ _) | (with_reducible refine Kd.C_drewN ?_ _) | (with_reducible refine Kd.C_drew ?_))); (case side4 => exact HC0_1.out); rintro e w70 ⟨rfl, hb⟩; have n0_ := Aside0.mk (blk_below (g := gb57001) (o := .cells #[.slice A0_0 l0_0.length c0_0, .slice A0_1 l0_1.length c0_1, .int .i64 a0_2] 66 (0, 0)) (by (with_reducible repeat (first | refine blk_drewN ?_ _ | refine blk_drew ?_ | refine blk_alloc ?_ _)); exact BK57001.out) hb); have n1_ := Aside0.mk (blk_below (g := gb57002) (o := .cells #[.int .i64 a1_0, .slice A1_1 l1_1.length c1_1, .slice A1_2 l1_2.length c1_2] 80 (0, 0)) (by (with_reducible repeat (first | refine blk_drewN ?_ _ | refine blk_drew ?_ | refine blk_alloc ?_ _)); exact BK57002.out) hb); have n2_ := Aside0.mk (below_step (by repeat (first | (with_reducible first | exact HB.out | apply below_alloc | apply pw_below_drewN | apply below_drew1 | refine below_set ?_ GE57001.out | refine below_set ?_ GE57002.out) | exact HB.out)) hb); clear BK57001; clear BK57002; clear HB; have BK57001 := n0_; have BK57002 := n1_; have HB := n2_; clear n0_ n1_ n2_; (try clear hb); (try clear hb2); (try clear hk); (try clear hi); have hcz71_0 : w70.cell? ⟨gb57002, 0, none⟩ = some (.int .i64 a1_0) := (blk_cell BK57002.out 0).trans rfl; have hcz71_1 : w70.cell? ⟨gb57002, 1, none⟩ = some (.slice A1_1 l1_1.length c1_1) := (blk_cell BK57002.out 1).trans rfl; have hcz71_2 : w70.cell? ⟨gb57002, 2, none⟩ = some (.slice A1_2 l1_2.length c1_2) := (blk_cell BK57002.out 2).trans rfl; have hfz71_0 := blk_frozen BK57002.out 0; have hfz71_1 := blk_frozen BK57002.out 1; have hfz71_2 := blk_frozen BK57002.out 2; have p57010 : 0 ≤ ((ji52) : Int) := of_decide_eq_true (by first | (with_reducible assumption) | assumption); have q57010 : (ji52) < (l1_2.length : Int) := of_decide_eq_true (by first | (with_reducible assumption) | assumption); obtain ⟨ad57010, e57010, hx57010_0⟩ := Kd.at_int HR1_2.out (ji52) p57010 q57010; cases e57010; replace hx57010_0 := (HB.out.cell (World.block_lt_of_cell? w _ hx57010_0)).trans hx57010_0; replace p57010 := eq_true p57010; replace q57010 := eq_true q57010)); try go_wp2_with (first | (go_at_call 101; (with_reducible refine (spec_l08Watcher.calls k3 _ _ l0_0 _ _ l0_1 a0_2 x7_3 t57009 _ ?side1 ?side2 ?side3 ?side4 A51.out).mono ?_); (case side1 => repeat (first | exact (Kd.C_below HR0_0.out HB.out) | (with_reducible refine Kd.C_alloc ?_ _) | (with_reducible refine Kd.C_drewN ?_ _) | (with_reducible refine Kd.C_drew ?_))); (case side2 => exact HC0_0.out); (case side3 => repeat (first | exact (Kd.C_below HR0_1.out HB.out) | (with_reducible refine Kd.C_alloc ?_ _) | (with_reducible refine Kd.C_drewN ?_ _) | (with_reducible refine Kd.C_drew ?_))); (case side4 => exact HC0_1.out); rintro e w70 ⟨rfl, hb⟩; have n0_ := Aside0.mk (blk_below (g := gb57001) (o := .cells #[.slice A0_0 l0_0.length c0_0, .slice A0_1 l0_1.length c0_1, .int .i64 a0_2] 66 (0, 0)) (by (with_reducible repeat (first | refine blk_drewN ?_ _ | refine blk_drew ?_ | refine blk_alloc ?_ _)); exact BK57001.out) hb); have n1_ := Aside0.mk (blk_below (g := gb57002) (o := .cells #[.int .i64 a1_0, .slice A1_1 l1_1.length c1_1, .slice A1_2 l1_2.length c1_2] 80 (0, 0)) (by (with_reducible repeat (first | refine blk_drewN ?_ _ | refine blk_drew ?_ | refine blk_alloc ?_ _)); exact BK57002.out) hb); have n2_ := Aside0.mk (below_step (by repeat (first | (with_reducible first | exact HB.out | apply below_alloc | apply pw_below_drewN | apply below_drew1 | refine below_set ?_ GE57001.out | refine below_set ?_ GE57002.out) | exact HB.out)) hb); clear BK57001; clear BK57002; clear HB; have BK57001 := n0_; have BK57002 := n1_; have HB := n2_; clear n0_ n1_ n2_; (try clear hb); (try clear hb2); (try clear hk); (try clear hi); have hcz71_0 : w70.cell? ⟨gb57002, 0, none⟩ = some (.int .i64 a1_0) := (blk_cell BK57002.out 0).trans rfl; have hcz71_1 : w70.cell? ⟨gb57002, 1, none⟩ = some (.slice A1_1 l1_1.length c1_1) := (blk_cell BK57002.out 1).trans rfl; have hcz71_2 : w70.cell? ⟨gb57002, 2, none⟩ = some (.slice A1_2 l1_2.length c1_2) := (blk_cell BK57002.out 2).trans rfl; have hfz71_0 := blk_frozen BK57002.out 0; have hfz71_1 := blk_frozen BK57002.out 1; have hfz71_2 := blk_frozen BK57002.out 2; have p57010 : 0 ≤ ((ji52) : Int) := of_decide_eq_true (by first | (with_reducible assumption) | assumption); have q57010 : (ji52) < (l1_2.length : Int) := of_decide_eq_true (by first | (with_reducible assumption) | assumption); obtain ⟨ad57010, e57010, hx57010_0⟩ := Kd.at_int HR1_2.out (ji52) p57010 q57010; cases e57010; replace hx57010_0 := (HB.out.cell (World.block_lt_of_cell? w _ hx57010_0)).trans hx57010_0; replace p57010 := eq_true p57010; replace q57010 := eq_true q57010)))
                            go_ret
                            exact ⟨by first | rfl | (simp [errW_none, errW_some] <;> rfl) | (simp only [← hji52]; first | rfl | (simp [errW_none, errW_some] <;> rfl)) | (simp [*, errW_none, errW_some] <;> rfl), by repeat (first | (with_reducible first | exact HB.out | apply below_alloc | apply pw_below_drewN | apply below_drew1 | refine below_set ?_ GE57001.out | refine below_set ?_ GE57002.out) | exact HB.out)⟩
                          · rw [if_neg c67] at H
                            have c67b0 : (((rd l1_2 (ji52)) != 0) != false) = false := by simpa using c67
                            (try (have c67b1 : decide (((rd l1_2 (ji52)) != 0) = false) = true := by simpa using c67))
                            (try (have c67b2 : (((rd l1_2 (ji52)) != 0) == false) = true := by simpa using c67))
                            clear c67
                            have H' := Aside0.mk H
                            clear H
                            have hnb72 := NB57001_57002.out
                            have hnc72 := NB57002_57001.out
                            have hcz73_0 : wr.cell? ⟨gb57001, 0, none⟩ = some (.slice A0_0 l0_0.length c0_0) := (blk_cell BK57001.out 0).trans rfl
                            have hcz73_1 : wr.cell? ⟨gb57001, 1, none⟩ = some (.slice A0_1 l0_1.length c0_1) := (blk_cell BK57001.out 1).trans rfl
                            have hcz73_2 : wr.cell? ⟨gb57001, 2, none⟩ = some (.int .i64 a0_2) := (blk_cell BK57001.out 2).trans rfl
                            have hfz73_0 := blk_frozen BK57001.out 0
                            have hfz73_1 := blk_frozen BK57001.out 1
                            have hfz73_2 := blk_frozen BK57001.out 2
                            go_wp2_with (first | (go_at_call 101; (with_reducible refine (spec_l08Watcher.calls k3 _ _ l0_0 _ _ l0_1 a0_2 x7_3 t57009 _ ?side1 ?side2 ?side3 ?side4 A51.out).mono ?_); (case side1 => repeat (first | exact (Kd.C_below HR0_0.out HB.out) | (with_reducible refine Kd.C_alloc ?_ _) | (with_reducible refine Kd.C_drewN ?_ _) | (with_reducible refine Kd.C_drew ?_))); (case side2 => exact HC0_0.out); (case side3 => repeat (first | exact (Kd.C_below HR0_1.out HB.out) | (with_reducible refine Kd.C_alloc ?_ _) | (with_reducible refine Kd.C_drewN ?_ _) | (with_reducible refine Kd.C_drew ?_))); (case side4 => exact HC0_1.out); rintro e w74 ⟨rfl, hb⟩; have n0_ := Aside0.mk (blk_below (g := gb57001) (o := .cells #[.slice A0_0 l0_0.length c0_0, .slice A0_1 l0_1.length c0_1, .int .i64 a0_2] 66 (0, 0)) (by (with_reducible repeat (first | refine blk_drewN ?_ _ | refine blk_drew ?_ | refine blk_alloc ?_ _)); exact BK57001.out) hb); have n1_ := Aside0.mk (blk_below (g := gb57002) (o := .cells #[.int .i64 a1_0, .slice A1_1 l1_1.length c1_1, .slice A1_2 l1_2.length c1_2] 80 (0, 0)) (by (with_reducible repeat (first | refine blk_drewN ?_ _ | refine blk_drew ?_ | refine blk_alloc ?_ _)); exact BK57002.out) hb); have n2_ := Aside0.mk (below_step (by repeat (first | (with_reducible first | exact HB.out | apply below_alloc | apply pw_below_drewN | apply below_drew1 | refine below_set ?_ GE57001.out | refine below_set ?_ GE57002.out) | exact HB.out)) hb); clear BK57001; clear BK57002; clear HB; have BK57001 := n0_; have BK57002 := n1_; have HB := n2_; clear n0_ n1_ n2_; (try clear hb); (try clear hb2); (try clear hk); (try clear hi); have hcz75_0 : w74.cell? ⟨gb57002, 0, none⟩ = some (.int .i64 a1_0) := (blk_cell BK57002.out 0).trans rfl; have hcz75_1 : w74.cell? ⟨gb57002, 1, none⟩ = some (.slice A1_1 l1_1.length c1_1) := (blk_cell BK57002.out 1).trans rfl; have hcz75_2 : w74.cell? ⟨gb57002, 2, none⟩ = some (.slice A1_2 l1_2.length c1_2) := (blk_cell BK57002.out 2).trans rfl; have hfz75_0 := blk_frozen BK57002.out 0; have hfz75_1 := blk_frozen BK57002.out 1; have hfz75_2 := blk_frozen BK57002.out 2; have p57010 : 0 ≤ ((ji52) : Int) := of_decide_eq_true (by first | (with_reducible assumption) | assumption); have q57010 : (ji52) < (l1_2.length : Int) := of_decide_eq_true (by first | (with_reducible assumption) | assumption); obtain ⟨ad57010, e57010, hx57010_0⟩ := Kd.at_int HR1_2.out (ji52) p57010 q57010; cases e57010; replace hx57010_0 := (HB.out.cell (World.block_lt_of_cell? w _ hx57010_0)).trans hx57010_0; replace p57010 := eq_true p57010; replace q57010 := eq_true q57010))
                            repeat (go_quiet (first | (go_at_call 101; (with_reducible refine (spec_l08Watcher.calls k3 _ _ l0_0 _ _ l0_1 a0_2 x7_3 t57009 _ ?side1 ?side2 ?side3 ?side4 A51.out).mono ?_); (case side1 => repeat (first | exact (Kd.C_below HR0_0.out HB.out) | (with_reducible refine Kd.C_alloc ?_ _) | (with_reducible refine Kd.C_drewN ?_ _) | (with_reducible refine Kd.C_drew ?_))); (case side2 => exact HC0_0.out); (case side3 => repeat (first | exact (Kd.C_below HR0_1.out HB.out) | (with_reducible refine Kd.C_alloc ?_ _) | (with_reducible refine Kd.C_drewN ?_ _) | (with_reducible refine Kd.C_drew ?_))); (case side4 => exact HC0_1.out); rintro e w74 ⟨rfl, hb⟩; have n0_ := Aside0.mk (blk_below (g := gb57001) (o := .cells #[.slice A0_0 l0_0.length c0_0, .slice A0_1 l0_1.length c0_1, .int .i64 a0_2] 66 (0, 0)) (by (with_reducible repeat (first | refine blk_drewN ?_ _ | refine blk_drew ?_ | refine blk_alloc ?_ _)); exact BK57001.out) hb); have n1_ := Aside0.mk (blk_below (g := gb57002) (o := .cells #[.int .i64 a1_0, .slice A1_1 l1_1.length c1_1, .slice A1_2 l1_2.length c1_2] 80 (0, 0)) (by (with_reducible repeat (first | refine blk_drewN ?_ _ | refine blk_drew ?_ | refine blk_alloc ?_ _)); exact BK57002.out) hb); have n2_ := Aside0.mk (below_step (by repeat (first | (with_reducible first | exact HB.out | apply below_alloc | apply pw_below_drewN | apply below_drew1 | refine below_set ?_ GE57001.out | refine below_set ?_ GE57002.out) | exact HB.out)) hb); clear BK57001; clear BK57002; clear HB; have BK57001 := n0_; have BK57002 := n1_; have HB := n2_; clear n0_ n1_ n2_; (try clear hb); (try clear hb2); (try clear hk); (try clear hi); have hcz75_0 : w74.cell? ⟨gb57002, 0, none⟩ = some (.int .i64 a1_0) := (blk_cell BK57002.out 0).trans rfl; have hcz75_1 : w74.cell? ⟨gb57002, 1, none⟩ = some (.slice A1_1 l1_1.length c1_1) := (blk_cell BK57002.out 1).trans rfl; have hcz75_2 : w74.cell? ⟨gb57002, 2, none⟩ = some (.slice A1_2 l1_2.length c1_2) := (blk_cell BK57002.out 2).trans rfl; have hfz75_0 := blk_frozen BK57002.out 0; have hfz75_1 := blk_frozen BK57002.out 1; have hfz75_2 := blk_frozen BK57002.out 2; have p57010 : 0 ≤ ((ji52) : Int) := of_decide_eq_true (by first | (with_reducible assumption) | assumption); have q57010 : (ji52) < (l1_2.length : Int) := of_decide_eq_true (by first | (with_reducible assumption) | assumption); obtain ⟨ad57010, e57010, hx57010_0⟩ := Kd.at_int HR1_2.out (ji52) p57010 q57010; cases e57010; replace hx57010_0 := (HB.out.cell (World.block_lt_of_cell? w _ hx57010_0)).trans hx57010_0; replace p57010 := eq_true p57010; replace q57010 := eq_true q57010)); try go_wp2_with (first | (go_at_call 101; (with_reducible refine (spec_l08Watcher.calls k3 _ _ l0_0 _ _ l0_1 a0_2 x7_3 t57009 _ ?side1 ?side2 ?side3 ?side4 A51.out).mono ?_); (case side1 => repeat (first | exact (Kd.C_below HR0_0.out HB.out) | (with_reducible refine Kd.C_alloc ?_ _) | (with_reducible refine Kd.C_drewN ?_ _) | (with_reducible refine Kd.C_drew ?_))); (case side2 => exact HC0_0.out); (case side3 => repeat (first | exact (Kd.C_below HR0_1.out HB.out) | (with_reducible refine Kd.C_alloc ?_ _) | (with_reducible refine Kd.C_drewN ?_ _) | (with_reducible refine Kd.C_drew ?_))); (case side4 => exact HC0_1.out); rintro e w74 ⟨rfl, hb⟩; have n0_ := Aside0.mk (blk_below (g := gb57001) (o := .cells #[.slice A0_0 l0_0.length c0_0, .slice A0_1 l0_1.length c0_1, .int .i64 a0_2] 66 (0, 0)) (by (with_reducible repeat (first | refine blk_drewN ?_ _ | refine blk_drew ?_ | refine blk_alloc ?_ _)); exact BK57001.out) hb); have n1_ := Aside0.mk (blk_below (g := gb57002) (o := .cells #[.int .i64 a1_0, .slice A1_1 l1_1.length c1_1, .slice A1_2 l1_2.length c1_2] 80 (0, 0)) (by (with_reducible repeat (first | refine blk_drewN ?_ _ | refine blk_drew ?_ | refine blk_alloc ?_ _)); exact BK57002.out) hb); have n2_ := Aside0.mk (below_step (by repeat (first | (with_reducible first | exact HB.out | apply below_alloc | apply pw_below_drewN | apply below_drew1 | refine below_set ?_ GE57001.out | refine below_set ?_ GE57002.out) | exact HB.out)) hb); clear BK57001; clear BK57002; clear HB; have BK57001 := n0_; have BK57002 := n1_; have HB := n2_; clear n0_ n1_ n2_; (try clear hb); (try clear hb2); (try clear hk); (try clear hi); have hcz75_0 : w74.cell? ⟨gb57002, 0, none⟩ = some (.int .i64 a1_0) := (blk_cell BK57002.out 0).trans rfl; have hcz75_1 : w74.cell? ⟨gb57002, 1, none⟩ = some (.slice A1_1 l1_1.length c1_1) := (blk_cell BK57002.out 1).trans rfl; have hcz75_2 : w74.cell? ⟨gb57002, 2, none⟩ = some (.slice A1_2 l1_2.length c1_2) := (blk_cell BK57002.out 2).trans rfl; have hfz75_0 := blk_frozen BK57002.out 0; have hfz75_1 := blk_frozen BK57002.out 1; have hfz75_2 := blk_frozen BK57002.out 2; have p57010 : 0 ≤ ((ji52) : Int) := of_decide_eq_true (by first | (with_reducible assumption) | assumption); have q57010 : (ji52) < (l1_2.length : Int) := of_decide_eq_true (by first | (with_reducible assumption) | assumption); obtain ⟨ad57010, e57010, hx57010_0⟩ := Kd.at_int HR1_2.out (ji52) p57010 q57010; cases e57010; replace hx57010_0 := (HB.out.cell (World.block_lt_of_cell? w _ hx57010_0)).trans hx57010_0; replace p57010 := eq_true p57010; replace q57010 := eq_true q57010)))
                            go_roundg k3
                            case measure => have := HJ2.out; have := HK2.out; have := HK3.out; omega
                            case rel => exact ⟨(wrap64 (x7_3 + 1)), (by first | rfl | (simp; done) | (simp [*]; done)), H', ⟨by have := HJ2.out; have := HK2.out; have := HK3.out; omega⟩, ⟨by (with_reducible repeat (first | refine blk_drewN ?_ _ | refine blk_drew ?_ | refine blk_alloc ?_ _)); exact BK57001.out⟩, ⟨by (with_reducible repeat (first | refine blk_drewN ?_ _ | refine blk_drew ?_ | refine blk_alloc ?_ _)); exact BK57002.out⟩, ⟨by repeat (first | (with_reducible first | exact HB.out | apply below_alloc | apply pw_below_drewN | apply below_drew1 | refine below_set ?_ GE57001.out | refine below_set ?_ GE57002.out) | exact HB.out)⟩⟩
                      · rw [if_neg c54] at H
                        exact absurd H (by simp)
                    · rw [if_neg c53] at H
                      exact absurd H (by simp)
                  · rw [if_neg c50] at H
                    have c50b0 : decide (x7_3 ≤ 3) = false := decide_eq_false c50
                    clear c50
                    obtain rfl := Option.some.inj H
                    go_wp2
                    repeat (go_quiet (fail); try go_wp2)
                    go_ret
                    exact ⟨by first | rfl | (simp [errW_none, errW_some] <;> rfl) | (simp [*, errW_none, errW_some] <;> rfl), by repeat (first | (with_reducible first | exact HB.out | apply below_alloc | apply pw_below_drewN | apply below_drew1 | refine below_set ?_ GE57001.out | refine below_set ?_ GE57002.out) | exact HB.out)⟩

end Go.Proofs.Ytpoffpdaadhkgaa.Pr

namespace Go.Proofs.Ytpoffpdaadhkgaa.Pr
open Go.RowKit Go.Proofs.YtpoffpdaadhkgaaW.PrintWords Go.Proofs.YtpoffpdaadhkgaaW.PrintLast Go.Proofs.YtpoffpdaadhkgaaW.PrintMore
attribute [local go_sem] max2_int min2_int max_two min_two max_three min_three max_four min_four
set_option linter.unusedVariables false
set_option linter.unusedSimpArgs false

/-! ### impl_Node: function 155 (by hand) -/
-- IMPORT Derived.Deep.LoopGhost
-- IMPORT Derived.Shelf.Abstract
-- IMPORT Derived.Test.YtpoffpdaadhkgaaQNice
open Go.Proofs.Ytpoffpdaadhkgaa.Ni
set_option maxHeartbeats 4000000 in
theorem impl_Node.any (p : S120 → Bool) (g : Nat) (lb : Array Value) (eg : ∀ args w, (callFunc g args).run Try.prog w = .ok (.enter g args) w) (A0 : Option Addr) (c0 : Nat) (l0 : List S120) (w : World) (hr0 : Kd.C k120 w A0 l0.length l0)
    (hp : ∀ (W : World) (x : S120) (A1_ : Option Addr) (c1_ : Nat), x ∈ l0 → Below w.heap.size w W → x.f1.length ≤ c1_ → Kd.C (Kd.int .i64) W A1_ x.f1.length x.f1 → Calls Try.prog g (#[.agg #[.string x.f0, .slice A1_ x.f1.length c1_, .int .i64 x.f2]] ++ lb) W fun e w' => e = .returned (.bool (p x)) ∧ Below W.heap.size W w') :
    Calls Try.prog 155 #[.slice A0 l0.length c0, .func (.func g) #[] lb] w fun e w' => e = .returned (.int .i64 (idxOf p l0)) ∧ Below w.heap.size w w' := by
  have HR0 := Aside0.mk hr0
  have HP := Aside0.mk hp
  clear hr0 hp
  have HL : l0.length ≤ 9223372036854775807 := HR0.out.2.1
  go_enter Try.func155, Try.ntmps155
  go_wp2
  go_loopg [5, 8] l0.length (fun gg _ s8 wr => ∃ kk : Nat, Aside0 (kk ≤ l0.length) ∧ Aside0 (l0.length - kk ≤ gg) ∧ s8 = .int .i64 kk ∧ Aside0 (Below w.heap.size w wr) ∧ Aside0 (∀ j y, j < kk → l0[j]? = some y → p y = false))
  case atStart => exact ⟨0, ⟨Nat.zero_le _⟩, ⟨by omega⟩, rfl, ⟨Below.refl _ _⟩, ⟨fun j y hj => absurd hj (Nat.not_lt_zero _)⟩⟩
  case round =>
    obtain ⟨kk, HK, HG, rfl, HB, HN⟩ := hrel
    by_cases hlt : kk < l0.length
    · have hltz : (kk : Int) < (l0.length : Int) := by omega
      obtain ⟨ad, A1_, c1_, e1, hx0, hx1, hx2, l1_, g1_⟩ := at_T120 HR0.out (kk : Int) (by omega) hltz
      cases e1
      replace hx0 := (HB.out.cell (World.block_lt_of_cell? w _ hx0)).trans hx0
      rw [Int.toNat_natCast] at hx0
      replace hx1 := (HB.out.cell (World.block_lt_of_cell? w _ hx1)).trans hx1
      rw [Int.toNat_natCast] at hx1
      replace hx2 := (HB.out.cell (World.block_lt_of_cell? w _ hx2)).trans hx2
      rw [Int.toNat_natCast] at hx2
      have hxe : l0[kk]? = some (rd_T120 l0 (kk : Int)) := by
        unfold rd_T120
        rw [Int.toNat_natCast, List.getD_eq_getElem?_getD, List.getElem?_eq_getElem hlt]; rfl

      generalize rd_T120 l0 (kk : Int) = y at hx0 hx1 hx2 l1_ g1_ hxe
      have HX := Aside0.mk hxe
      clear hxe
      have hcall := HP.out wr y A1_ c1_ (List.mem_of_getElem? HX.out) HB.out l1_ (Kd.C_below g1_ HB.out)
      clear g1_ l1_
      cases hq : p y with
      | true =>
        have HQ := Aside0.mk hq
        rw [hq] at hcall
        clear hq
        go_wp2_with (go_at_fn g; refine hcall.mono ?_; rintro e w' ⟨rfl, hb⟩)
        go_ret
        exact ⟨by rw [idxOf_hit p l0 kk y HX.out HQ.out HN.out]; rfl, HB.out.trans (hb.mono HB.out.size)⟩
      | false =>
        have HQ := Aside0.mk hq
        rw [hq] at hcall
        clear hq
        go_wp2_with (go_at_fn g; refine hcall.mono ?_; rintro e w' ⟨rfl, hb⟩)
        go_roundg (l0.length - (kk + 1))
        case measure => have := HG.out; omega
        case rel =>
          refine ⟨kk + 1, ⟨by omega⟩, ⟨by omega⟩, by go_num, ⟨HB.out.trans (hb.mono HB.out.size)⟩, ⟨fun j y' hj hy => ?_⟩⟩
          by_cases e : j = kk
          · subst e
            rw [HX.out] at hy
            cases hy
            exact HQ.out
          · exact HN.out j y' (by omega) hy
    · have hltz : ¬ (kk : Int) < (l0.length : Int) := by omega
      have : kk = l0.length := by have := HK.out; omega
      subst this
      go_wp2
      go_ret
      exact ⟨by rw [idxOf_miss p l0 HN.out]; rfl, HB.out⟩

end Go.Proofs.Ytpoffpdaadhkgaa.Pr

namespace Go.Proofs.Ytpoffpdaadhkgaa.Pr
open Go.RowKit Go.Proofs.YtpoffpdaadhkgaaW.PrintWords Go.Proofs.YtpoffpdaadhkgaaW.PrintLast Go.Proofs.YtpoffpdaadhkgaaW.PrintMore
attribute [local go_sem] max2_int min2_int max_two min_two max_three min_three max_four min_four
set_option linter.unusedVariables false
set_option linter.unusedSimpArgs false

/-! ### impl_watcher: function 102 (by hand) -/
open Go.Proofs.Ytpoffpdaadhkgaa.Ni
-- IMPORT Derived.Test.YtpoffpdaadhkgaaQNice
def pwatchI (ns : List S120) (p : Int) : Int := idxOf (fun n => decide (0 < p) && decide (n.f2 = p)) ns
def impl_watcher.f (l0_0 : List (S120)) (l0_1 : List (S126)) (a0_2 : Int) (a1 : Int) : Option Int := some (pwatchI l0_0 a1)
theorem impl_watcher_1.clo (B : Nat) (p : Int) (W : World) (hB : W.cell? ⟨B, 0, none⟩ = some (.int .i64 p)) (x : S120) (A1_ : Option Addr) (c1_ : Nat) :
    Calls Try.prog 156 #[.agg #[.string x.f0, .slice A1_ x.f1.length c1_, .int .i64 x.f2], .pointer (some ⟨B, 0, none⟩)] W fun e w' => e = .returned (.bool (decide (0 < p) && decide (x.f2 = p))) ∧ Below W.heap.size W w' := by
  have hlt : B < W.heap.size := World.block_lt_of_cell? W _ hB
  have HE := Aside0.mk (show (x.f2 == p) = decide (x.f2 = p) by rw [Bool.eq_iff_iff]; simp)
  cases hp : decide (0 < p) with
  | false =>
    go_enter Try.func156, Try.ntmps156
    go_wp2
    go_ret
    exact ⟨rfl, (Below.refl _ _).alloc (Nat.le_refl _) _⟩
  | true =>
    go_enter Try.func156, Try.ntmps156
    go_wp2
    go_ret
    exact ⟨by rw [← HE.out]; rfl, (Below.refl _ _).alloc (Nat.le_refl _) _⟩
set_option maxHeartbeats 4000000 in
theorem impl_watcher.calls (A0_0 : Option Addr) (c0_0 : Nat) (l0_0 : List (S120)) (A0_1 : Option Addr) (c0_1 : Nat) (l0_1 : List (S126)) (a0_2 : Int) (a1 : Int) (r : Int) (w : World) (hr0_0 : Kd.C k120 w A0_0 l0_0.length l0_0) (hc0_0 : l0_0.length ≤ c0_0) (hr0_1 : Kd.C k126 w A0_1 l0_1.length l0_1) (hc0_1 : l0_1.length ≤ c0_1) (h : impl_watcher.f l0_0 l0_1 a0_2 a1 = some r) :
    Calls Try.prog 102 #[.agg #[.slice A0_0 l0_0.length c0_0, .slice A0_1 l0_1.length c0_1, .int .i64 a0_2], .int .i64 a1] w fun e w' => e = .returned (.int .i64 r) ∧ Below w.heap.size w w' := by
  obtain rfl := Option.some.inj h
  have HC' := Aside0.mk fun (W : World) (B : Nat) (hb : Below w.heap.size w W) (hcell : W.cell? ⟨B, 0, none⟩ = some (.int .i64 a1)) => impl_Node.any (fun n => decide (0 < a1) && decide (n.f2 = a1)) 156 #[.pointer (some ⟨B, 0, none⟩)] (enters_of Try.func156 (by kernel_rfl) rfl) A0_0 c0_0 l0_0 W (Kd.C_below hr0_0 hb)
        (fun W' x A1_ c1_ _ hb' _ _ => impl_watcher_1.clo B a1 W' ((hb'.cell (World.block_lt_of_cell? W _ hcell)).trans hcell) x A1_ c1_)
  clear hr0_0 hr0_1 h
  have HB2 := Aside0.mk (((Below.refl w.heap.size w).alloc (Nat.le_refl _) (.cells #[.slice A0_0 l0_0.length c0_0, .slice A0_1 l0_1.length c0_1, .int .i64 a0_2] 66)).alloc (by simp) (.cells #[.int .i64 a1] 3))
  have hu := Try.underlying66
  go_enter Try.func102, Try.ntmps102
  go_wp2_with fail
  refine (HC'.out _ _ HB2.out (by go_simp)).mono ?_
  rintro e w' ⟨rfl, hb⟩
  go_wp2
  go_ret
  exact ⟨rfl, HB2.out.trans (hb.mono HB2.out.size)⟩

end Go.Proofs.Ytpoffpdaadhkgaa.Pr

namespace Go.Proofs.Ytpoffpdaadhkgaa.Pr
open Go.RowKit Go.Proofs.YtpoffpdaadhkgaaW.PrintWords Go.Proofs.YtpoffpdaadhkgaaW.PrintLast Go.Proofs.YtpoffpdaadhkgaaW.PrintMore
attribute [local go_sem] max2_int min2_int max_two min_two max_three min_three max_four min_four
set_option linter.unusedVariables false
set_option linter.unusedSimpArgs false

/-! ### impl_ValuesOk_1: function 180 -/
def impl_ValuesOk_1.f (a0 : Int) : Option (Bool) := if a0 < (-1) then (some true) else (some (decide (a0 > 1)))
set_option maxHeartbeats 8000000 in
set_option maxRecDepth 100000 in
theorem impl_ValuesOk_1.calls (a0 : Int) (r : Bool) (w : World) (h : impl_ValuesOk_1.f a0 = some r) :
    Calls Try.prog 180 #[.int .i64 a0] w fun e w' => e = .returned (.bool r) ∧ Drawn0 w w' := by
  have H : (if a0 < (-1) then (some true) else (some (decide (a0 > 1)))) = some r := h
  clear h
  by_cases c2 : a0 < (-1)
  · rw [if_pos c2] at H
    have c2b0 : decide (a0 < (-1)) = true := decide_eq_true c2
    clear c2
    obtain rfl := Option.some.inj H
    go_enter Try.func180, Try.ntmps180
    go_wp2
    go_ret
    exact ⟨by first | rfl | (simp; done) | (simp [*]; done), by repeat (first | exact Drawn0.refl _ | apply Drawn0.step)⟩
  · rw [if_neg c2] at H
    have c2b0 : decide (a0 < (-1)) = false := decide_eq_false c2
    clear c2
    obtain rfl := Option.some.inj H
    go_enter Try.func180, Try.ntmps180
    go_wp2
    go_ret
    exact ⟨by first | rfl | (simp; done) | (simp [*]; done), by repeat (first | exact Drawn0.refl _ | apply Drawn0.step)⟩

end Go.Proofs.Ytpoffpdaadhkgaa.Pr

namespace Go.Proofs.Ytpoffpdaadhkgaa.Pr
open Go.RowKit Go.Proofs.YtpoffpdaadhkgaaW.PrintWords Go.Proofs.YtpoffpdaadhkgaaW.PrintLast Go.Proofs.YtpoffpdaadhkgaaW.PrintMore
attribute [local go_sem] max2_int min2_int max_two min_two max_three min_three max_four min_four
set_option linter.unusedVariables false
set_option linter.unusedSimpArgs false

/-! ### impl_ValuesOk: function 159 (by hand) -/
open Go.Proofs.Ytpoffpdaadhkgaa.Ni
-- IMPORT Derived.Test.YtpoffpdaadhkgaaQNice
def impl_ValuesOk.f (l0 : List Int) : Option Bool := some (valsB l0)
theorem impl_ValuesOk.calls (A0 : Option Addr) (c0 : Nat) (l0 : List Int) (r : Bool) (w : World) (hr0 : Kd.C (Kd.int .i64) w A0 l0.length l0) (hc0 : l0.length ≤ c0) (h : impl_ValuesOk.f l0 = some r) :
    Calls Try.prog 159 #[.slice A0 l0.length c0] w fun e w' => e = .returned (.bool r) ∧ Below w.heap.size w w' := by
  obtain rfl : valsB l0 = r := Option.some.inj h
  have hv : l0.length = 3 → (!(l0.any fun n => decide (n < -1) || decide (n > 1))) = valsB l0 := fun hl => by
    unfold valsB
    rw [decide_eq_true hl, Bool.true_and, List.not_any_eq_all_not]
    congr 1
    funext n
    rw [Bool.eq_iff_iff]
    simp
  have hn : ¬ l0.length = 3 → valsB l0 = false := fun hl => by simp [valsB, hl]
  have HV := Aside0.mk hv
  have HN := Aside0.mk hn
  have HC := Aside0.mk (slices_ContainsFunc_int_int.any (fun n => decide (n < -1) || decide (n > 1)) 180 #[] (enters_of Try.func180 (by kernel_rfl) rfl) A0 c0 l0 w hr0
    (fun W x _ _ => (impl_ValuesOk_1.calls x (decide (x < -1) || decide (x > 1)) W (by
      unfold impl_ValuesOk_1.f
      by_cases h1 : x < -1
      · rw [if_pos h1, decide_eq_true h1]; rfl
      · rw [if_neg h1, decide_eq_false h1]; rfl)).mono fun e w' ⟨he, hd⟩ => ⟨he, hd.below⟩))
  clear hv hn h hr0 hc0
  by_cases hl : l0.length = 3
  · have h3 : ((l0.length : Int) == 3) = true := by rw [beq_iff_eq]; omega
    have HL := Aside0.mk hl
    clear hl
    go_enter Try.func159, Try.ntmps159
    go_wp2_with (go_at_call 77; refine HC.out.mono ?_; rintro e w' ⟨rfl, hb⟩)
    go_ret
    exact ⟨by rw [← HV.out HL.out]; rfl, hb⟩
  · have h3 : ((l0.length : Int) == 3) = false := by rw [beq_eq_false_iff_ne]; omega
    have HL := Aside0.mk hl
    clear hl
    go_enter Try.func159, Try.ntmps159
    go_wp2
    go_ret
    exact ⟨by rw [HN.out HL.out]; rfl, Below.refl _ _⟩

end Go.Proofs.Ytpoffpdaadhkgaa.Pr

